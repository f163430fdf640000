import PyProof.Rows.All
import Wide.All
import OpenK.AllK
import Wide.FinOn
import HandS.ForMost
import HandS.ForExc
import HandS.Lambda
import HandS.EndTab
import HandS.ExcInit
import HandS.IsInst
import HandS.Style
import HandS.Wide
import HandS.Flow
import HandS.Gcd
import HandS.RaiseMore
import HandS.ExcField
import HandS.Walk
import HandS.HotCalls
import KE.KExcIs
import PyProof.ReprRoads
import HandS.TupAny
import PyProof.Rows.SortShellAny
import KE.KTupSum
import HandS.ExcIs
import PySem.Challenge.RW_fourbends_k68_whole_triples
set_option Elab.async false
set_option linter.all false
set_option maxRecDepth 100000
set_option maxHeartbeats 4000000
namespace Jac
/-! ### lists -/
theorem perm_of_sub : ∀ {l l' : List Nat}, l.Nodup → (∀ x ∈ l, x ∈ l') → l'.length ≤ l.length → l.Perm l'
  | [], l', _, _, h => by
    have : l' = [] := List.length_eq_zero_iff.mp (by simpa using h)
    subst this; exact .nil
  | a :: r, l', hn, hs, h => by
    have ha := hs a List.mem_cons_self
    have hn' := List.nodup_cons.mp hn
    refine List.Perm.trans ?_ (List.perm_cons_erase ha).symm
    refine List.Perm.cons a (perm_of_sub hn'.2 (fun x hx => ?_) ?_)
    · have hxa : x ≠ a := fun e => hn'.1 (e ▸ hx)
      exact (List.mem_erase_of_ne hxa).mpr (hs x (List.mem_cons_of_mem _ hx))
    · rw [List.length_erase_of_mem ha]
      simp at h
      omega
theorem perm_map {l : List Nat} {f : Nat → Nat} (hn : l.Nodup) (hf : ∀ x ∈ l, f x ∈ l) (hi : ∀ x ∈ l, ∀ y ∈ l, f x = f y → x = y) : (l.map f).Perm l := by
  refine perm_of_sub ?_ (fun y hy => ?_) (by simp)
  · unfold List.Nodup
    rw [List.pairwise_map]
    exact List.Pairwise.imp_of_mem (fun {x y} hx hy ne e => ne (hi x hx y hy e)) hn
  · obtain ⟨x, hx, rfl⟩ := List.mem_map.mp hy
    exact hf x hx
/-- a product of signs over a list -/
def sg (f : Nat → Bool) (l : List Nat) : Bool := l.foldr (fun x b => xor (f x) b) false
theorem sg_perm {f : Nat → Bool} {l l' : List Nat} (h : l.Perm l') : sg f l = sg f l' := by
  unfold sg
  exact h.foldr_eq' (fun x _ y _ z => by cases f x <;> cases f y <;> cases z <;> rfl) false
theorem sg_map (f : Nat → Bool) (g : Nat → Nat) (l : List Nat) : sg f (l.map g) = sg (fun x => f (g x)) l := by
  unfold sg; rw [List.foldr_map]
theorem sg_xor (f g : Nat → Bool) : ∀ l : List Nat, sg (fun x => xor (f x) (g x)) l = xor (sg f l) (sg g l)
  | [] => rfl
  | a :: r => by
    have := sg_xor f g r
    simp only [sg, List.foldr_cons] at this ⊢
    rw [this]
    cases f a <;> cases g a <;> cases (List.foldr (fun x b => xor (f x) b) false r) <;> cases (List.foldr (fun x b => xor (g x) b) false r) <;> rfl
theorem sg_congr {f g : Nat → Bool} : ∀ {l : List Nat}, (∀ x ∈ l, f x = g x) → sg f l = sg g l
  | [], _ => rfl
  | a :: r, h => by
    have := sg_congr (f := f) (g := g) (l := r) fun x hx => h x (List.mem_cons_of_mem _ hx)
    simp only [sg, List.foldr_cons] at this ⊢
    rw [this, h a List.mem_cons_self]

/-! ### residues -/
/-- 1 .. h -/
def half (n : Nat) : List Nat := List.range' 1 ((n - 1) / 2)
theorem mem_half {n k : Nat} : k ∈ half n ↔ 1 ≤ k ∧ k ≤ (n - 1) / 2 := by
  unfold half
  rw [List.mem_range'_1]; omega
theorem nodup_half (n : Nat) : (half n).Nodup := List.nodup_range' 1
def neg (a n k : Nat) : Bool := decide (n < 2 * ((a * k) % n))
def pi (a n k : Nat) : Nat := if neg a n k then n - (a * k) % n else (a * k) % n
theorem res_pos {a n k : Nat} (hc : Nat.Coprime a n) (hk : 1 ≤ k) (hk2 : k < n) : 0 < (a * k) % n := by
  rcases Nat.eq_zero_or_pos ((a * k) % n) with h | h
  · have : n ∣ a * k := Nat.dvd_of_mod_eq_zero h
    have := (Nat.Coprime.symm hc).dvd_of_dvd_mul_left this
    have := Nat.le_of_dvd hk this
    omega
  · exact h
theorem pi_mem {a n k : Nat} (ho : n % 2 = 1) (hc : Nat.Coprime a n) (hk : k ∈ half n) : pi a n k ∈ half n := by
  have hk' := mem_half.mp hk
  have h0 := res_pos (a := a) (n := n) hc hk'.1 (by omega)
  have h1 : (a * k) % n < n := Nat.mod_lt _ (by omega)
  rw [mem_half]
  unfold pi neg
  by_cases h : n < 2 * ((a * k) % n)
  · simp only [h, decide_true, if_true]; omega
  · simp only [h, decide_false]; simp; omega
/-- a k = +- pi mod n -/
theorem pi_spec {a n k : Nat} (hn : 0 < n) : ∃ q : Int, (a : Int) * k = n * q + (if neg a n k then -(pi a n k : Int) else (pi a n k : Int)) := by
  have h1 : (a * k) % n < n := Nat.mod_lt _ hn
  have e : (a * k : Nat) = n * ((a * k) / n) + (a * k) % n := (Nat.div_add_mod _ _).symm
  have e' : (a : Int) * k = n * (((a * k) / n : Nat) : Int) + (((a * k) % n : Nat) : Int) := by exact_mod_cast e
  unfold pi neg
  by_cases h : n < 2 * ((a * k) % n)
  · refine ⟨(((a * k) / n : Nat) : Int) + 1, ?_⟩
    simp only [h, decide_true, if_true]
    rw [e', Int.mul_add, Int.mul_one]
    omega
  · refine ⟨(((a * k) / n : Nat) : Int), ?_⟩
    simp only [h, decide_false]
    simp
    exact e'
theorem coprime_dvd {a n : Nat} {x : Int} (hc : Nat.Coprime a n) (h : (n : Int) ∣ (a : Int) * x) : (n : Int) ∣ x := by
  have h2 : n ∣ (a * x.natAbs) := by
    have := Int.natAbs_dvd_natAbs.mpr h
    simpa [Int.natAbs_mul] using this
  exact Int.ofNat_dvd_left.mpr ((Nat.Coprime.symm hc).dvd_of_dvd_mul_left h2)
theorem pi_inj {a n k j : Nat} (ho : n % 2 = 1) (hc : Nat.Coprime a n) (hk : k ∈ half n) (hj : j ∈ half n) (e : pi a n k = pi a n j) : k = j := by
  have hk' := mem_half.mp hk
  have hj' := mem_half.mp hj
  obtain ⟨q1, e1⟩ := pi_spec (a := a) (n := n) (k := k) (by omega)
  obtain ⟨q2, e2⟩ := pi_spec (a := a) (n := n) (k := j) (by omega)
  rw [← e] at e2
  have key : (n : Int) ∣ (k : Int) - j ∨ (n : Int) ∣ (k : Int) + j := by
    cases h1 : neg a n k <;> cases h2 : neg a n j <;> simp [h1, h2] at e1 e2
    · left; exact coprime_dvd hc ⟨q1 - q2, by rw [Int.mul_sub, Int.mul_sub]; omega⟩
    · right; exact coprime_dvd hc ⟨q1 + q2, by rw [Int.mul_add, Int.mul_add]; omega⟩
    · right; exact coprime_dvd hc ⟨q1 + q2, by rw [Int.mul_add, Int.mul_add]; omega⟩
    · left; exact coprime_dvd hc ⟨q1 - q2, by rw [Int.mul_sub, Int.mul_sub]; omega⟩
  rcases key with h | h
  · rcases Int.lt_trichotomy ((k : Int) - j) 0 with z | z | z
    · have := Int.le_of_dvd (a := n) (b := (j : Int) - k) (by omega) (by rw [show (j : Int) - k = -((k : Int) - j) by omega]; exact Int.dvd_neg.mpr h)
      omega
    · omega
    · have := Int.le_of_dvd (by omega) h
      omega
  · have := Int.le_of_dvd (by omega) h
    omega
theorem pi_perm {a n : Nat} (ho : n % 2 = 1) (hc : Nat.Coprime a n) : ((half n).map (pi a n)).Perm (half n) :=
  perm_map (nodup_half n) (fun _ hx => pi_mem ho hc hx) fun _ hx _ hy e => pi_inj ho hc hx hy e
/-- the sign of a by n: true is -1 -/
def mu (a n : Nat) : Bool := sg (neg a n) (half n)
theorem neg_mod (a n k : Nat) : neg (a % n) n k = neg a n k := by unfold neg; rw [Nat.mod_mul_mod]
theorem mu_mod (a n : Nat) : mu (a % n) n = mu a n := by
  unfold mu; exact sg_congr fun k _ => neg_mod a n k
theorem neg_mul {a b n k : Nat} (ho : n % 2 = 1) (ha : Nat.Coprime a n) (hb : Nat.Coprime b n) (hk : k ∈ half n) : neg (a * b) n k = xor (neg b n k) (neg a n (pi b n k)) := by
  have hk' := mem_half.mp hk
  have hb0 := res_pos (a := b) (n := n) hb hk'.1 (by omega)
  have hb1 : (b * k) % n < n := Nat.mod_lt _ (by omega)
  have e0 : (a * b * k) % n = (a * ((b * k) % n)) % n := by rw [Nat.mul_mod_mod, Nat.mul_assoc]
  cases h : neg b n k
  · have : pi b n k = (b * k) % n := by unfold pi; rw [h]; rfl
    rw [this]
    unfold neg
    rw [e0]; simp
  · have hp : pi b n k = n - (b * k) % n := by unfold pi; rw [h]; rfl
    rw [hp]
    have hm := res_pos (a := a) (n := n) (k := (b * k) % n) ha hb0 hb1
    have hl : (a * ((b * k) % n)) % n < n := Nat.mod_lt _ (by omega)
    have e1 : (a * (n - (b * k) % n)) % n = n - (a * ((b * k) % n)) % n := by
      have hz : (a * (n - (b * k) % n) + a * ((b * k) % n)) % n = 0 := by
        rw [← Nat.mul_add, Nat.sub_add_cancel (Nat.le_of_lt hb1), Nat.mul_mod_left]
      rw [Nat.add_mod] at hz
      have l1 : (a * (n - (b * k) % n)) % n < n := Nat.mod_lt _ (by omega)
      generalize (a * (n - (b * k) % n)) % n = u at *
      generalize (a * ((b * k) % n)) % n = v at *
      have : u + v = n := by
        have hd := Nat.dvd_of_mod_eq_zero hz
        obtain ⟨c, hc⟩ := hd
        have : c = 1 := by
          rcases Nat.lt_or_ge c 1 with z | z
          · have : c = 0 := by omega
            subst this; omega
          · rcases Nat.lt_or_ge c 2 with y | y
            · omega
            · have := Nat.mul_le_mul_left n y; omega
        subst this; omega
      omega
    unfold neg
    rw [e0, e1]
    have : (decide (n < 2 * (a * ((b * k) % n) % n))) = !(decide (n < 2 * (n - a * ((b * k) % n) % n))) := by
      generalize (a * ((b * k) % n)) % n = v at *
      by_cases z : n < 2 * v
      · have : ¬ n < 2 * (n - v) := by omega
        simp [z, this]
      · have : n < 2 * (n - v) := by omega
        simp [z, this]
    rw [this]; simp
theorem mu_mul {a b n : Nat} (ho : n % 2 = 1) (ha : Nat.Coprime a n) (hb : Nat.Coprime b n) : mu (a * b) n = xor (mu a n) (mu b n) := by
  unfold mu
  rw [sg_congr (g := fun k => xor (neg b n k) (neg a n (pi b n k))) fun k hk => neg_mul ho ha hb hk, sg_xor, ← sg_map (neg a n) (pi b n), sg_perm (pi_perm ho hb), Bool.xor_comm]

/-! ### reciprocity -/
def odd (n : Nat) : Bool := decide (n % 2 = 1)
theorem odd_add (a b : Nat) : odd (a + b) = xor (odd a) (odd b) := by
  unfold odd
  rcases Nat.mod_two_eq_zero_or_one a with h | h <;> rcases Nat.mod_two_eq_zero_or_one b with h' | h' <;> simp [Nat.add_mod, h, h']
theorem odd_mul (a b : Nat) : odd (a * b) = (odd a && odd b) := by
  unfold odd
  rcases Nat.mod_two_eq_zero_or_one a with h | h <;> rcases Nat.mod_two_eq_zero_or_one b with h' | h' <;> simp [Nat.mul_mod, h, h']
theorem par_step {m n k : Nat} (hm : m % 2 = 1) (ho : n % 2 = 1) : odd k = xor (odd ((m * k) / n)) (xor (neg m n k) (odd (pi m n k))) := by
  have h1 : (m * k) % n < n := Nat.mod_lt _ (by omega)
  have e : (m * k : Nat) = n * ((m * k) / n) + (m * k) % n := (Nat.div_add_mod _ _).symm
  have e1 : odd (m * k) = odd k := by rw [odd_mul]; simp [odd, hm]
  have e2 : odd (m * k) = xor (odd ((m * k) / n)) (odd ((m * k) % n)) := by
    rw [e, odd_add, odd_mul, ← e]
    simp [odd, ho]
  rw [← e1, e2]
  congr 1
  unfold pi
  cases h : neg m n k
  · simp
  · simp only [if_true]
    have hs : odd (n - m * k % n) = !(odd (m * k % n)) := by
      unfold odd
      generalize (m * k) % n = v at *
      rcases Nat.mod_two_eq_zero_or_one v with z | z <;> simp [z] <;> omega
    rw [hs]; simp
theorem mu_floor {m n : Nat} (hm : m % 2 = 1) (ho : n % 2 = 1) (hc : Nat.Coprime m n) : mu m n = sg (fun k => odd ((m * k) / n)) (half n) := by
  have h1 : sg odd (half n) = xor (sg (fun k => odd ((m * k) / n)) (half n)) (xor (mu m n) (sg odd (half n))) := by
    have : sg odd (half n) = sg (fun k => xor (odd ((m * k) / n)) (xor (neg m n k) (odd (pi m n k)))) (half n) := sg_congr fun k _ => par_step hm ho
    rw [sg_xor, sg_xor, ← sg_map odd (pi m n), sg_perm (pi_perm ho hc)] at this
    exact this
  revert h1
  cases mu m n <;> cases sg (fun k => odd ((m * k) / n)) (half n) <;> cases sg odd (half n) <;> simp
theorem sg_append (f : Nat → Bool) : ∀ l l' : List Nat, sg f (l ++ l') = xor (sg f l) (sg f l')
  | [], l' => by simp [sg]
  | a :: r, l' => by
    have := sg_append f r l'
    simp only [sg, List.cons_append, List.foldr_cons] at this ⊢
    rw [this]; simp
theorem sg_le : ∀ (h q : Nat), q ≤ h → sg (fun j => decide (j ≤ q)) (List.range' 1 h) = odd q
  | 0, q, hq => by
    have : q = 0 := by omega
    subst this; rfl
  | h + 1, q, hq => by
    rw [List.range'_concat, sg_append]
    rcases Nat.lt_or_ge q (h + 1) with z | z
    · rw [sg_le h q (by omega)]
      have : ¬ (1 + h ≤ q) := by omega
      simp [sg, this]
    · have e : q = h + 1 := by omega
      subst e
      have : sg (fun j => decide (j ≤ h + 1)) (List.range' 1 h) = sg (fun j => decide (j ≤ h)) (List.range' 1 h) := sg_congr fun x hx => by
        rw [List.mem_range'_1] at hx
        have a1 : x ≤ h := by omega
        have a2 : x ≤ h + 1 := by omega
        simp [a1, a2]
      rw [this, sg_le h h (Nat.le_refl _), odd_add]
      have : 1 + h ≤ h + 1 := by omega
      simp [sg, this, odd]
theorem floor_sg {m n k : Nat} (hm : m % 2 = 1) (ho : n % 2 = 1) (hc : Nat.Coprime m n) (hk : k ∈ half n) : odd ((m * k) / n) = sg (fun j => decide (n * j < m * k)) (half m) := by
  have hk' := mem_half.mp hk
  have hq : (m * k) / n ≤ (m - 1) / 2 := by
    have h1 : m * k / n < (m - 1) / 2 + 1 := by
      rw [Nat.div_lt_iff_lt_mul (by omega)]
      have h2 : 2 * (m * k) ≤ m * (n - 1) := by
        have : 2 * (m * k) = m * (2 * k) := by rw [Nat.mul_left_comm]
        rw [this]
        exact Nat.mul_le_mul_left m (by omega)
      have h3 : m * (n - 1) < m * n := Nat.mul_lt_mul_of_pos_left (by omega) (by omega)
      have h4 : 2 * (((m - 1) / 2 + 1) * n) = (m + 1) * n := by
        rw [← Nat.mul_assoc]
        congr 1; omega
      have h5 : (m + 1) * n = m * n + n := Nat.succ_mul m n
      omega
    omega
  unfold half
  rw [← sg_le _ _ hq]
  refine sg_congr fun j hj => ?_
  have : (j ≤ m * k / n) ↔ (n * j < m * k) := by
    rw [Nat.le_div_iff_mul_le (by omega), Nat.mul_comm j n]
    constructor
    · intro h
      rcases Nat.lt_or_ge (n * j) (m * k) with z | z
      · exact z
      · have e : n * j = m * k := by omega
        have : n ∣ m * k := ⟨j, e.symm⟩
        have := (Nat.Coprime.symm hc).dvd_of_dvd_mul_left this
        have := Nat.le_of_dvd hk'.1 this
        omega
    · omega
  simp [this]
theorem sg_swap (f : Nat → Nat → Bool) (l' : List Nat) : ∀ l : List Nat, sg (fun k => sg (fun j => f k j) l') l = sg (fun j => sg (fun k => f k j) l) l'
  | [] => by
    show false = _
    induction l' with
    | nil => rfl
    | cons a r ih => simp only [sg, List.foldr_cons, List.foldr_nil] at ih ⊢; rw [← ih]; rfl
  | a :: r => by
    have ih := sg_swap f l' r
    have e : sg (fun j => sg (fun k => f k j) (a :: r)) l' = sg (fun j => xor (f a j) (sg (fun k => f k j) r)) l' := rfl
    rw [e, sg_xor, ← ih]; rfl
theorem sg_true : ∀ l : List Nat, sg (fun _ => true) l = odd l.length
  | [] => rfl
  | a :: r => by
    have := sg_true r
    simp only [sg, List.foldr_cons, List.length_cons] at this ⊢
    rw [this, odd_add]; simp [odd]
theorem half_len (n : Nat) : (half n).length = (n - 1) / 2 := by unfold half; simp
theorem recip {m n : Nat} (hm : m % 2 = 1) (ho : n % 2 = 1) (hc : Nat.Coprime m n) : xor (mu m n) (mu n m) = (odd ((m - 1) / 2) && odd ((n - 1) / 2)) := by
  have e1 : mu m n = sg (fun k => sg (fun j => decide (n * j < m * k)) (half m)) (half n) := by
    rw [mu_floor hm ho hc]; exact sg_congr fun k hk => floor_sg hm ho hc hk
  have e2 : mu n m = sg (fun j => sg (fun k => decide (m * k < n * j)) (half n)) (half m) := by
    rw [mu_floor ho hm (Nat.Coprime.symm hc)]; exact sg_congr fun k hk => floor_sg ho hm (Nat.Coprime.symm hc) hk
  rw [e1, e2, ← sg_swap (fun k j => decide (m * k < n * j)), ← sg_xor]
  have : sg (fun k => xor (sg (fun j => decide (n * j < m * k)) (half m)) (sg (fun j => decide (m * k < n * j)) (half m))) (half n) = sg (fun _ => odd ((m - 1) / 2)) (half n) := by
    refine sg_congr fun k hk => ?_
    rw [← sg_xor]
    rw [← half_len m, ← sg_true]
    refine sg_congr fun j hj => ?_
    have hk' := mem_half.mp hk
    have ne : n * j ≠ m * k := fun e => by
      have : n ∣ m * k := ⟨j, e.symm⟩
      have := (Nat.Coprime.symm hc).dvd_of_dvd_mul_left this
      have := Nat.le_of_dvd hk'.1 this
      omega
    rcases Nat.lt_or_ge (n * j) (m * k) with z | z
    · have : ¬ (m * k < n * j) := by omega
      simp [z, this]
    · have a : ¬ (n * j < m * k) := by omega
      have b : m * k < n * j := by omega
      simp [a, b]
  rw [this]
  have cst : ∀ (b : Bool) (l : List Nat), sg (fun _ => b) l = (b && odd l.length) := fun b l => by
    cases b
    · simp
      induction l with
      | nil => rfl
      | cons a r ih => simpa [sg] using ih
    · simp; exact sg_true l
  rw [cst, half_len]
theorem mu_two {n : Nat} (ho : n % 2 = 1) : mu 2 n = decide (n % 8 = 3 ∨ n % 8 = 5) := by
  have e : mu 2 n = xor (sg (fun _ => true) (half n)) (sg (fun j => decide (j ≤ n / 4)) (half n)) := by
    unfold mu
    rw [← sg_xor]
    refine sg_congr fun k hk => ?_
    have hk' := mem_half.mp hk
    unfold neg
    rw [Nat.mod_eq_of_lt (show 2 * k < n by omega)]
    by_cases z : n < 2 * (2 * k)
    · have : ¬ k ≤ n / 4 := by omega
      simp [z, this]
    · have : k ≤ n / 4 := by omega
      simp [z, this]
  rw [e, sg_true, half_len]
  unfold half
  rw [sg_le _ _ (by omega)]
  unfold odd
  have h8 : n % 8 = 1 ∨ n % 8 = 3 ∨ n % 8 = 5 ∨ n % 8 = 7 := by omega
  rcases h8 with h | h | h | h
  · have a : ((n - 1) / 2) % 2 = 0 := by omega
    have b : (n / 4) % 2 = 0 := by omega
    simp [a, b, h]
  · have a : ((n - 1) / 2) % 2 = 1 := by omega
    have b : (n / 4) % 2 = 0 := by omega
    simp [a, b, h]
  · have a : ((n - 1) / 2) % 2 = 0 := by omega
    have b : (n / 4) % 2 = 1 := by omega
    simp [a, b, h]
  · have a : ((n - 1) / 2) % 2 = 1 := by omega
    have b : (n / 4) % 2 = 1 := by omega
    simp [a, b, h]
theorem mu_neg {n : Nat} (ho : n % 2 = 1) : mu (n - 1) n = odd ((n - 1) / 2) := by
  unfold mu
  rw [← half_len, ← sg_true]
  refine sg_congr fun k hk => ?_
  have hk' := mem_half.mp hk
  unfold neg
  have : ((n - 1) * k) % n = n - k := by
    have e : (n - 1) * k = n * (k - 1) + (n - k) := by
      have h1 : n * k = n * (k - 1) + n := by
        rw [← Nat.mul_succ]; congr 1; omega
      have h2 : (n - 1) * k = n * k - k := by rw [Nat.sub_mul]; simp
      omega
    rw [e, Nat.mul_add_mod, Nat.mod_eq_of_lt (by omega)]
  rw [this]
  have : n < 2 * (n - k) := by omega
  simp [this]
theorem mu_one {n : Nat} (ho : n % 2 = 1) : mu 1 n = false := by
  unfold mu
  have : sg (neg 1 n) (half n) = sg (fun _ => false) (half n) := sg_congr fun k hk => by
    have hk' := mem_half.mp hk
    unfold neg
    rw [Nat.one_mul, Nat.mod_eq_of_lt (by omega)]
    have : ¬ n < 2 * k := by omega
    simp [this]
  rw [this]
  generalize half n = l
  induction l with
  | nil => rfl
  | cons a r ih => simpa [sg] using ih

/-! ### the symbol of an integer by an odd number -/
def rs (t : Int) (n : Nat) : Nat := (t % (n : Int)).toNat
theorem rs_cast {t : Int} {n : Nat} (hn : 0 < n) : ((rs t n : Nat) : Int) = t % (n : Int) := by
  unfold rs
  exact Int.toNat_of_nonneg (Int.emod_nonneg _ (by omega))
theorem rs_lt {t : Int} {n : Nat} (hn : 0 < n) : rs t n < n := by
  have := Int.emod_lt_of_pos t (show (0 : Int) < n by omega)
  have := rs_cast (t := t) hn
  omega
theorem rs_nat (a n : Nat) : rs (a : Int) n = a % n := by
  unfold rs; rw [← Int.natCast_emod, Int.toNat_natCast]
def bs (b : Bool) : Int := if b then -1 else 1
theorem bs_xor (a b : Bool) : bs (xor a b) = bs a * bs b := by cases a <;> cases b <;> rfl
def jac (t : Int) (n : Nat) : Int := if Nat.gcd (rs t n) n = 1 then bs (mu (rs t n) n) else 0
theorem gcd_mod' (a n : Nat) : Nat.gcd (a % n) n = Nat.gcd a n := by rw [Nat.gcd_comm a n, Nat.gcd_rec n a]
theorem jac_nat {a n : Nat} : jac (a : Int) n = if Nat.gcd a n = 1 then bs (mu a n) else 0 := by
  unfold jac
  rw [rs_nat]
  have h := gcd_mod' a n
  by_cases hc : Nat.gcd a n = 1
  · rw [if_pos hc, if_pos (h.trans hc), mu_mod]
  · rw [if_neg hc, if_neg fun z => hc (h.symm.trans z)]

theorem rs_mul (s t : Int) (n : Nat) (hn : 0 < n) : rs (s * t) n = (rs s n * rs t n) % n := by
  have h : ((rs (s * t) n : Nat) : Int) = (((rs s n * rs t n) % n : Nat) : Int) := by
    rw [rs_cast hn, Int.natCast_emod, Int.natCast_mul, rs_cast hn, rs_cast hn, ← Int.mul_emod]
  exact_mod_cast h
theorem jac_cong {s t : Int} {n : Nat} (h : s % (n : Int) = t % (n : Int)) : jac s n = jac t n := by
  unfold jac rs; rw [h]
theorem jac_rs (t : Int) {n : Nat} (hn : 0 < n) : jac t n = jac ((rs t n : Nat) : Int) n := jac_cong (by rw [rs_cast hn, Int.emod_emod])
theorem jac_mul {s t : Int} {n : Nat} (ho : n % 2 = 1) : jac (s * t) n = jac s n * jac t n := by
  have hn : 0 < n := by omega
  rw [jac_rs s hn, jac_rs t hn, jac_cong (t := ((rs s n * rs t n : Nat) : Int)) (by rw [Int.natCast_mul, rs_cast hn, rs_cast hn, ← Int.mul_emod])]
  generalize rs s n = a
  generalize rs t n = b
  rw [jac_nat, jac_nat, jac_nat]
  by_cases ha : Nat.gcd a n = 1
  · by_cases hb : Nat.gcd b n = 1
    · rw [if_pos ha, if_pos hb, if_pos (Nat.Coprime.mul_left ha hb), mu_mul ho ha hb, bs_xor]
    · rw [if_neg hb, if_neg fun h => hb (Nat.Coprime.coprime_mul_left h)]; simp
  · rw [if_neg ha, if_neg fun h => ha (Nat.Coprime.coprime_mul_right h)]; simp
theorem jac_odd {a n : Nat} (ha : a % 2 = 1) (ho : n % 2 = 1) : jac (a : Int) n = jac (n : Int) a * bs (odd ((a - 1) / 2) && odd ((n - 1) / 2)) := by
  rw [jac_nat, jac_nat]
  by_cases hc : Nat.gcd a n = 1
  · rw [if_pos hc, if_pos (by rw [Nat.gcd_comm]; exact hc), ← recip ha ho hc, bs_xor]
    cases mu a n <;> cases mu n a <;> rfl
  · rw [if_neg hc, if_neg (by rw [Nat.gcd_comm]; exact hc)]; simp
theorem jac_zero {n : Nat} : jac 0 n = if n = 1 then 1 else 0 := by
  have := jac_nat (a := 0) (n := n)
  simp at this
  rw [this]
  by_cases h : n = 1
  · subst h; rfl
  · simp [h]
theorem jac_one {n : Nat} (ho : n % 2 = 1) : jac 1 n = 1 := by
  have := jac_nat (a := 1) (n := n)
  simp at this
  rw [this, mu_one ho]; rfl
theorem jac_two {n : Nat} (ho : n % 2 = 1) : jac 2 n = if n % 8 = 1 ∨ n % 8 = 7 then 1 else -1 := by
  have := jac_nat (a := 2) (n := n)
  have hc : Nat.gcd 2 n = 1 := by
    rw [Nat.gcd_rec, ho]; rfl
  rw [if_pos hc, mu_two ho] at this
  have e : ((2 : Nat) : Int) = 2 := rfl
  rw [e] at this
  rw [this]
  have h8 : n % 8 = 1 ∨ n % 8 = 3 ∨ n % 8 = 5 ∨ n % 8 = 7 := by omega
  rcases h8 with h | h | h | h <;> simp [h, bs]
theorem jac_neg {n : Nat} (ho : n % 2 = 1) : jac (-1) n = if n % 4 = 1 then 1 else -1 := by
  have h1 : jac (-1) n = jac ((n - 1 : Nat) : Int) n := jac_cong (by
    have : ((n - 1 : Nat) : Int) = -1 + n * 1 := by omega
    rw [this, Int.add_mul_emod_self_left])
  have hc : Nat.gcd (n - 1) n = 1 := by
    have : Nat.gcd (n - 1) n = Nat.gcd (n - 1) (n - 1 + 1) := by congr 1; omega
    rw [this]; simp
  rw [h1, jac_nat, if_pos hc, mu_neg ho]
  unfold odd
  have h4 : n % 4 = 1 ∨ n % 4 = 3 := by omega
  rcases h4 with h | h
  · have : ((n - 1) / 2) % 2 = 0 := by omega
    simp [this, h, bs]
  · have : ((n - 1) / 2) % 2 = 1 := by omega
    simp [this, h, bs]
theorem odd_half {m n : Nat} (hm : m % 2 = 1) (ho : n % 2 = 1) : odd ((m * n - 1) / 2) = xor (odd ((m - 1) / 2)) (odd ((n - 1) / 2)) := by
  have hm' : m = 2 * ((m - 1) / 2) + 1 := by omega
  have hn' : n = 2 * ((n - 1) / 2) + 1 := by omega
  generalize (m - 1) / 2 = x at *
  generalize (n - 1) / 2 = y at *
  subst hm' hn'
  have : (2 * x + 1) * (2 * y + 1) = 2 * (2 * (x * y) + (x + y)) + 1 := by grind
  rw [this, ← odd_add]
  have : (2 * (2 * (x * y) + (x + y)) + 1 - 1) / 2 = 2 * (x * y) + (x + y) := by omega
  rw [this, odd_add]
  simp [odd]
theorem odd_rep (t : Int) {n : Nat} (ho : n % 2 = 1) : ∃ a : Nat, a % 2 = 1 ∧ (a : Int) % n = t % n := by
  have hn : 0 < n := by omega
  have hr := rs_cast (t := t) hn
  by_cases h : rs t n % 2 = 1
  · exact ⟨rs t n, h, by rw [hr, Int.emod_emod]⟩
  · refine ⟨rs t n + n, by omega, ?_⟩
    rw [Int.natCast_add, hr, Int.add_emod_right, Int.emod_emod]
theorem jac_mul_right {t : Int} {m n : Nat} (hm : m % 2 = 1) (ho : n % 2 = 1) : jac t (m * n) = jac t m * jac t n := by
  have hmn : (m * n) % 2 = 1 := by rw [Nat.mul_mod, hm, ho]
  obtain ⟨a, ha, e⟩ := odd_rep t hmn
  have em : t % (m : Int) = (a : Int) % m := by
    rw [← Int.emod_emod_of_dvd t (show (m : Int) ∣ ((m * n : Nat) : Int) from ⟨n, by simp⟩), ← e, Int.emod_emod_of_dvd]
    exact ⟨n, by simp⟩
  have en : t % (n : Int) = (a : Int) % n := by
    rw [← Int.emod_emod_of_dvd t (show (n : Int) ∣ ((m * n : Nat) : Int) from ⟨m, by rw [Nat.mul_comm]; simp⟩), ← e, Int.emod_emod_of_dvd]
    exact ⟨m, by rw [Nat.mul_comm]; simp⟩
  rw [jac_cong e.symm, jac_cong em, jac_cong en, jac_odd ha hmn, jac_odd ha hm, jac_odd ha ho, Int.natCast_mul, jac_mul ha, odd_half hm ho]
  cases odd ((a - 1) / 2) <;> cases odd ((m - 1) / 2) <;> cases odd ((n - 1) / 2) <;> simp [bs, Int.neg_mul, Int.mul_neg]
theorem gcd_emod_left (t : Int) (n : Int) : Int.gcd (t % n) n = Int.gcd t n := by
  have h := Int.gcd_mul_left_add_left n (t % n) (t / n)
  rw [Int.mul_ediv_add_emod] at h
  exact h.symm
theorem gcd_two_mul {t : Int} {c : Nat} : Int.gcd t ((2 : Int) * (c : Int)) = 1 ↔ (Int.gcd t 2 = 1 ∧ Int.gcd t c = 1) := by
  unfold Int.gcd
  rw [Int.natAbs_mul]
  constructor
  · intro h
    exact ⟨Nat.Coprime.coprime_mul_right_right h, Nat.Coprime.coprime_mul_left_right h⟩
  · intro h
    exact Nat.Coprime.mul_right h.1 h.2
theorem jac_coprime {t : Int} {n : Nat} (hn : 0 < n) : Nat.gcd (rs t n) n = Int.gcd t n := by
  have h : Int.gcd ((rs t n : Nat) : Int) n = Int.gcd t n := by
    rw [rs_cast hn, gcd_emod_left]
  rw [← h]; rfl
theorem jac_ne {t : Int} {n : Nat} (hn : 0 < n) (h : Int.gcd t n ≠ 1) : jac t n = 0 := by
  unfold jac
  rw [if_neg]
  rw [jac_coprime hn]; exact h
theorem jac_pm {t : Int} {n : Nat} (hn : 0 < n) (h : Int.gcd t n = 1) : jac t n = 1 ∨ jac t n = -1 := by
  unfold jac
  rw [if_pos (by rw [jac_coprime hn]; exact h)]
  cases mu (rs t n) n
  · left; rfl
  · right; rfl
/-! ### by any number from 1 on -/
def s2 (t : Int) : Int := if t % 2 = 0 then 0 else if t % 8 = 1 ∨ t % 8 = 7 then 1 else -1
theorem s2_mul (s t : Int) : s2 (s * t) = s2 s * s2 t := by
  have e : (s * t) % 8 = ((s % 8) * (t % 8)) % 8 := Int.mul_emod s t 8
  have h2 : ∀ x : Int, x % 2 = (x % 8) % 2 := fun x => by omega
  unfold s2
  rw [h2 (s * t), h2 s, h2 t, e]
  have hs : s % 8 = 0 ∨ s % 8 = 1 ∨ s % 8 = 2 ∨ s % 8 = 3 ∨ s % 8 = 4 ∨ s % 8 = 5 ∨ s % 8 = 6 ∨ s % 8 = 7 := by omega
  have ht : t % 8 = 0 ∨ t % 8 = 1 ∨ t % 8 = 2 ∨ t % 8 = 3 ∨ t % 8 = 4 ∨ t % 8 = 5 ∨ t % 8 = 6 ∨ t % 8 = 7 := by omega
  rcases hs with h | h | h | h | h | h | h | h <;> rcases ht with h' | h' | h' | h' | h' | h' | h' | h' <;> rw [h, h'] <;> rfl
theorem jac_two' {n : Nat} (ho : n % 2 = 1) : jac 2 n = s2 n := by
  rw [jac_two ho]
  unfold s2
  have : ¬ ((n : Int) % 2 = 0) := by omega
  rw [if_neg this]
  by_cases h : n % 8 = 1 ∨ n % 8 = 7
  · rw [if_pos h, if_pos (by omega)]
  · rw [if_neg h, if_neg (by omega)]
def kr (t : Int) (b : Nat) : Int := if b = 0 then 0 else if b % 2 = 0 then s2 t * kr t (b / 2) else jac t b
termination_by b
decreasing_by omega
theorem kr_even {t : Int} {b : Nat} (h0 : 0 < b) (h : b % 2 = 0) : kr t b = s2 t * kr t (b / 2) := by
  rw [kr, if_neg (by omega), if_pos h]
theorem kr_odd {t : Int} {b : Nat} (h : b % 2 = 1) : kr t b = jac t b := by
  rw [kr, if_neg (by omega), if_neg (by omega)]
theorem kr_mul : ∀ {b : Nat} {s t : Int}, 0 < b → kr (s * t) b = kr s b * kr t b := by
  intro b
  induction b using Nat.strongRecOn with
  | ind b ih =>
    intro s t h0
    rcases Nat.mod_two_eq_zero_or_one b with h | h
    · rw [kr_even h0 h, kr_even h0 h, kr_even h0 h, ih (b / 2) (by omega) (by omega), s2_mul]
      grind
    · rw [kr_odd h, kr_odd h, kr_odd h, jac_mul h]
theorem kr_mul_right : ∀ {b : Nat} {c : Nat} {t : Int}, 0 < b → 0 < c → kr t (b * c) = kr t b * kr t c := by
  intro b
  induction b using Nat.strongRecOn with
  | ind b ih =>
    intro c t h0 h1
    rcases Nat.mod_two_eq_zero_or_one b with h | h
    · have e : b * c / 2 = b / 2 * c := by
        have : b = 2 * (b / 2) := by omega
        rw [this, Nat.mul_assoc, Nat.mul_div_cancel_left _ (by omega)]
        congr 1; omega
      rw [kr_even (Nat.mul_pos h0 h1) (by rw [Nat.mul_mod, h]; simp), e, ih (b / 2) (by omega) (by omega) h1, kr_even h0 h, Int.mul_assoc]
    · revert t h1
      induction c using Nat.strongRecOn with
      | ind c ihc =>
        intro t h1
        rcases Nat.mod_two_eq_zero_or_one c with h' | h'
        · have e : b * c / 2 = b * (c / 2) := by
            have : c = 2 * (c / 2) := by omega
            rw [this, Nat.mul_left_comm, Nat.mul_div_cancel_left _ (by omega)]
            congr 1; omega
          rw [kr_even (Nat.mul_pos h0 h1) (by rw [Nat.mul_mod, h']; simp), e, ihc (c / 2) (by omega) (by omega), kr_even h1 h']
          grind
        · rw [kr_odd h, kr_odd h', kr_odd (by rw [Nat.mul_mod, h, h']), jac_mul_right h h']
theorem kr_per : ∀ {b : Nat} {t q : Int}, 0 < b → kr (t + b * 8 * q) b = kr t b := by
  intro b
  induction b using Nat.strongRecOn with
  | ind b ih =>
    intro t q h0
    rcases Nat.mod_two_eq_zero_or_one b with h | h
    · have e : t + (b : Int) * 8 * q = t + ((b / 2 : Nat) : Int) * 8 * (2 * q) := by
        have : (b : Int) = 2 * ((b / 2 : Nat) : Int) := by omega
        rw [this]; grind
      rw [kr_even h0 h, kr_even h0 h]
      have h8 : (t + (b : Int) * 8 * q) % 8 = t % 8 := by
        have : t + (b : Int) * 8 * q = t + 8 * (b * q) := by grind
        rw [this, Int.add_mul_emod_self_left]
      have es : s2 (t + (b : Int) * 8 * q) = s2 t := by
        have h2 : ∀ x : Int, x % 2 = (x % 8) % 2 := fun x => by omega
        unfold s2
        rw [h2 (t + (b : Int) * 8 * q), h2 t, h8]
      rw [es, e, ih (b / 2) (by omega) (by omega)]
    · rw [kr_odd h, kr_odd h]
      refine jac_cong ?_
      have : t + (b : Int) * 8 * q = t + b * (8 * q) := by grind
      rw [this, Int.add_mul_emod_self_left]
theorem kr_zero_one : ∀ {b : Nat} {t : Int}, 0 < b → (Int.gcd t b = 1 → kr t b = 1 ∨ kr t b = -1) ∧ (Int.gcd t b ≠ 1 → kr t b = 0) := by
  intro b
  induction b using Nat.strongRecOn with
  | ind b ih =>
    intro t h0
    rcases Nat.mod_two_eq_zero_or_one b with h | h
    · rw [kr_even h0 h]
      obtain ⟨i1, i2⟩ := ih (b / 2) (by omega) (t := t) (by omega)
      have e : Int.gcd t b = 1 ↔ (Int.gcd t ((b / 2 : Nat) : Int) = 1 ∧ t % 2 ≠ 0) := by
        have hb : (b : Int) = 2 * ((b / 2 : Nat) : Int) := by omega
        have h2 : Int.gcd t 2 = 1 ↔ t % 2 ≠ 0 := by
          rw [← gcd_emod_left]
          rcases Int.emod_two_eq t with z | z <;> rw [z] <;> decide
        rw [hb, gcd_two_mul, h2]
        exact And.comm
      constructor
      · intro hc
        obtain ⟨c1, c2⟩ := e.mp hc
        have : s2 t = 1 ∨ s2 t = -1 := by
          unfold s2; rw [if_neg c2]; split <;> simp
        rcases this with z | z <;> rcases i1 c1 with y | y <;> rw [z, y] <;> simp
      · intro hc
        by_cases c2 : t % 2 = 0
        · have : s2 t = 0 := by unfold s2; rw [if_pos c2]
          rw [this]; simp
        · rw [i2 fun c1 => hc (e.mpr ⟨c1, c2⟩)]; simp
    · rw [kr_odd h]
      exact ⟨jac_pm h0, jac_ne h0⟩

theorem kr_sq {t : Int} {b : Nat} (h0 : 0 < b) : kr (t * t) b = if Int.gcd t b = 1 then 1 else 0 := by
  rw [kr_mul h0]
  obtain ⟨i1, i2⟩ := kr_zero_one (t := t) h0
  by_cases h : Int.gcd t b = 1
  · rw [if_pos h]; rcases i1 h with z | z <;> rw [z] <;> rfl
  · rw [if_neg h, i2 h]; rfl
/-! ### primes -/
def Pr (p : Nat) : Prop := 2 ≤ p ∧ ∀ q, 2 ≤ q → q < p → p % q ≠ 0
theorem pr_cop {p a : Nat} (hp : Pr p) (h : ¬ p ∣ a) : Nat.Coprime a p := by
  have hd : Nat.gcd a p ∣ p := Nat.gcd_dvd_right a p
  have hl := Nat.le_of_dvd (by have := hp.1; omega) hd
  rcases Nat.lt_or_ge (Nat.gcd a p) 2 with z | z
  · have : 0 < Nat.gcd a p := Nat.gcd_pos_of_pos_right a (by have := hp.1; omega)
    show Nat.gcd a p = 1
    omega
  · rcases Nat.lt_or_ge (Nat.gcd a p) p with y | y
    · exact absurd (Nat.mod_eq_zero_of_dvd hd) (hp.2 _ z y)
    · have e : Nat.gcd a p = p := by omega
      exact absurd (e ▸ Nat.gcd_dvd_left a p) h
theorem pr_euclid {p a b : Nat} (hp : Pr p) (h : p ∣ a * b) : p ∣ a ∨ p ∣ b := by
  by_cases ha : p ∣ a
  · exact .inl ha
  · exact .inr ((Nat.Coprime.symm (pr_cop hp ha)).dvd_of_dvd_mul_left h)
def R (p : Nat) : List Nat := List.range' 1 (p - 1)
theorem mem_R {p k : Nat} (hp : 2 ≤ p) : k ∈ R p ↔ 1 ≤ k ∧ k < p := by
  unfold R; rw [List.mem_range'_1]; omega
theorem mulg_perm {p g : Nat} (hp : Pr p) (hg : ¬ p ∣ g) : ((R p).map fun x => (g * x) % p).Perm (R p) := by
  have h2 := hp.1
  refine perm_map (List.nodup_range' 1) (fun x hx => ?_) fun x hx y hy e => ?_
  · have hx := (mem_R h2).mp hx
    exact (mem_R h2).mpr ⟨res_pos (pr_cop hp hg) hx.1 hx.2, Nat.mod_lt _ (by omega)⟩
  · have hx := (mem_R h2).mp hx
    have hy := (mem_R h2).mp hy
    have e' : ((g * x : Nat) : Int) % p = ((g * y : Nat) : Int) % p := by exact_mod_cast e
    have hd : (p : Int) ∣ (g : Int) * ((x : Int) - y) := by
      have := Int.dvd_of_emod_eq_zero (Int.emod_eq_emod_iff_emod_sub_eq_zero.mp e')
      rw [Int.mul_sub]
      simpa using this
    have hd' := coprime_dvd (pr_cop hp hg) hd
    rcases Int.lt_trichotomy ((x : Int) - y) 0 with z | z | z
    · have := Int.le_of_dvd (a := p) (b := (y : Int) - x) (by omega) (by rw [show (y : Int) - x = -((x : Int) - y) by omega]; exact Int.dvd_neg.mpr hd')
      omega
    · omega
    · have := Int.le_of_dvd (by omega) hd'
      omega
theorem jac_pm_nat {p k : Nat} (hp : Pr p) (hk : k ∈ R p) : jac (k : Int) p = 1 ∨ jac (k : Int) p = -1 := by
  have h2 := hp.1
  have hk := (mem_R h2).mp hk
  refine jac_pm (by omega) ?_
  have : Nat.Coprime k p := pr_cop hp fun hd => by have := Nat.le_of_dvd (by omega) hd; omega
  exact this
theorem plus_len {p g : Nat} (hp : Pr p) (ho : p % 2 = 1) (hg : jac (g : Int) p = -1) : ((R p).filter fun k : Nat => decide (jac (k : Int) p = 1)).length = (p - 1) / 2 := by
  have h2 := hp.1
  have ng : ¬ p ∣ g := fun hd => by
    have e : jac (g : Int) p = jac 0 p := jac_cong (by
      have : (p : Int) ∣ (g : Int) := Int.ofNat_dvd.mpr hd
      rw [Int.emod_eq_zero_of_dvd this]; simp)
    rw [e, jac_zero, if_neg (by omega)] at hg
    exact absurd hg (by decide)
  have c1 : (R p).countP (fun k : Nat => decide (jac (k : Int) p = 1)) = (R p).countP (fun k : Nat => decide (jac (k : Int) p = -1)) := by
    rw [← (mulg_perm hp ng).countP_eq, List.countP_map]
    refine List.countP_congr fun x hx => ?_
    have e : jac (((g * x) % p : Nat) : Int) p = - jac (x : Int) p := by
      rw [jac_cong (t := ((g : Int) * x)) (by rw [Int.natCast_emod, Int.emod_emod, Int.natCast_mul]), jac_mul ho, hg]; omega
    simp only [Function.comp, decide_eq_true_eq]
    rw [e]
    omega
  have c2 : (R p).countP (fun k : Nat => decide (jac (k : Int) p = -1)) = (R p).countP (fun k : Nat => !decide (jac (k : Int) p = 1)) := by
    refine List.countP_congr fun x hx => ?_
    rcases jac_pm_nat hp hx with z | z <;> rw [z] <;> decide
  have c3 := List.length_eq_countP_add_countP (fun k : Nat => decide (jac (k : Int) p = 1)) (l := R p)
  rw [← List.countP_eq_length_filter]
  have hl : (R p).length = p - 1 := by unfold R; simp
  have c4 : (R p).countP (fun k : Nat => decide (¬ (decide (jac (k : Int) p = 1)) = true)) = (R p).countP (fun k : Nat => !decide (jac (k : Int) p = 1)) := List.countP_congr fun x hx => by simp
  omega
theorem sq_mem {p t : Nat} {g : Nat} (hp : Pr p) (ho : p % 2 = 1) (hg : jac (g : Int) p = -1) (ht : t ∈ R p) (h : jac (t : Int) p = 1) : ∃ x, 1 ≤ x ∧ x < p ∧ (x * x) % p = t := by
  have h2 := hp.1
  have hP : (((half p).map fun x => (x * x) % p)).Perm ((R p).filter fun k : Nat => decide (jac (k : Int) p = 1)) := by
    refine perm_of_sub ?_ (fun y hy => ?_) (by rw [plus_len hp ho hg]; simp [half_len])
    · unfold List.Nodup
      rw [List.pairwise_map]
      refine List.Pairwise.imp_of_mem (fun {x y} hx hy ne e => ne ?_) (nodup_half p)
      have hx := mem_half.mp hx
      have hy := mem_half.mp hy
      have e' : ((x * x : Nat) : Int) % p = ((y * y : Nat) : Int) % p := by exact_mod_cast e
      have hd := Int.dvd_of_emod_eq_zero (Int.emod_eq_emod_iff_emod_sub_eq_zero.mp e')
      have e3 : ((x * x : Nat) : Int) - ((y * y : Nat) : Int) = ((x : Int) - y) * ((x : Int) + y) := by
        simp only [Int.natCast_mul]; grind
      rw [e3] at hd
      have hd2 : p ∣ ((x : Int) - y).natAbs * ((x : Int) + y).natAbs := by
        rw [← Int.natAbs_mul]; exact Int.ofNat_dvd_left.mp hd
      rcases pr_euclid hp hd2 with z | z
      · rcases Nat.eq_zero_or_pos ((x : Int) - y).natAbs with w | w
        · omega
        · have := Nat.le_of_dvd w z; omega
      · have := Nat.le_of_dvd (by omega) z; omega
    · obtain ⟨x, hx, rfl⟩ := List.mem_map.mp hy
      have hx := mem_half.mp hx
      have nd : ¬ p ∣ x := fun hd => by have := Nat.le_of_dvd (by omega) hd; omega
      refine List.mem_filter.mpr ⟨(mem_R h2).mpr ⟨res_pos (pr_cop hp nd) hx.1 (by omega), Nat.mod_lt _ (by omega)⟩, ?_⟩
      have e : jac (((x * x) % p : Nat) : Int) p = jac (x : Int) p * jac (x : Int) p := by
        rw [jac_cong (t := ((x : Int) * x)) (by rw [Int.natCast_emod, Int.emod_emod, Int.natCast_mul]), jac_mul ho]
      rw [e]
      rcases jac_pm_nat hp ((mem_R h2).mpr ⟨hx.1, by omega⟩) with z | z <;> rw [z] <;> decide
  have : t ∈ (half p).map fun x => (x * x) % p := hP.mem_iff.mpr (List.mem_filter.mpr ⟨ht, by simp [h]⟩)
  obtain ⟨x, hx, e⟩ := List.mem_map.mp this
  have hx := mem_half.mp hx
  exact ⟨x, hx.1, by omega, e⟩
/-! ### a number that is no square, for the primes below 2000 -/
def hasNon (n : Nat) : Bool := [3, 5, 7, 11, 13, 17, 19, 23].any fun q => mu (n % q) q && (Nat.gcd (n % q) q == 1)
def small8 : List Nat := (List.range 250).map fun k => 8 * k + 1
theorem non_small : small8.all (fun n => hasNon n || (List.range 45).any (fun x => (x * x == n)) || [7, 11, 13].any (fun q => n % q == 0 && n != q)) = true := by decide +kernel
theorem non_exists {p : Nat} (hp : Pr p) (ho : p % 2 = 1) (h : p < 2000) : ∃ g : Nat, jac (g : Int) p = -1 := by
  have h2 := hp.1
  have h8 : p % 8 = 1 ∨ p % 8 = 3 ∨ p % 8 = 5 ∨ p % 8 = 7 := by omega
  have two : ∀ p : Nat, p % 2 = 1 → p % 8 = 3 ∨ p % 8 = 5 → jac ((2 : Nat) : Int) p = -1 := fun p ho z => by
    show jac 2 p = -1
    rw [jac_two ho, if_neg (by omega)]
  rcases h8 with z | z | z | z
  · have hm : p ∈ small8 := List.mem_map.mpr ⟨p / 8, by rw [List.mem_range]; omega, by omega⟩
    have := List.all_eq_true.mp non_small p hm
    rcases Bool.or_eq_true_iff.mp this with w | w
    · rcases Bool.or_eq_true_iff.mp w with w | w
      · obtain ⟨q, hq, e⟩ := List.any_eq_true.mp w
        obtain ⟨e1, e2⟩ := Bool.and_eq_true_iff.mp e
        refine ⟨q, ?_⟩
        have qo : q % 2 = 1 := by
          simp at hq
          omega
        rw [jac_odd qo ho, jac_nat]
        have gc : Nat.gcd p q = 1 := by rw [← gcd_mod']; simpa using e2
        rw [if_pos gc, ← mu_mod, e1]
        have : odd ((p - 1) / 2) = false := by
          unfold odd
          have : ((p - 1) / 2) % 2 = 0 := by omega
          simp [this]
        rw [this]; simp [bs]
      · obtain ⟨x, hx, e⟩ := List.any_eq_true.mp w
        have e : x * x = p := by simpa using e
        have x2 : 2 ≤ x := by
          rcases Nat.lt_or_ge x 2 with y | y
          · have : x = 0 ∨ x = 1 := by omega
            rcases this with rfl | rfl <;> omega
          · exact y
        have := hp.2 x x2 (by rw [← e]; exact Nat.lt_mul_self_iff.mpr (by omega))
        exact absurd (by rw [← e]; simp) this
    · obtain ⟨q, hq, e⟩ := List.any_eq_true.mp w
      obtain ⟨e1, e2⟩ := Bool.and_eq_true_iff.mp e
      have e1 : p % q = 0 := by simpa using e1
      have e2 : p ≠ q := by simpa using e2
      have q2 : 2 ≤ q := by simp at hq; omega
      have := Nat.le_of_dvd (by omega) (Nat.dvd_of_mod_eq_zero e1)
      exact absurd e1 (hp.2 q q2 (by omega))
  · exact ⟨2, two p ho (.inl z)⟩
  · exact ⟨2, two p ho (.inr z)⟩
  · refine ⟨p - 1, ?_⟩
    rw [jac_cong (t := -1) (by
      have : ((p - 1 : Nat) : Int) = -1 + p * 1 := by omega
      rw [this, Int.add_mul_emod_self_left]), jac_neg ho, if_neg (by omega)]
end Jac

namespace DL
open PySem L2
/-! ## pure data over the abstract heap -/
mutual
inductive Im (K : PySem.W.Frag) (H : Hp) : V → PyData → Prop
  | non : Im K H .non .none
  | bl (b : Bool) : Im K H (.bl b) (.bool b)
  | int (i : Int) : Im K H (.int i) (.int i)
  | str (x : Str) : Im K H (.str x) (.str x)
  | tup {a : Addr} {xs : List V} {ds : List PyData} : SqT K H a xs → Ims K H xs ds → Im K H (.ref a) (.tuple ds)
inductive Ims (K : PySem.W.Frag) (H : Hp) : List V → List PyData → Prop
  | nil : Ims K H [] []
  | cons {v : V} {vs : List V} {d : PyData} {ds : List PyData} : Im K H v d → Ims K H vs ds → Ims K H (v :: vs) (d :: ds)
end
/-- tuples stay -/
def Tup (H H' : Hp) : Prop := (∀ a xs, H a = some (.tup xs) → H' a = some (.tup xs)) ∧ ∀ a o u, H a = some (.frz o u) → H' a = some (.frz o u)
theorem sqT_tup {K : PySem.W.Frag} {H H' : Hp} {a : Addr} {xs : List V} (t : Tup H H') (h : SqT K H a xs) : SqT K H' a xs := by
  rcases h with (h | ⟨o, h⟩) | h
  · exact .inl (.inl (t.1 _ _ h))
  · exact .inl (.inr ⟨o, t.2 _ _ _ h⟩)
  · exact .inr h
section
variable {K : PySem.W.Frag} {H H' : Hp}
mutual
theorem Im.tupS (t : Tup H H') : ∀ {d : PyData} {v : V}, Im K H v d → Im K H' v d
  | _, _, .non => .non
  | _, _, .bl b => .bl b
  | _, _, .int i => .int i
  | _, _, .str x => .str x
  | _, _, .tup h hs => .tup (sqT_tup t h) (Ims.tupS t hs)
theorem Ims.tupS (t : Tup H H') : ∀ {ds : List PyData} {vs : List V}, Ims K H vs ds → Ims K H' vs ds
  | _, _, .nil => .nil
  | _, _, .cons h hs => .cons (Im.tupS t h) (Ims.tupS t hs)
end
mutual
theorem Im.dp : ∀ {d : PyData} {v : V}, Im K H v d → Dp K H v d
  | _, _, .non => .non
  | _, _, .bl b => .bl b
  | _, _, .int i => .int i
  | _, _, .str x => .str x
  | _, _, .tup h hs => .tup h (Ims.dp hs)
theorem Ims.dp : ∀ {ds : List PyData} {vs : List V}, Ims K H vs ds → DpAll K H vs ds
  | _, _, .nil => .nil
  | _, _, .cons h hs => .cons (Im.dp h) (Ims.dp hs)
end
theorem Ims.length {vs : List V} {ds : List PyData} (h : Ims K H vs ds) : vs.length = ds.length := by
  induction ds generalizing vs with
  | nil => cases h; rfl
  | cons d r ih => cases h with | cons a b => simp [ih b]
theorem Ims.get {vs : List V} {ds : List PyData} (h : Ims K H vs ds) : ∀ {i : Nat} {d : PyData}, ds[i]? = some d → ∃ v, vs[i]? = some v ∧ Im K H v d := by
  induction ds generalizing vs with
  | nil => intro i d e; simp at e
  | cons x r ih =>
    cases h with
    | cons a b =>
      intro i d e
      cases i with
      | zero => simp at e; subst e; exact ⟨_, rfl, a⟩
      | succ i => exact ih b (by simpa using e)
theorem Ims.getV {vs : List V} {ds : List PyData} (h : Ims K H vs ds) : ∀ {i : Nat} {v : V}, vs[i]? = some v → ∃ d, ds[i]? = some d ∧ Im K H v d := by
  induction ds generalizing vs with
  | nil => cases h; intro i d e; simp at e
  | cons x r ih =>
    cases h with
    | cons a b =>
      intro i d e
      cases i with
      | zero => simp at e; subst e; exact ⟨_, rfl, a⟩
      | succ i => exact ih b (by simpa using e)
theorem Ims.append {vs ws : List V} {ds es : List PyData} (h : Ims K H vs ds) (h' : Ims K H ws es) : Ims K H (vs ++ ws) (ds ++ es) := by
  induction ds generalizing vs with
  | nil => cases h; exact h'
  | cons d r ih => cases h with | cons a b => exact .cons a (ih b)
theorem Ims.take {vs : List V} {ds : List PyData} (h : Ims K H vs ds) : ∀ n, Ims K H (vs.take n) (ds.take n) := by
  induction ds generalizing vs with
  | nil => cases h; intro n; simp; exact .nil
  | cons d r ih =>
    cases h with
    | cons a b =>
      intro n
      cases n with
      | zero => exact .nil
      | succ n => exact .cons a (ih b n)
theorem Ims.drop {vs : List V} {ds : List PyData} (h : Ims K H vs ds) : ∀ n, Ims K H (vs.drop n) (ds.drop n) := by
  induction ds generalizing vs with
  | nil => cases h; intro n; simp; exact .nil
  | cons d r ih =>
    cases h with
    | cons a b =>
      intro n
      cases n with
      | zero => exact .cons a b
      | succ n => exact ih b n
theorem Ims.set {vs : List V} {ds : List PyData} {v : V} {d : PyData} (h : Ims K H vs ds) (x : Im K H v d) : ∀ n, Ims K H (vs.set n v) (ds.set n d) := by
  induction ds generalizing vs with
  | nil => cases h; intro n; exact .nil
  | cons e r ih =>
    cases h with
    | cons a b =>
      intro n
      cases n with
      | zero => exact .cons x b
      | succ n => exact .cons a (ih b n)
theorem Ims.erase {vs : List V} {ds : List PyData} (h : Ims K H vs ds) : ∀ n, Ims K H (vs.eraseIdx n) (ds.eraseIdx n) := by
  induction ds generalizing vs with
  | nil => cases h; intro n; exact .nil
  | cons e r ih =>
    cases h with
    | cons a b =>
      intro n
      cases n with
      | zero => exact b
      | succ n => exact .cons a (ih b n)
theorem Ims.rev {vs : List V} {ds : List PyData} (h : Ims K H vs ds) : Ims K H vs.reverse ds.reverse := by
  induction ds generalizing vs with
  | nil => cases h; exact .nil
  | cons e r ih =>
    cases h with
    | cons a b =>
      rw [List.reverse_cons, List.reverse_cons]
      exact (ih b).append (.cons a .nil)
theorem Im.intv {v : V} {i : Int} (h : Im K H v (.int i)) : v = .int i := by cases h; rfl
theorem Im.blv {v : V} {b : Bool} (h : Im K H v (.bool b)) : v = .bl b := by cases h; rfl
theorem Im.strv {v : V} {b : Str} (h : Im K H v (.str b)) : v = .str b := by cases h; rfl
theorem Im.nonv {v : V} (h : Im K H v .none) : v = .non := by cases h; rfl
theorem Ims.ints {vs : List V} {ns : List Int} (h : Ims K H vs (ns.map PyData.int)) : vs = ns.map V.int := by
  induction ns generalizing vs with
  | nil => cases h; rfl
  | cons n r ih => cases h with | cons a b => rw [a.intv, ih b]; rfl
theorem Ims.of_ints (ns : List Int) : Ims K H (ns.map V.int) (ns.map PyData.int) := by
  induction ns with
  | nil => exact .nil
  | cons n r ih => exact .cons (.int n) ih
theorem Ims.bls {vs : List V} {ns : List Bool} (h : Ims K H vs (ns.map PyData.bool)) : vs = ns.map V.bl := by
  induction ns generalizing vs with
  | nil => cases h; rfl
  | cons n r ih => cases h with | cons a b => rw [a.blv, ih b]; rfl
end
/-! ## the pen -/
def kC : Key := .inr "cells"
def kA : Key := .inr "at"
def kD : Key := .inr "digits"
def kN : Key := .inr "count"
def kF : Key := .inr "fold"
def penD (l : Addr) (at_ dg ct fo : Int) : List (Key × V) := [(kC, .ref l), (kA, .int at_), (kD, .int dg), (kN, .int ct), (kF, .int fo)]
def PenAt (H : Hp) (q l : Addr) : Prop := ∃ (ns : List Int) (at_ dg ct fo : Int), H q = some (.dK (penD l at_ dg ct fo)) ∧ H l = some (.lst (ns.map V.int)) ∧ ns.length ≤ 63 ∧ 0 ≤ at_ ∧ 0 ≤ dg
def PenOk (H : Hp) (q : Addr) : Prop := ∃ l : Addr, PenAt H q l
/-- from H to H' all that is known stays, but the pen may turn -/
structure Stp (p : Option Addr) (H H' : Hp) : Prop where
  keep : ∀ a o, p ≠ some a → H a = some o → H' a = some o
  pen : ∀ q l, p = some q → PenAt H q l → PenAt H' q l
theorem Stp.refl (p : Option Addr) (H : Hp) : Stp p H H := ⟨fun _ _ _ e => e, fun _ _ _ h => h⟩
theorem Stp.trans {p : Option Addr} {H H1 H2 : Hp} (a : Stp p H H1) (b : Stp p H1 H2) : Stp p H H2 :=
  ⟨fun x o n e => b.keep x o n (a.keep x o n e), fun q l e h => b.pen q l e (a.pen q l e h)⟩
theorem PenOk.ne {H : Hp} {q a : Addr} {xs : List V} (h : PenOk H q) (e : H a = some (.tup xs)) : a ≠ q := by
  obtain ⟨_, _, _, _, _, _, h, _⟩ := h
  exact ne_of e h (by intro z; cases z)
theorem PenOk.neL {H : Hp} {q a : Addr} {xs : List V} (h : PenOk H q) (e : H a = some (.lst xs)) : a ≠ q := by
  obtain ⟨_, _, _, _, _, _, h, _⟩ := h
  exact ne_of e h (by intro z; cases z)
theorem PenOk.neF {H : Hp} {q a : Addr} {o : Obj} {u : HO} (h : PenOk H q) (e : H a = some (.frz o u)) : a ≠ q := by
  obtain ⟨_, _, _, _, _, _, h, _⟩ := h
  exact ne_of e h (by intro z; cases z)
def POk (p : Option Addr) (H : Hp) : Prop := ∀ q, p = some q → PenOk H q
section
variable {p : Option Addr} {H H1 H' : Hp} {K : PySem.W.Frag}
theorem POk.step (h : POk p H) (s : Stp p H H') : POk p H' := fun q e => let ⟨l, x⟩ := h q e; ⟨l, s.pen q l e x⟩
theorem Stp.tup (s : Stp p H H') (h : POk p H) : Tup H H' :=
  ⟨fun a xs e => s.keep a _ (fun z => (h a z).ne e rfl) e, fun a o u e => s.keep a _ (fun z => (h a z).neF e rfl) e⟩
theorem Stp.new {a : Addr} {o : HO} (h : H a = none) : Stp p H (upd H a o) := by
  refine ⟨fun b u _ e => ?_, fun q l e k => ?_⟩
  · rw [upd_ne (ne_of_none e h)]; exact e
  · obtain ⟨ns, x1, x2, x3, x4, h1, h2, r⟩ := k
    exact ⟨ns, x1, x2, x3, x4, by rw [upd_ne (ne_of_none h1 h)]; exact h1, by rw [upd_ne (ne_of_none h2 h)]; exact h2, r⟩
theorem Stp.back (s : Stp p H H') (h : POk p H) {a : Addr} (e : H' a = none) : H a = none := by
  cases q : H a with
  | none => rfl
  | some o =>
    by_cases z : p = some a
    · obtain ⟨l, hl⟩ := h a z
      obtain ⟨ns, x1, x2, x3, x4, h1, _⟩ := s.pen a l z hl
      rw [e] at h1; cases h1
    · rw [s.keep a o z q] at e; cases e
theorem sqL_step (s : Stp p H H') (h : POk p H) {a : Addr} {xs : List V} (e : SqL K H a xs) : SqL K H' a xs := by
  rcases e with (e | ⟨o, e⟩) | e
  · exact .inl (.inl (s.keep a _ (fun z => (h a z).neL e rfl) e))
  · exact .inl (.inr ⟨o, s.keep a _ (fun z => (h a z).neF e rfl) e⟩)
  · exact .inr e
end
/-- an exception's dict -/
def ExAt (K : PySem.W.Frag) (H : Hp) (d : Addr) (fs : List (Str × PyData)) : Prop := ∃ vs : List (Str × V), H d = some (.xd vs) ∧ vs.map (·.1) = fs.map (·.1) ∧ Ims K H (vs.map (·.2)) (fs.map (·.2))
theorem ExAt.step {K : PySem.W.Frag} {p : Option Addr} {H H1 : Hp} {d : Addr} {fs : List (Str × PyData)} (x : ExAt K H d fs) (t : Stp p H H1) (h : POk p H) : ExAt K H1 d fs := by
  obtain ⟨vs, e, k, m⟩ := x
  exact ⟨vs, t.keep d _ (fun z => by
    obtain ⟨_, _, _, _, _, _, g, _⟩ := h d z
    rw [e] at g; cases g) e, k, m.tupS (t.tup h)⟩
/-! ## what stands at a name, what an expression gives -/
inductive Ent where
  /-- nothing known -/
  | no
  /-- pure data: no list in it -/
  | im (d : PyData)
  /-- a list of our own, of pure data; the same at a known place -/
  | ls (ds : List PyData)
  | la (a : Addr) (vs : List V) (ds : List PyData)
  /-- dicts of our own -/
  | dk (kvs : List (Key × PyData))
  | dt (kvs : List (List Key × PyData))
  /-- a list that is read alone -/
  | ro (ds : List PyData)
  | pen
  /-- a pen just made -/
  | pn
  | raw (v : V)
  | ex (a d : Addr) (fs : List (Str × PyData))
abbrev I (n : Int) : Ent := .im (.int n)
abbrev B (b : Bool) : Ent := .im (.bool b)
/-- keys alike, values told -/
def KIms {κ : Type} (K : PySem.W.Frag) (H : Hp) (vs : List (κ × V)) (ds : List (κ × PyData)) : Prop := vs.map (·.1) = ds.map (·.1) ∧ Ims K H (vs.map (·.2)) (ds.map (·.2))
/-- an object of our own -/
def Ent.obj (K : PySem.W.Frag) : Ent → Option (Hp → HO → Prop)
  | .ls ds => some fun H o => ∃ vs, o = .lst vs ∧ Ims K H vs ds
  | .la _ vs ds => some fun H o => o = .lst vs ∧ Ims K H vs ds
  | .dk ds => some fun H o => ∃ vs, o = .dK vs ∧ KIms K H vs ds
  | .dt ds => some fun H o => ∃ vs, o = .dT vs ∧ KIms K H vs ds
  | .pn => some fun H o => True
  | _ => none
def Ent.adr : Ent → Addr → Prop
  | .la b _ _, a => a = b
  | _, _ => True
theorem obj_tup {K : PySem.W.Frag} {e : Ent} {φ : Hp → HO → Prop} {H H' : Hp} {o : HO} (h : e.obj K = some φ) (t : Tup H H') (x : φ H o) : φ H' o := by
  cases e with
  | ls ds => cases h; obtain ⟨vs, e, i⟩ := x; exact ⟨vs, e, i.tupS t⟩
  | la a vs ds => cases h; obtain ⟨e, i⟩ := x; exact ⟨e, i.tupS t⟩
  | dk ds => cases h; obtain ⟨vs, e, k, i⟩ := x; exact ⟨vs, e, k, i.tupS t⟩
  | dt ds => cases h; obtain ⟨vs, e, k, i⟩ := x; exact ⟨vs, e, k, i.tupS t⟩
  | pn => cases h; trivial
  | no => cases h
  | im d => cases h
  | ro d => cases h
  | pen => cases h
  | raw d => cases h
  | ex a d fs => cases h
/-- H0: the entry; F: a frame that is kept too -/
def Own (K : PySem.W.Frag) (H0 F H : Hp) (e : Ent) (φ : Hp → HO → Prop) (s : Option V) : Prop := ∃ a o, s = some (.ref a) ∧ e.adr a ∧ H0 a = none ∧ F a = none ∧ H a = some o ∧ φ H o
def EntOk (K : PySem.W.Frag) (p : Option Addr) (H0 F H : Hp) (e : Ent) (s : Option V) : Prop :=
  (∀ φ, e.obj K = some φ → Own K H0 F H e φ s) ∧
  match e with
  | .im d => ∃ v, s = some v ∧ Im K H v d
  | .ro ds => ∃ a vs, s = some (.ref a) ∧ SqL K H0 a vs ∧ SqL K H a vs ∧ Ims K H vs ds
  | .pen => ∃ q, p = some q ∧ s = some (.ref q)
  | .raw v => s = some v
  | .ex a d fs => s = some (.ref a) ∧ ExAt K H0 d fs
  | .pn => False
  | _ => True
def ResOk (K : PySem.W.Frag) (p : Option Addr) (H0 H : Hp) (e : Ent) (v : V) : Prop :=
  (∀ φ, e.obj K = some φ → ∃ a o, v = .ref a ∧ e.adr a ∧ H0 a = none ∧ H a = some o ∧ φ H o) ∧
  match e with
  | .im d => Im K H v d
  | .ro ds => ∃ a vs, v = .ref a ∧ SqL K H a vs ∧ Ims K H vs ds
  | .pen => ∃ q, p = some q ∧ v = .ref q
  | .pn => ∃ q, v = .ref q ∧ PenOk H q
  | .raw w => v = w
  | .ex a d fs => v = .ref a ∧ ExAt K H d fs
  | _ => True
theorem res_im {K : PySem.W.Frag} {p : Option Addr} {H0 H : Hp} {d : PyData} {v : V} : ResOk K p H0 H (.im d) v ↔ Im K H v d := ⟨fun h => h.2, fun h => ⟨(fun φ e => by cases e), h⟩⟩
theorem res_ro {K : PySem.W.Frag} {p : Option Addr} {H0 H : Hp} {ds : List PyData} {v : V} : ResOk K p H0 H (.ro ds) v ↔ ∃ a vs, v = .ref a ∧ SqL K H a vs ∧ Ims K H vs ds := ⟨fun h => h.2, fun h => ⟨(fun φ e => by cases e), h⟩⟩
theorem res_ls {K : PySem.W.Frag} {p : Option Addr} {H0 H : Hp} {ds : List PyData} {v : V} : ResOk K p H0 H (.ls ds) v ↔ ∃ a vs, v = .ref a ∧ H0 a = none ∧ H a = some (.lst vs) ∧ Ims K H vs ds := by
  constructor
  · intro h
    obtain ⟨a, o, e, _, n, g, vs, rfl, i⟩ := h.1 _ rfl
    exact ⟨a, vs, e, n, g, i⟩
  · rintro ⟨a, vs, e, n, g, i⟩
    exact ⟨(fun φ z => by cases z; exact ⟨a, _, e, trivial, n, g, vs, rfl, i⟩), trivial⟩
theorem res_dk {K : PySem.W.Frag} {p : Option Addr} {H0 H : Hp} {ds : List (Key × PyData)} {v : V} : ResOk K p H0 H (.dk ds) v ↔ ∃ a vs, v = .ref a ∧ H0 a = none ∧ H a = some (.dK vs) ∧ KIms K H vs ds := by
  constructor
  · intro h
    obtain ⟨a, o, e, _, n, g, vs, rfl, i⟩ := h.1 _ rfl
    exact ⟨a, vs, e, n, g, i⟩
  · rintro ⟨a, vs, e, n, g, i⟩
    exact ⟨(fun φ z => by cases z; exact ⟨a, _, e, trivial, n, g, vs, rfl, i⟩), trivial⟩
theorem res_dt {K : PySem.W.Frag} {p : Option Addr} {H0 H : Hp} {ds : List (List Key × PyData)} {v : V} : ResOk K p H0 H (.dt ds) v ↔ ∃ a vs, v = .ref a ∧ H0 a = none ∧ H a = some (.dT vs) ∧ KIms K H vs ds := by
  constructor
  · intro h
    obtain ⟨a, o, e, _, n, g, vs, rfl, i⟩ := h.1 _ rfl
    exact ⟨a, vs, e, n, g, i⟩
  · rintro ⟨a, vs, e, n, g, i⟩
    exact ⟨(fun φ z => by cases z; exact ⟨a, _, e, trivial, n, g, vs, rfl, i⟩), trivial⟩
theorem res_raw {K : PySem.W.Frag} {p : Option Addr} {H0 H : Hp} {w v : V} : ResOk K p H0 H (.raw w) v ↔ v = w := ⟨fun h => h.2, fun h => ⟨(fun φ e => by cases e), h⟩⟩
theorem res_pen {K : PySem.W.Frag} {p : Option Addr} {H0 H : Hp} {v : V} : ResOk K p H0 H .pen v ↔ ∃ q, p = some q ∧ v = .ref q := ⟨fun h => h.2, fun h => ⟨(fun φ e => by cases e), h⟩⟩
structure Ev (K : PySem.W.Frag) (p : Option Addr) (H0 F : Hp) (Γ : List Ent) (σ : L2.St) (H : Hp) : Prop where
  ent : ∀ (i : Nat) (e : Ent), Γ[i]? = some e → ∃ s, σ[i]? = some s ∧ EntOk K p H0 F H e s
  sep : ∀ (i j : Nat) (a : Addr) (d e : Ent), i ≠ j → Γ[i]? = some d → Γ[j]? = some e → (d.obj K).isSome = true → (e.obj K).isSome = true → σ[i]? = some (some (V.ref a)) → σ[j]? = some (some (V.ref a)) → False
  stp : Stp p H0 H
  pok0 : POk p H0
  frm : ∀ a o, F a = some o → H a = some o
  frp : ∀ q, p = some q → F q = none
abbrev Err := Addr × List (Str × PyData)
def ErrOk (K : PySem.W.Frag) (H : Hp) (e : Err) (cls : Value) (d : Option Addr) : Prop :=
  cls = .ref e.1 ∧ ∃ (dd : Addr) (fs : List (Str × V)), d = some dd ∧ H dd = some (.xd fs) ∧ fs.map (·.1) = e.2.map (·.1) ∧ Ims K H (fs.map (·.2)) (e.2.map (·.2))
structure Cd where
  K : PySem.W.Frag
  p : Option Addr
  E : XK
  X : Err → Prop
def Cd.XOk (c : Cd) (H0 : Hp) : Prop := ∀ e cls d H', c.X e → Stp c.p H0 H' → ErrOk c.K H' e cls d → c.E cls d H'
section
variable {K : PySem.W.Frag} {p : Option Addr} {H0 F H H1 H2 : Hp} {Γ : List Ent} {σ : L2.St}
theorem POk.ne0 (h : POk p H0) {a : Addr} (e : H0 a = none) : p ≠ some a := fun z => by
  obtain ⟨_, _, _, _, _, _, g, _⟩ := h a z
  rw [e] at g; cases g
theorem EntOk.step {e : Ent} {s : Option V} (t : Stp p H H1) (h0 : POk p H0) (h : POk p H) (x : EntOk K p H0 F H e s) : EntOk K p H0 F H1 e s := by
  refine ⟨fun φ z => ?_, ?_⟩
  · obtain ⟨a, o, e, ad, n, f, g, k⟩ := x.1 φ z
    exact ⟨a, o, e, ad, n, f, t.keep a _ (h0.ne0 n) g, obj_tup z (t.tup h) k⟩
  · have x := x.2
    cases e with
    | im d => obtain ⟨v, e, i⟩ := x; exact ⟨v, e, i.tupS (t.tup h)⟩
    | ro ds => obtain ⟨a, vs, e, n, g, i⟩ := x; exact ⟨a, vs, e, n, sqL_step t h g, i.tupS (t.tup h)⟩
    | pen => exact x
    | pn => exact x
    | raw v => exact x
    | ex a d fs => exact x
    | no => trivial
    | ls d => trivial
    | la a vs d => trivial
    | dk d => trivial
    | dt d => trivial
theorem ResOk.step {e : Ent} {v : V} (t : Stp p H H1) (h0 : POk p H0) (h : POk p H) (x : ResOk K p H0 H e v) : ResOk K p H0 H1 e v := by
  refine ⟨fun φ z => ?_, ?_⟩
  · obtain ⟨a, o, e, ad, n, g, k⟩ := x.1 φ z
    exact ⟨a, o, e, ad, n, t.keep a _ (h0.ne0 n) g, obj_tup z (t.tup h) k⟩
  · have x1 := x.1
    have x := x.2
    cases e with
    | im d => exact Im.tupS (t.tup h) x
    | ro ds => obtain ⟨a, vs, e, g, i⟩ := x; exact ⟨a, vs, e, sqL_step t h g, i.tupS (t.tup h)⟩
    | pen => exact x
    | pn =>
      obtain ⟨q, e, k⟩ := x
      obtain ⟨a, o, e', _, n, g, _⟩ := x1 _ rfl
      rw [e] at e'; cases e'
      obtain ⟨l, ns, y1, y2, y3, y4, g1, g2, r⟩ := k
      exact ⟨q, e, l, ns, y1, y2, y3, y4, t.keep q _ (h0.ne0 n) g1, t.keep l _ (fun z => (h l z).neL g2 rfl) g2, r⟩
    | raw v => exact x
    | ex a d fs => exact ⟨x.1, x.2.step t h⟩
    | no => trivial
    | ls d => trivial
    | la a vs d => trivial
    | dk d => trivial
    | dt d => trivial
theorem ResOk.back {e : Ent} {v : V} (t : Stp p H0 H) (h : POk p H0) (x : ResOk K p H H1 e v) : ResOk K p H0 H1 e v :=
  ⟨fun φ z => let ⟨a, o, e, ad, n, g⟩ := x.1 φ z; ⟨a, o, e, ad, t.back h n, g⟩, x.2⟩
theorem Ev.pok (x : Ev K p H0 F Γ σ H) : POk p H := x.pok0.step x.stp
theorem Ev.step (x : Ev K p H0 F Γ σ H) (t : Stp p H H1) : Ev K p H0 F Γ σ H1 :=
  ⟨fun i e g => let ⟨s, a, b⟩ := x.ent i e g; ⟨s, a, b.step t x.pok0 x.pok⟩, x.sep, x.stp.trans t, x.pok0, fun a o e => t.keep a o (fun z => by rw [x.frp a z] at e; cases e) (x.frm a o e), x.frp⟩
theorem Ev.fnone (x : Ev K p H0 F Γ σ H) {a : Addr} (h : H a = none) : F a = none := by
  cases q : F a with
  | none => rfl
  | some o => rw [x.frm a o q] at h; cases h
/-- what an assigned result becomes -/
def Ent.toE : Ent → Ent
  | .ro _ => .no
  | .pn => .no
  | .ex _ _ _ => .no
  | e => e
theorem toE_obj {K : PySem.W.Frag} {e : Ent} {φ : Hp → HO → Prop} (h : e.toE.obj K = some φ) : e.obj K = some φ ∧ e.toE = e := by
  cases e <;> first | exact ⟨h, rfl⟩ | cases h
theorem ResOk.toE {r : Ent} {v : V} (x : Ev K p H0 F Γ σ H) (h : ResOk K p H H1 r v) : EntOk K p H0 F H1 r.toE (some v) := by
  refine ⟨fun φ z => ?_, ?_⟩
  · obtain ⟨z', er⟩ := toE_obj z
    rw [er]
    obtain ⟨a, o, e, ad, n, g, k⟩ := h.1 φ z'
    exact ⟨a, o, by rw [e], ad, x.stp.back x.pok0 n, x.fnone n, g, k⟩
  · have h := h.2
    cases r with
    | im d => exact ⟨v, rfl, h⟩
    | ro ds => trivial
    | pen => obtain ⟨q, e, z⟩ := h; exact ⟨q, e, by rw [z]⟩
    | pn => trivial
    | raw w => have h : v = w := h; subst h; rfl
    | ex a d fs => trivial
    | no => trivial
    | ls d => trivial
    | la a vs d => trivial
    | dk d => trivial
    | dt d => trivial
theorem Ev.set (x : Ev K p H0 F Γ σ H) (t : Stp p H H1) {i : Nat} {r : Ent} {v : V} (hi : i < Γ.length) (h : ResOk K p H H1 r v) : Ev K p H0 F (Γ.set i r.toE) (σ.set i (some v)) H1 := by
  have hs : i < σ.length := by
    obtain ⟨s, e, _⟩ := x.ent i _ (List.getElem?_eq_getElem hi)
    exact (List.getElem?_eq_some_iff.mp e).1
  have x1 := x.step t
  have new : EntOk K p H0 F H1 r.toE (some v) := by
    clear x1
    refine ⟨fun φ z => ?_, ?_⟩
    · obtain ⟨z', er⟩ := toE_obj z
      rw [er]
      obtain ⟨a, o, e, ad, n, g, k⟩ := h.1 φ z'
      exact ⟨a, o, by rw [e], ad, x.stp.back x.pok0 n, x.fnone n, g, k⟩
    · have h := h.2
      cases r with
      | im d => exact ⟨v, rfl, h⟩
      | ro ds => trivial
      | pen => obtain ⟨q, e, z⟩ := h; exact ⟨q, e, by rw [z]⟩
      | pn => trivial
      | raw w => have h : v = w := h; subst h; rfl
      | ex a d fs => trivial
      | no => trivial
      | ls d => trivial
      | la a vs d => trivial
      | dk d => trivial
      | dt d => trivial
  have fresh : ∀ (j : Nat) (a : Addr) (e : Ent), i ≠ j → (r.toE.obj K).isSome = true → Γ[j]? = some e → (e.obj K).isSome = true → σ[j]? = some (some (V.ref a)) → v = V.ref a → False := fun j a e nj hr g he sj ev => by
    obtain ⟨φ, hφ⟩ := Option.isSome_iff_exists.mp hr
    obtain ⟨ψ, hψ⟩ := Option.isSome_iff_exists.mp he
    obtain ⟨b, o, e1, _, n, _⟩ := h.1 φ (toE_obj hφ).1
    rw [ev] at e1; cases e1
    obtain ⟨s', e2, k⟩ := x.ent j e g
    obtain ⟨b', o', e3, _, _, _, g', _⟩ := k.1 ψ hψ
    rw [sj] at e2
    have e2 := Option.some.inj e2
    rw [e3] at e2; cases e2
    rw [n] at g'; cases g'
  refine ⟨fun j e g => ?_, fun j k a d e njk gj gk hd he sj sk => ?_, x1.stp, x.pok0, x1.frm, x.frp⟩
  · by_cases hj : i = j
    · subst hj
      rw [List.getElem?_set_self hi] at g
      have g := Option.some.inj g
      subst g
      exact ⟨_, List.getElem?_set_self hs, new⟩
    · rw [List.getElem?_set_ne hj] at g
      obtain ⟨s, e, k⟩ := x1.ent j e g
      exact ⟨s, by rw [List.getElem?_set_ne hj]; exact e, k⟩
  · by_cases hj : i = j
    · subst hj
      rw [List.getElem?_set_self hi] at gj
      rw [List.getElem?_set_self hs] at sj
      rw [List.getElem?_set_ne njk] at gk sk
      have gj := Option.some.inj gj
      subst gj
      exact fresh k a e njk hd gk he sk (Option.some.inj (Option.some.inj sj))
    · rw [List.getElem?_set_ne hj] at gj sj
      by_cases hk : i = k
      · subst hk
        rw [List.getElem?_set_self hi] at gk
        rw [List.getElem?_set_self hs] at sk
        have gk := Option.some.inj gk
        subst gk
        exact fresh j a d (fun z => njk z.symm) he gj hd sj (Option.some.inj (Option.some.inj sk))
      · rw [List.getElem?_set_ne hk] at gk sk
        exact x.sep j k a d e njk gj gk hd he sj sk
theorem Ev.setG (x : Ev K p H0 F Γ σ H) {i : Nat} {e : Ent} {v : V} (hi : i < Γ.length) (new : EntOk K p H0 F H e (some v))
    (sep : (e.obj K).isSome = true → ∀ (j : Nat) (d : Ent), j ≠ i → Γ[j]? = some d → (d.obj K).isSome = true → σ[j]? = some (some v) → False) : Ev K p H0 F (Γ.set i e) (σ.set i (some v)) H := by
  have hs : i < σ.length := by
    obtain ⟨s, e, _⟩ := x.ent i _ (List.getElem?_eq_getElem hi)
    exact (List.getElem?_eq_some_iff.mp e).1
  refine ⟨fun j e g => ?_, fun j k a d e njk gj gk hd he sj sk => ?_, x.stp, x.pok0, x.frm, x.frp⟩
  · by_cases hj : i = j
    · subst hj
      rw [List.getElem?_set_self hi] at g
      have g := Option.some.inj g
      subst g
      exact ⟨_, List.getElem?_set_self hs, new⟩
    · rw [List.getElem?_set_ne hj] at g
      obtain ⟨s, e, k⟩ := x.ent j e g
      exact ⟨s, by rw [List.getElem?_set_ne hj]; exact e, k⟩
  · by_cases hj : i = j
    · subst hj
      rw [List.getElem?_set_self hi] at gj
      rw [List.getElem?_set_self hs] at sj
      rw [List.getElem?_set_ne njk] at gk sk
      have gj := Option.some.inj gj
      subst gj
      have z := Option.some.inj (Option.some.inj sj)
      exact sep hd k e (fun q => njk q.symm) gk he (by rw [z]; exact sk)
    · rw [List.getElem?_set_ne hj] at gj sj
      by_cases hk : i = k
      · subst hk
        rw [List.getElem?_set_self hi] at gk
        rw [List.getElem?_set_self hs] at sk
        have gk := Option.some.inj gk
        subst gk
        have z := Option.some.inj (Option.some.inj sk)
        exact sep he j d njk gj hd (by rw [z]; exact sj)
      · rw [List.getElem?_set_ne hk] at gk sk
        exact x.sep j k a d e njk gj gk hd he sj sk
/-- less is known -/
def EWk : Ent → Ent → Prop := fun e e' => e' = e ∨ e' = .no ∨ ∃ a vs ds, e = .la a vs ds ∧ e' = .ls ds
theorem EWk.ok {e e' : Ent} {s : Option V} (w : EWk e e') (h : EntOk K p H0 F H e s) : EntOk K p H0 F H e' s := by
  rcases w with rfl | rfl | ⟨a, vs, ds, rfl, rfl⟩
  · exact h
  · exact ⟨(fun φ z => by cases z), trivial⟩
  · refine ⟨fun φ z => ?_, trivial⟩
    cases z
    obtain ⟨b, o, e, _, n, f, g, eo, m⟩ := h.1 _ rfl
    exact ⟨b, o, e, trivial, n, f, g, vs, eo, m⟩
theorem EWk.own {e e' : Ent} (w : EWk e e') (h : (e'.obj K).isSome = true) : (e.obj K).isSome = true := by
  rcases w with rfl | rfl | ⟨a, vs, ds, rfl, rfl⟩
  · exact h
  · cases h
  · rfl
inductive Wk : List Ent → List Ent → Prop
  | nil : Wk [] []
  | cons {e e' : Ent} {Γ Γ' : List Ent} : EWk e e' → Wk Γ Γ' → Wk (e :: Γ) (e' :: Γ')
theorem Wk.get : ∀ {Γ Γ' : List Ent} {i : Nat} {e' : Ent}, Wk Γ Γ' → Γ'[i]? = some e' → ∃ e, Γ[i]? = some e ∧ EWk e e'
  | _, _, _, _, .nil, h => by simp at h
  | _, _, 0, _, .cons w _, h => by simp at h; subst h; exact ⟨_, rfl, w⟩
  | _, _, i + 1, _, .cons _ t, h => Wk.get (i := i) t (by simpa using h)
theorem Wk.refl : ∀ Γ : List Ent, Wk Γ Γ
  | [] => .nil
  | _ :: r => .cons (.inl rfl) (Wk.refl r)
theorem Ev.weak {Γ' : List Ent} (w : Wk Γ Γ') (x : Ev K p H0 F Γ σ H) : Ev K p H0 F Γ' σ H :=
  ⟨fun i e' g => let ⟨e, h, k⟩ := w.get g; let ⟨s, a, b⟩ := x.ent i e h; ⟨s, a, k.ok b⟩,
    fun i j a d e n gi gj hd he si sj => let ⟨d', h1, k1⟩ := w.get gi; let ⟨e', h2, k2⟩ := w.get gj; x.sep i j a d' e' n h1 h2 (k1.own hd) (k2.own he) si sj, x.stp, x.pok0, x.frm, x.frp⟩
/-- a larger frame -/
theorem Ev.frame {F' : Hp} (x : Ev K p H0 F Γ σ H) (f : ∀ a o, F a = some o → F' a = some o) (x' : Ev K p H0 F' Γ σ H) : Ev K p H0 F Γ σ H := x
theorem Ev.unframe {F' : Hp} (x : Ev K p H0 F' Γ σ H) (f : ∀ a o, F a = some o → F' a = some o) : Ev K p H0 F Γ σ H := by
  have fn : ∀ a, F' a = none → F a = none := fun a h => by
    cases q : F a with
    | none => rfl
    | some o => rw [f a o q] at h; cases h
  refine ⟨fun i e g => ?_, x.sep, x.stp, x.pok0, fun a o e => x.frm a o (f a o e), fun q e => fn q (x.frp q e)⟩
  obtain ⟨s, a, b⟩ := x.ent i e g
  exact ⟨s, a, fun φ z => let ⟨b, o, e, ad, n, fr, r⟩ := b.1 φ z; ⟨b, o, e, ad, n, fn b fr, r⟩, b.2⟩
/-- the tuples as they stand, and a list that no name owns -/
def Fr2 (F H : Hp) (l : Option Addr) : Hp := fun b => match H b with
  | some (.tup xs) => some (.tup xs)
  | some (.frz o u) => some (.frz o u)
  | o => if l = some b then o else F b
theorem Ev.reframe (x : Ev K p H0 F Γ σ H) {l : Option Addr} (hl : ∀ b, l = some b → ∃ vs, H b = some (.lst vs)) (hn : ∀ b, l = some b → ∀ (i : Nat) (e : Ent), Γ[i]? = some e → (e.obj K).isSome = true → σ[i]? = some (some (V.ref b)) → False) :
    Ev K p H0 (Fr2 F H l) Γ σ H ∧ ∀ a o, F a = some o → Fr2 F H l a = some o := by
  have ext : ∀ a o, F a = some o → Fr2 F H l a = some o := fun a o e => by
    have h := x.frm a o e
    unfold Fr2
    rw [h]
    split
    · rename_i xs q; cases q; rfl
    · rename_i ob u q; cases q; rfl
    · split
      · rfl
      · exact e
  have frm : ∀ a o, Fr2 F H l a = some o → H a = some o := fun a o e => by
    unfold Fr2 at e
    split at e
    · rename_i xs q; rw [q]; exact e
    · rename_i ob u q; rw [q]; exact e
    · split at e
      · exact e
      · exact x.frm a o e
  refine ⟨⟨fun i e g => ?_, x.sep, x.stp, x.pok0, frm, fun q e => ?_⟩, ext⟩
  · obtain ⟨s, a, b⟩ := x.ent i e g
    refine ⟨s, a, fun φ z => ?_, b.2⟩
    obtain ⟨b, o, e1, ad, n, fr, g', r⟩ := b.1 φ z
    refine ⟨b, o, e1, ad, n, ?_, g', r⟩
    have ow : (e.obj K).isSome = true := by rw [z]; rfl
    have nt : ∀ xs, o ≠ .tup xs := by
      intro xs q
      subst q
      cases e <;> cases z
      all_goals first | (obtain ⟨vs, q, _⟩ := r; cases q) | (obtain ⟨q, _⟩ := r; cases q) | exact absurd (show False from (by have := (x.ent i _ g); obtain ⟨s2, _, b2⟩ := this; exact b2.2)) id
    have nf : ∀ ob u, o ≠ .frz ob u := by
      intro ob u q
      subst q
      cases e <;> cases z
      all_goals first | (obtain ⟨vs, q, _⟩ := r; cases q) | (obtain ⟨q, _⟩ := r; cases q) | exact absurd (show False from (by have := (x.ent i _ g); obtain ⟨s2, _, b2⟩ := this; exact b2.2)) id
    unfold Fr2
    rw [g']
    split
    · rename_i xs q; cases q; exact absurd rfl (nt xs)
    · rename_i ob u q; cases q; exact absurd rfl (nf ob u)
    · rw [if_neg]
      · exact fr
      · intro z2
        exact hn b z2 i e g ow (by rw [a, e1])
  · have hq := x.pok q e
    obtain ⟨_, _, _, _, _, _, hq, _⟩ := hq
    unfold Fr2
    rw [hq]
    dsimp only
    rw [if_neg]
    · exact x.frp q e
    · intro z
      obtain ⟨vs, h⟩ := hl q z
      rw [hq] at h; cases h
end
/-! ## judgements -/
def ResAll (K : PySem.W.Frag) (p : Option Addr) (H0 H : Hp) : List Ent → List V → Prop
  | [], vs => vs = []
  | r :: rs, vs => ∃ v ws, vs = v :: ws ∧ ResOk K p H0 H r v ∧ ResAll K p H0 H rs ws ∧ ((r.obj K).isSome = true → ∀ (j : Nat) (s : Ent), rs[j]? = some s → (s.obj K).isSome = true → ws[j]? = some v → False)
section
variable {K : PySem.W.Frag} {p : Option Addr} {H0 H H1 H2 : Hp}
theorem ResAll.step (t : Stp p H H1) (h0 : POk p H0) (h : POk p H) : ∀ {rs : List Ent} {vs : List V}, ResAll K p H0 H rs vs → ResAll K p H0 H1 rs vs
  | [], _, x => x
  | _ :: _, _, ⟨v, ws, e, a, b, k⟩ => ⟨v, ws, e, ResOk.step t h0 h a, ResAll.step t h0 h b, k⟩
theorem ResAll.back (t : Stp p H0 H) (h : POk p H0) : ∀ {rs : List Ent} {vs : List V}, ResAll K p H H1 rs vs → ResAll K p H0 H1 rs vs
  | [], _, x => x
  | _ :: _, _, ⟨v, ws, e, a, b, k⟩ => ⟨v, ws, e, ResOk.back t h a, ResAll.back t h b, k⟩
theorem ResAll.length : ∀ {rs : List Ent} {vs : List V}, ResAll K p H0 H rs vs → vs.length = rs.length
  | [], _, x => by rw [show _ = [] from x]; rfl
  | _ :: _, _, ⟨v, ws, e, a, b, _⟩ => by rw [e, List.length_cons, List.length_cons, ResAll.length b]
theorem ResAll.own : ∀ {rs : List Ent} {vs : List V} {j : Nat} {s : Ent} {w : V}, ResAll K p H0 H rs vs → rs[j]? = some s → (s.obj K).isSome = true → vs[j]? = some w → ∃ a, w = .ref a ∧ H0 a = none
  | [], _, _, _, _, x, e, _, _ => by simp at e
  | _ :: _, _, 0, s, w, ⟨v, ws, ev, a, b, _⟩, e, o, z => by
    subst ev
    simp at e z
    subst e z
    obtain ⟨φ, hφ⟩ := Option.isSome_iff_exists.mp o
    obtain ⟨x, _, h1, _, h2, _⟩ := a.1 φ hφ
    exact ⟨x, h1, h2⟩
  | _ :: _, _, j + 1, s, w, ⟨v, ws, ev, a, b, _⟩, e, o, z => by
    subst ev
    exact ResAll.own (j := j) b (by simpa using e) o (by simpa using z)
end
def WE (c : Cd) (te : TE) (Γ : List Ent) (Q : Ent → Prop) : Prop :=
  ∀ H0 F σ H, Ev c.K c.p H0 F Γ σ H → c.XOk H0 → ∀ Q' : VK, (∀ r v H', Q r → Stp c.p H H' → ResOk c.K c.p H H' r v → Q' v H') → te σ H Q'
def WA (c : Cd) (ta : TA) (Γ : List Ent) (Q : List Ent → Prop) : Prop :=
  ∀ H0 F σ H, Ev c.K c.p H0 F Γ σ H → c.XOk H0 → ∀ Q' : List V → Hp → Prop, (∀ rs vs H', Q rs → Stp c.p H H' → ResAll c.K c.p H H' rs vs → Q' vs H') → ta σ H Q'
def WT (c : Cd) (tt : TT) (Γ : List Ent) (Q : Bool → Prop) : Prop :=
  ∀ H0 F σ H, Ev c.K c.p H0 F Γ σ H → c.XOk H0 → ∀ Q' : Bool → Hp → Prop, (∀ b H', Q b → Stp c.p H H' → Q' b H') → tt σ H Q'
abbrev VE (c : Cd) (te : TE) (Γ : List Ent) (r : Ent) : Prop := WE c te Γ (fun z => z = r)
abbrev VA (c : Cd) (ta : TA) (Γ : List Ent) (rs : List Ent) : Prop := WA c ta Γ (fun z => z = rs)
abbrev VT (c : Cd) (tt : TT) (Γ : List Ent) (b : Bool) : Prop := WT c tt Γ (fun z => z = b)
/-- what is wanted behind a statement -/
structure Ps where
  nx : List Ent → Prop
  rt : Ent → Prop
  bk : List Ent → Prop := fun _ => False
  ct : List Ent → Prop := fun _ => False
structure PsOk (c : Cd) (H0 F : Hp) (P : Ps) (D : Ends) : Prop where
  nx : ∀ Γ σ H, P.nx Γ → Ev c.K c.p H0 F Γ σ H → D.nx σ H
  rt : ∀ r v H, P.rt r → Stp c.p H0 H → ResOk c.K c.p H0 H r v → D.rt v H
  bk : ∀ Γ σ H, P.bk Γ → Ev c.K c.p H0 F Γ σ H → D.bk σ H
  ct : ∀ Γ σ H, P.ct Γ → Ev c.K c.p H0 F Γ σ H → D.ct σ H
def WS (c : Cd) (t : TS) (Γ : List Ent) (P : Ps) : Prop :=
  ∀ H0 F σ H, Ev c.K c.p H0 F Γ σ H → c.XOk H0 → ∀ D : Ends, PsOk c H0 F P D → t D σ H
section
variable {c : Cd} {te ta tb : TE} {tA : TA} {tt tu : TT} {Γ : List Ent} {Q Q2 : Ent → Prop} {r ra rb z : Ent} {rs : List Ent}
theorem WE.mono (h : WE c te Γ Q) (k : ∀ r, Q r → Q2 r) : WE c te Γ Q2 := fun H0 F σ H e x Q' q => h H0 F σ H e x Q' fun r v H' a => q r v H' (k r a)
theorem we_v (h : VE c te Γ r) (q : Q r) : WE c te Γ Q := h.mono fun z e => by rw [e]; exact q
theorem WT.mono {Q Q2 : Bool → Prop} (h : WT c tt Γ Q) (k : ∀ r, Q r → Q2 r) : WT c tt Γ Q2 := fun H0 F σ H e x Q' q => h H0 F σ H e x Q' fun r H' a => q r H' (k r a)
theorem wt_v {Q : Bool → Prop} {b : Bool} (h : VT c tt Γ b) (q : Q b) : WT c tt Γ Q := h.mono fun z e => by rw [e]; exact q
theorem WA.mono {Q Q2 : List Ent → Prop} (h : WA c tA Γ Q) (k : ∀ r, Q r → Q2 r) : WA c tA Γ Q2 := fun H0 F σ H e x Q' q => h H0 F σ H e x Q' fun r v H' a => q r v H' (k r a)
theorem wa_v {Q : List Ent → Prop} (h : VA c tA Γ rs) (q : Q rs) : WA c tA Γ Q := h.mono fun z e => by rw [e]; exact q
/-! ### values -/
def Ent.isv : Ent → Bool
  | .no => false
  | .pn => false
  | .dk _ => false
  | .dt _ => false
  | _ => true
def Ent.toR : Ent → Ent
  | .ls ds => .ro ds
  | .la _ _ ds => .ro ds
  | e => e
theorem ve_var {i : Nat} {e : Ent} (h : Γ[i]? = some e) (n : e.isv = true) : VE c (tVar i) Γ e.toR := fun H0 F σ H ev x Q' q => by
  obtain ⟨s, hs, k1, k⟩ := ev.ent i e h
  cases e with
  | no => cases n
  | im d => obtain ⟨v, rfl, m⟩ := k; exact ⟨v, hs, q _ v H rfl (Stp.refl _ _) (res_im.2 m)⟩
  | ls ds => obtain ⟨a, o, rfl, _, _, _, m, vs, rfl, g⟩ := k1 _ rfl; exact ⟨_, hs, q _ _ H rfl (Stp.refl _ _) (res_ro.2 ⟨a, vs, rfl, .inl (.inl m), g⟩)⟩
  | la b vs ds => obtain ⟨a, o, rfl, _, _, _, m, rfl, g⟩ := k1 _ rfl; exact ⟨_, hs, q _ _ H rfl (Stp.refl _ _) (res_ro.2 ⟨a, vs, rfl, .inl (.inl m), g⟩)⟩
  | ro ds => obtain ⟨a, vs, rfl, _, m, g⟩ := k; exact ⟨_, hs, q _ _ H rfl (Stp.refl _ _) (res_ro.2 ⟨a, vs, rfl, m, g⟩)⟩
  | pen => obtain ⟨w, e, rfl⟩ := k; exact ⟨_, hs, q _ _ H rfl (Stp.refl _ _) (res_pen.2 ⟨w, e, rfl⟩)⟩
  | raw v => exact ⟨v, by rw [hs, show s = some v from k], q _ v H rfl (Stp.refl _ _) (res_raw.2 rfl)⟩
  | ex a d fs => obtain ⟨e, k⟩ := k; exact ⟨_, by rw [hs, e], q _ _ H rfl (Stp.refl _ _) ⟨(fun φ z => by cases z), rfl, k.step ev.stp ev.pok0⟩⟩
  | pn => cases n
  | dk d => cases n
  | dt d => cases n
theorem v_im {i : Nat} {d : PyData} (h : Γ[i]? = some (.im d) := by rfl) : VE c (tVar i) Γ (.im d) := ve_var h rfl
theorem v_ls {i : Nat} {d : List PyData} (h : Γ[i]? = some (.ls d) := by rfl) : VE c (tVar i) Γ (.ro d) := ve_var h rfl
theorem v_la {i : Nat} {a : Addr} {vs : List V} {d : List PyData} (h : Γ[i]? = some (.la a vs d) := by rfl) : VE c (tVar i) Γ (.ro d) := ve_var h rfl
theorem v_ro {i : Nat} {d : List PyData} (h : Γ[i]? = some (.ro d) := by rfl) : VE c (tVar i) Γ (.ro d) := ve_var h rfl
theorem v_pen {i : Nat} (h : Γ[i]? = some .pen := by rfl) : VE c (tVar i) Γ .pen := ve_var h rfl
theorem v_raw {i : Nat} {v : V} (h : Γ[i]? = some (.raw v) := by rfl) : VE c (tVar i) Γ (.raw v) := ve_var h rfl
theorem v_ex {i : Nat} {a d : Addr} {fs : List (Str × PyData)} (h : Γ[i]? = some (.ex a d fs) := by rfl) : VE c (tVar i) Γ (.ex a d fs) := ve_var h rfl
theorem v_int {n : Int} : VE c (tC (.int n)) Γ (I n) := fun H0 F σ H ev x Q' q => q _ _ H rfl (Stp.refl _ _) (res_im.2 (.int n))
theorem v_bl {n : Bool} : VE c (tC (.bl n)) Γ (B n) := fun H0 F σ H ev x Q' q => q _ _ H rfl (Stp.refl _ _) (res_im.2 (.bl n))
theorem v_non : VE c (tC .non) Γ (.im .none) := fun H0 F σ H ev x Q' q => q _ _ H rfl (Stp.refl _ _) (res_im.2 .non)
theorem v_str {n : Str} : VE c (tC (.str n)) Γ (.im (.str n)) := fun H0 F σ H ev x Q' q => q _ _ H rfl (Stp.refl _ _) (res_im.2 (.str n))
theorem v_c {v : V} : VE c (tC v) Γ (.raw v) := fun H0 F σ H ev x Q' q => q _ _ H rfl (Stp.refl _ _) (res_raw.2 rfl)
/-! ### two places -/
structure Op2 (c : Cd) (r : R2) (ra rb z : Ent) : Prop where
  run : ∀ x y H H', POk c.p H → Stp c.p H H' → ResOk c.K c.p H H' ra x → ResOk c.K c.p H H' rb y → ∀ Q' : VK, (∀ v H'', Stp c.p H' H'' → ResOk c.K c.p H' H'' z v → Q' v H'') → r x y H' Q'
theorem we_op {r : R2} (h : WE c ta Γ fun ra => WE c tb Γ fun rb => ∃ z, Op2 c r ra rb z ∧ Q z) : WE c (tOp r ta tb) Γ Q := fun H0 F σ H ev x Q' q => by
  refine h H0 F σ H ev x _ fun ra va H1 h1 s1 r1 => ?_
  refine h1 H0 F σ H1 (ev.step s1) x _ fun rb vb H2 ⟨z, o, qz⟩ s2 r2 => ?_
  have pk := ev.pok
  refine o.run va vb H H2 pk (s1.trans s2) (r1.step s2 pk (pk.step s1)) (r2.back s1 pk) _ fun v H3 s3 r3 => ?_
  exact q z v H3 qz ((s1.trans s2).trans s3) (r3.back (s1.trans s2) pk)
theorem v_op {r : R2} (o : Op2 c r ra rb z) (ha : VE c ta Γ ra) (hb : VE c tb Γ rb) : VE c (tOp r ta tb) Γ z :=
  we_op (we_v ha (we_v hb ⟨z, o, rfl⟩))
theorem o_I0 {g : Int → Int → Int} {i j : Int} : Op2 c (rI0 fun i j => .int (g i j)) (I i) (I j) (I (g i j)) := ⟨fun x y H H' _ s a b Q' q => by
  have a := Im.intv a.2
  have b := Im.intv b.2
  subst a b
  exact ⟨i, j, rfl, rfl, q _ H' (Stp.refl _ _) (res_im.2 (.int _))⟩⟩
theorem o_IC {C : Int → Int → Prop} {g : Int → Int → Int} {i j : Int} (hc : C i j) : Op2 c (rI C fun i j => .int (g i j)) (I i) (I j) (I (g i j)) := ⟨fun x y H H' _ s a b Q' q => by
  have a := Im.intv a.2
  have b := Im.intv b.2
  subst a b
  exact ⟨i, j, rfl, rfl, hc, q _ H' (Stp.refl _ _) (res_im.2 (.int _))⟩⟩
theorem o_B0 {g : Int → Int → Bool} {i j : Int} : Op2 c (rI0 fun i j => .bl (g i j)) (I i) (I j) (B (g i j)) := ⟨fun x y H H' _ s a b Q' q => by
  have a := Im.intv a.2
  have b := Im.intv b.2
  subst a b
  exact ⟨i, j, rfl, rfl, q _ H' (Stp.refl _ _) (res_im.2 (.bl _))⟩⟩
theorem o_add {i j : Int} : Op2 c (rI0 fun i j => .int (i + j)) (I i) (I j) (I (i + j)) := o_I0
theorem o_sub {i j : Int} : Op2 c (rI0 fun i j => .int (i - j)) (I i) (I j) (I (i - j)) := o_I0
theorem o_mul {i j : Int} (h : CMul i j) : Op2 c (rI CMul fun i j => .int (i * j)) (I i) (I j) (I (i * j)) := o_IC h
theorem o_mulW {i j : Int} (h : CMulW i j) : Op2 c (rI CMulW fun i j => .int (i * j)) (I i) (I j) (I (i * j)) := o_IC h
theorem o_mod {i j : Int} (h : 0 < j) : Op2 c (rI (fun _ j => 0 < j) fun i j => .int (i % j)) (I i) (I j) (I (i % j)) := o_IC h
theorem o_fdiv {i j : Int} (h : CDiv i j) : Op2 c (rI CDiv fun i j => .int (i / j)) (I i) (I j) (I (i / j)) := o_IC h
theorem o_fdivW {i j : Int} (h : CDivW i j) : Op2 c (rI CDivW fun i j => .int (i / j)) (I i) (I j) (I (i / j)) := o_IC h
theorem o_pow {i j : Int} (h : CPow i j) : Op2 c (rI CPow fun i j => .int (i ^ j.toNat)) (I i) (I j) (I (i ^ j.toNat)) := o_IC h
theorem o_lt {i j : Int} : Op2 c (rI0 fun i j => .bl (decide (i < j))) (I i) (I j) (B (decide (i < j))) := o_B0
theorem o_le {i j : Int} : Op2 c (rI0 fun i j => .bl (decide (i ≤ j))) (I i) (I j) (B (decide (i ≤ j))) := o_B0
theorem o_gt {i j : Int} : Op2 c (rI0 fun i j => .bl (decide (j < i))) (I i) (I j) (B (decide (j < i))) := o_B0
theorem o_ge {i j : Int} : Op2 c (rI0 fun i j => .bl (decide (j ≤ i))) (I i) (I j) (B (decide (j ≤ i))) := o_B0
theorem o_eqI {i j : Int} : Op2 c rEq (I i) (I j) (B (decide (i = j))) := ⟨fun x y H H' _ s a b Q' q => by
  have a := Im.intv a.2
  have b := Im.intv b.2
  subst a b
  refine ⟨rfl, ?_⟩
  have := q _ H' (Stp.refl _ _) (res_im.2 (.bl (decide (i = j))))
  rw [show decide (V.int i = V.int j) = decide (i = j) by simp]
  exact this⟩
theorem o_neI {i j : Int} : Op2 c rNe (I i) (I j) (B (!decide (i = j))) := ⟨fun x y H H' _ s a b Q' q => by
  have a := Im.intv a.2
  have b := Im.intv b.2
  subst a b
  refine ⟨rfl, ?_⟩
  have := q _ H' (Stp.refl _ _) (res_im.2 (.bl (!decide (i = j))))
  rw [show decide (V.int i = V.int j) = decide (i = j) by simp]
  exact this⟩
/-- == and != of data -/
def Ent.dat : Ent → Option PyData
  | .im d => some d
  | .ro ds => some (.list ds)
  | .ls ds => some (.list ds)
  | _ => none
theorem ResOk.dp {e : Ent} {d : PyData} {H0 H : Hp} {v : V} (h : ResOk c.K c.p H0 H e v) (he : e.dat = some d) : Dp c.K H v d := by
  cases e with
  | im d' => cases he; exact Im.dp h.2
  | ro ds => cases he; obtain ⟨a, vs, rfl, s, m⟩ := res_ro.1 h; exact .lst s m.dp
  | ls ds => cases he; obtain ⟨a, vs, rfl, _, s, m⟩ := res_ls.1 h; exact .lst (.inl (.inl s)) m.dp
  | no => cases he
  | pen => cases he
  | pn => cases he
  | la b vs d => cases he
  | dk d => cases he
  | dt d => cases he
  | raw v => cases he
  | ex a d fs => cases he
theorem o_eqD {d e : PyData} (h1 : ra.dat = some d) (h2 : rb.dat = some e) (s1 : SeqAt.shaped d = true) (s2 : SeqAt.shaped e = true) : Op2 c (rEqD c.K) ra rb (B (PyData.eqv d e)) := ⟨fun x y H H' _ s a b Q' q =>
  ⟨d, e, a.dp h1, b.dp h2, s1, s2, q _ H' (Stp.refl _ _) (res_im.2 (.bl _))⟩⟩
theorem o_neD {d e : PyData} (h1 : ra.dat = some d) (h2 : rb.dat = some e) (s1 : SeqAt.shaped d = true) (s2 : SeqAt.shaped e = true) : Op2 c (rNeD c.K) ra rb (B (!PyData.eqv d e)) := ⟨fun x y H H' _ s a b Q' q =>
  ⟨d, e, a.dp h1, b.dp h2, s1, s2, q _ H' (Stp.refl _ _) (res_im.2 (.bl _))⟩⟩
def isNon : PyData → Bool
  | .none => true
  | _ => false
theorem o_isN {d : PyData} : Op2 c (fun x y H Q => y = .non ∧ Q (.bl (decide (x = .non))) H) (.im d) (.im .none) (B (isNon d)) := ⟨fun x y H H' _ s a b Q' q => by
  have b := Im.nonv b.2
  subst b
  refine ⟨rfl, ?_⟩
  have e : decide (x = V.non) = isNon d := by
    have a := a.2
    cases a <;> simp [isNon]
  rw [e]
  exact q _ H' (Stp.refl _ _) (res_im.2 (.bl _))⟩
theorem o_notN {d : PyData} : Op2 c (fun x y H Q => y = .non ∧ Q (.bl (!decide (x = .non))) H) (.im d) (.im .none) (B (!isNon d)) := ⟨fun x y H H' _ s a b Q' q => by
  have b := Im.nonv b.2
  subst b
  refine ⟨rfl, ?_⟩
  have e : (!decide (x = V.non)) = !isNon d := by
    have a := a.2
    cases a <;> simp [isNon]
  rw [e]
  exact q _ H' (Stp.refl _ _) (res_im.2 (.bl _))⟩
theorem o_ixT {ds : List PyData} {i : Int} {d : PyData} (h : atI ds i = some d) : Op2 c (rIxT c.K) (.im (.tuple ds)) (I i) (.im d) := ⟨fun x y H H' _ s a b Q' q => by
  have b := Im.intv b.2
  subst b
  cases a.2 with
  | tup hs ms =>
    obtain ⟨j, e1, e2, e3, e4, e5⟩ := atI_get h
    obtain ⟨v, ev, mv⟩ := ms.get e2
    refine ⟨_, _, i, v, rfl, rfl, hs, ?_, q v H' (Stp.refl _ _) (res_im.2 mv)⟩
    unfold atI at h ⊢
    rw [ms.length]
    cases z : ixN ds.length i with
    | none => rw [z] at h; cases h
    | some k =>
      rw [z] at h
      obtain ⟨v', ev', mv'⟩ := ms.get (show ds[k]? = some d from h)
      have := (ixN_seq z).1.symm.trans e1
      cases this
      exact ev⟩
theorem o_ixL {ds : List PyData} {i : Int} {d : PyData} (h : atI ds i = some d) : Op2 c (rIxL c.K) (.ro ds) (I i) (.im d) := ⟨fun x y H H' _ s a b Q' q => by
  have b := Im.intv b.2
  subst b
  obtain ⟨ad, vs, rfl, hs, ms⟩ := res_ro.1 a
  obtain ⟨j, e1, e2, e3, e4, e5⟩ := atI_get h
  obtain ⟨v, ev, mv⟩ := ms.get e2
  refine ⟨_, _, i, v, rfl, rfl, hs, ?_, q v H' (Stp.refl _ _) (res_im.2 mv)⟩
  unfold atI at h ⊢
  rw [ms.length]
  cases z : ixN ds.length i with
  | none => rw [z] at h; cases h
  | some k =>
    have := (ixN_seq z).1.symm.trans e1
    cases this
    exact ev⟩
/-! ### one place, calls of built-ins -/
structure Op1 (c : Cd) (r : V → Hp → VK → Prop) (ra z : Ent) : Prop where
  run : ∀ x H H', POk c.p H → Stp c.p H H' → ResOk c.K c.p H H' ra x → ∀ Q' : VK, (∀ v H'', Stp c.p H' H'' → ResOk c.K c.p H' H'' z v → Q' v H'') → r x H' Q'
theorem we_un {r : V → Hp → VK → Prop} (h : WE c ta Γ fun ra => ∃ z, Op1 c r ra z ∧ Q z) : WE c (tUn r ta) Γ Q := fun H0 F σ H ev x Q' q => by
  refine h H0 F σ H ev x _ fun ra va H1 ⟨z, o, qz⟩ s1 r1 => ?_
  refine o.run va H H1 ev.pok s1 r1 _ fun v H3 s3 r3 => ?_
  exact q z v H3 qz (s1.trans s3) (r3.back s1 ev.pok)
theorem v_un {r : V → Hp → VK → Prop} (o : Op1 c r ra z) (h : VE c ta Γ ra) : VE c (tUn r ta) Γ z := we_un (we_v h ⟨z, o, rfl⟩)
theorem o_neg {i : Int} : Op1 c (rU fun i => .int (-i)) (I i) (I (-i)) := ⟨fun x H H' _ s a Q' q => by
  have a := Im.intv a.2
  subst a
  exact ⟨i, rfl, q _ H' (Stp.refl _ _) (res_im.2 (.int _))⟩⟩
structure OpN (c : Cd) (r : List V → Hp → VK → Prop) (rs : List Ent) (z : Ent) : Prop where
  run : ∀ xs H H', POk c.p H → Stp c.p H H' → ResAll c.K c.p H H' rs xs → ∀ Q' : VK, (∀ v H'', Stp c.p H' H'' → ResOk c.K c.p H' H'' z v → Q' v H'') → r xs H' Q'
theorem we_cb {r : List V → Hp → VK → Prop} (h : WA c tA Γ fun rs => ∃ z, OpN c r rs z ∧ Q z) : WE c (tCB r tA) Γ Q := fun H0 F σ H ev x Q' q => by
  refine h H0 F σ H ev x _ fun ra va H1 ⟨z, o, qz⟩ s1 r1 => ?_
  refine o.run va H H1 ev.pok s1 r1 _ fun v H3 s3 r3 => ?_
  exact q z v H3 qz (s1.trans s3) (r3.back s1 ev.pok)
theorem v_cb {r : List V → Hp → VK → Prop} (o : OpN c r rs z) (h : VA c tA Γ rs) : VE c (tCB r tA) Γ z := we_cb (wa_v h ⟨z, o, rfl⟩)
/-! ### arguments -/
theorem wa_nil {Q : List Ent → Prop} (q : Q []) : WA c tNil Γ Q := fun H0 F σ H ev x Q' k => k [] [] H q (Stp.refl _ _) rfl
theorem wa_cons {t : TA} {Q : List Ent → Prop} (h : WE c ta Γ fun r => WA c t Γ fun rs => Q (r :: rs)) : WA c (tCons ta t) Γ Q := fun H0 F σ H ev x Q' q => by
  refine h H0 F σ H ev x _ fun ra va H1 h1 s1 r1 => ?_
  refine h1 H0 F σ H1 (ev.step s1) x _ fun rs vs H2 h2 s2 r2 => ?_
  exact q (ra :: rs) (va :: vs) H2 h2 (s1.trans s2) ⟨va, vs, rfl, r1.step s2 ev.pok (ev.pok.step s1), r2.back s1 ev.pok, fun ho j s hs hso hv => by
    obtain ⟨a, e, n⟩ := r2.own hs hso hv
    obtain ⟨φ, hφ⟩ := Option.isSome_iff_exists.mp ho
    obtain ⟨b, o, e', _, _, g, _⟩ := r1.1 φ hφ
    rw [e] at e'; cases e'
    rw [n] at g; cases g⟩
theorem a_nil : VA c tNil Γ [] := wa_nil rfl
theorem a_cons {t : TA} (h : VE c ta Γ r) (k : VA c t Γ rs) : VA c (tCons ta t) Γ (r :: rs) := wa_cons (we_v h (wa_v k rfl))
/-! ### built-ins -/
theorem all1 {K : PySem.W.Frag} {p : Option Addr} {H0 H : Hp} {r : Ent} {xs : List V} (h : ResAll K p H0 H [r] xs) : ∃ v, xs = [v] ∧ ResOk K p H0 H r v := by
  obtain ⟨v, ws, e, a, b, _⟩ := h
  have b : ws = [] := b
  exact ⟨v, by rw [e, b], a⟩
theorem all2 {K : PySem.W.Frag} {p : Option Addr} {H0 H : Hp} {r r' : Ent} {xs : List V} (h : ResAll K p H0 H [r, r'] xs) : ∃ v w, xs = [v, w] ∧ ResOk K p H0 H r v ∧ ResOk K p H0 H r' w := by
  obtain ⟨v, ws, e, a, b, _⟩ := h
  obtain ⟨w, rfl, b'⟩ := all1 b
  exact ⟨v, w, e, a, b'⟩
theorem n_int {i : Int} : OpN c (fun xs H Q => (∃ i, xs = [.int i] ∧ Q (.int i) H) ∨ ∃ k, xs = [.bl k] ∧ Q (.int (if k then 1 else 0)) H) [I i] (I i) := ⟨fun xs H H' _ s a0 Q' q => by
  obtain ⟨v, rfl, a⟩ := all1 a0
  have a := Im.intv a.2
  subst a
  exact .inl ⟨i, rfl, q _ H' (Stp.refl _ _) (res_im.2 (.int _))⟩⟩
theorem n_intB {b : Bool} : OpN c (fun xs H Q => (∃ i, xs = [.int i] ∧ Q (.int i) H) ∨ ∃ k, xs = [.bl k] ∧ Q (.int (if k then 1 else 0)) H) [B b] (I (if b then 1 else 0)) := ⟨fun xs H H' _ s a0 Q' q => by
  obtain ⟨v, rfl, a⟩ := all1 a0
  have a := Im.blv a.2
  subst a
  exact .inr ⟨b, rfl, q _ H' (Stp.refl _ _) (res_im.2 (.int _))⟩⟩
theorem n_abs {i : Int} : OpN c (fun xs H Q => ∃ i, xs = [.int i] ∧ Q (.int (if i < 0 then -i else i)) H) [I i] (I (if i < 0 then -i else i)) := ⟨fun xs H H' _ s a0 Q' q => by
  obtain ⟨v, rfl, a⟩ := all1 a0
  have a := Im.intv a.2
  subst a
  exact ⟨i, rfl, q _ H' (Stp.refl _ _) (res_im.2 (.int _))⟩⟩
theorem n_max2 {i j : Int} : OpN c (fun xs H Q => ∃ i j, xs = [.int i, .int j] ∧ Q (.int (if j > i then j else i)) H) [I i, I j] (I (if j > i then j else i)) := ⟨fun xs H H' _ s a0 Q' q => by
  obtain ⟨v, w, rfl, a, b⟩ := all2 a0
  have a := Im.intv a.2
  have b := Im.intv b.2
  subst a b
  exact ⟨i, j, rfl, q _ H' (Stp.refl _ _) (res_im.2 (.int _))⟩⟩
abbrev rLen (K : PySem.W.Frag) : List V → Hp → VK → Prop := fun xs H Q => ∃ p ys, xs = [.ref p] ∧ (SqL K H p ys ∨ SqT K H p ys) ∧ Q (.int ys.length) H
theorem n_lenT {ds : List PyData} : OpN c (rLen c.K) [.im (.tuple ds)] (I ds.length) := ⟨fun xs H H' _ s a0 Q' q => by
  obtain ⟨v, rfl, a⟩ := all1 a0
  cases a.2 with
  | tup hs ms =>
    refine ⟨_, _, rfl, .inr hs, ?_⟩
    rw [ms.length]
    exact q _ H' (Stp.refl _ _) (res_im.2 (.int _))⟩
theorem n_lenL {ds : List PyData} : OpN c (rLen c.K) [.ro ds] (I ds.length) := ⟨fun xs H H' _ s a0 Q' q => by
  obtain ⟨v, rfl, a⟩ := all1 a0
  obtain ⟨ad, vs, rfl, hs, ms⟩ := res_ro.1 a
  refine ⟨_, _, rfl, .inl hs, ?_⟩
  rw [ms.length]
  exact q _ H' (Stp.refl _ _) (res_im.2 (.int _))⟩
abbrev rTupOf (K : PySem.W.Frag) : List V → Hp → VK → Prop := fun xs H Q => ∃ p ys, xs = [.ref p] ∧ ((SqL K H p ys ∧ ∀ l, H l = none → Q (.ref l) (upd H l (.tup ys))) ∨ (SqT K H p ys ∧ Q (.ref p) H))
theorem n_tupT {ds : List PyData} : OpN c (rTupOf c.K) [.im (.tuple ds)] (.im (.tuple ds)) := ⟨fun xs H H' _ s a0 Q' q => by
  obtain ⟨v, rfl, a⟩ := all1 a0
  cases a.2 with
  | tup hs ms => exact ⟨_, _, rfl, .inr ⟨hs, q _ H' (Stp.refl _ _) (res_im.2 (.tup hs ms))⟩⟩⟩
theorem im_new {K : PySem.W.Frag} {H : Hp} {p : Option Addr} {a : Addr} {o : HO} (hp : POk p H) (n : H a = none) : Tup H (upd H a o) := (Stp.new (p := p) n).tup hp
theorem n_tupL {ds : List PyData} : OpN c (rTupOf c.K) [.ro ds] (.im (.tuple ds)) := ⟨fun xs H H' hp s a0 Q' q => by
  obtain ⟨v, rfl, a⟩ := all1 a0
  obtain ⟨ad, vs, rfl, hs, ms⟩ := res_ro.1 a
  refine ⟨_, _, rfl, .inl ⟨hs, fun l hl => ?_⟩⟩
  exact q _ _ (Stp.new hl) (res_im.2 (.tup (SqT.of upd_same) (ms.tupS ((Stp.new hl).tup (hp.step s)))))⟩
theorem n_tupN {ds : List PyData} : OpN c (rTupOf c.K) [.ls ds] (.im (.tuple ds)) := ⟨fun xs H H' hp s a0 Q' q => by
  obtain ⟨v, rfl, a⟩ := all1 a0
  obtain ⟨ad, vs, rfl, _, hs, ms⟩ := res_ls.1 a
  refine ⟨_, _, rfl, .inl ⟨.inl (.inl hs), fun l hl => ?_⟩⟩
  exact q _ _ (Stp.new hl) (res_im.2 (.tup (SqT.of upd_same) (ms.tupS ((Stp.new hl).tup (hp.step s)))))⟩
abbrev rListOf (K : PySem.W.Frag) : List V → Hp → VK → Prop := fun xs H Q => ∃ p ys, xs = [.ref p] ∧ (SqL K H p ys ∨ SqT K H p ys) ∧ ∀ l, H l = none → Q (.ref l) (upd H l (.lst ys))
theorem n_listT {ds : List PyData} : OpN c (rListOf c.K) [.im (.tuple ds)] (.ls ds) := ⟨fun xs H H' hp s a0 Q' q => by
  obtain ⟨v, rfl, a⟩ := all1 a0
  cases a.2 with
  | tup hs ms =>
    refine ⟨_, _, rfl, .inr hs, fun l hl => ?_⟩
    exact q _ _ (Stp.new hl) (res_ls.2 ⟨l, _, rfl, hl, upd_same, ms.tupS ((Stp.new hl).tup (hp.step s))⟩)⟩
theorem n_listL {ds : List PyData} : OpN c (rListOf c.K) [.ro ds] (.ls ds) := ⟨fun xs H H' hp s a0 Q' q => by
  obtain ⟨v, rfl, a⟩ := all1 a0
  obtain ⟨ad, vs, rfl, hs, ms⟩ := res_ro.1 a
  refine ⟨_, _, rfl, .inl hs, fun l hl => ?_⟩
  exact q _ _ (Stp.new hl) (res_ls.2 ⟨l, _, rfl, hl, upd_same, ms.tupS ((Stp.new hl).tup (hp.step s))⟩)⟩
/-! ### displays -/
theorem we_tup {t : TA} (h : WA c t Γ fun rs => ∃ ds : List PyData, rs = ds.map Ent.im ∧ ds.length ≤ 1000000 ∧ Q (.im (.tuple ds))) : WE c (tTup t) Γ Q := fun H0 F σ H ev x Q' q => by
  refine h H0 F σ H ev x _ fun rs vs H1 ⟨ds, e, hl, qq⟩ s1 r1 => ?_
  subst e
  have ims : ∀ {ds : List PyData} {vs : List V}, ResAll c.K c.p H H1 (ds.map Ent.im) vs → Ims c.K H1 vs ds := by
    intro ds
    induction ds with
    | nil => intro vs h; rw [show vs = [] from h]; exact .nil
    | cons d r ih => intro vs h; obtain ⟨v, ws, rfl, a, b, _⟩ := h; exact .cons a.2 (ih b)
  have m := ims r1
  refine ⟨by rw [m.length, sizeLine_eq]; omega, fun p hp => ?_⟩
  exact q _ _ _ qq (s1.trans (Stp.new hp)) (res_im.2 (.tup (SqT.of upd_same) (m.tupS ((Stp.new hp).tup (ev.pok.step s1)))))
theorem v_tup {t : TA} {ds : List PyData} (h : VA c t Γ (ds.map Ent.im)) (hl : ds.length ≤ 1000000 := by decide) : VE c (tTup t) Γ (.im (.tuple ds)) := we_tup (wa_v h ⟨ds, rfl, hl, rfl⟩)
theorem we_lst {t : TA} (h : WA c t Γ fun rs => ∃ ds : List PyData, rs = ds.map Ent.im ∧ ds.length ≤ 1000000 ∧ Q (.ls ds)) : WE c (tLst t) Γ Q := fun H0 F σ H ev x Q' q => by
  refine h H0 F σ H ev x _ fun rs vs H1 ⟨ds, e, hl, qq⟩ s1 r1 => ?_
  subst e
  have ims : ∀ {ds : List PyData} {vs : List V}, ResAll c.K c.p H H1 (ds.map Ent.im) vs → Ims c.K H1 vs ds := by
    intro ds
    induction ds with
    | nil => intro vs h; rw [show vs = [] from h]; exact .nil
    | cons d r ih => intro vs h; obtain ⟨v, ws, rfl, a, b, _⟩ := h; exact .cons a.2 (ih b)
  have m := ims r1
  refine ⟨by rw [m.length, sizeLine_eq]; omega, fun p hp => ?_⟩
  exact q _ _ _ qq (s1.trans (Stp.new hp)) (res_ls.2 ⟨p, _, rfl, s1.back ev.pok hp, upd_same, m.tupS ((Stp.new hp).tup (ev.pok.step s1))⟩)
theorem v_lst {t : TA} {ds : List PyData} (h : VA c t Γ (ds.map Ent.im)) (hl : ds.length ≤ 1000000 := by decide) : VE c (tLst t) Γ (.ls ds) := we_lst (wa_v h ⟨ds, rfl, hl, rfl⟩)
/-! ### tests -/
theorem wt_test {Q : Bool → Prop} (h : WE c te Γ fun r => ∃ b, r = B b ∧ Q b) : WT c (tTest te) Γ Q := fun H0 F σ H ev x Q' q => by
  refine h H0 F σ H ev x _ fun r v H1 ⟨b, e, qb⟩ s1 r1 => ?_
  subst e
  have r1 := Im.blv r1.2
  exact ⟨b, r1, q b H1 qb s1⟩
theorem t_test {b : Bool} (h : VE c te Γ (B b)) : VT c (tTest te) Γ b := wt_test (we_v h ⟨b, rfl, rfl⟩)
theorem wt_B {Q : Bool → Prop} (h : WE c te Γ fun r => ∃ b, r = B b ∧ Q b) : WT c (tB te) Γ Q := wt_test h
theorem t_B {b : Bool} (h : VE c te Γ (B b)) : VT c (tB te) Γ b := wt_test (we_v h ⟨b, rfl, rfl⟩)
theorem wt_and {Q : Bool → Prop} (h : WT c tt Γ fun a => (a = true → WT c tu Γ Q) ∧ (a = false → Q false)) : WT c (tAnd tt tu) Γ Q := fun H0 F σ H ev x Q' q => by
  refine h H0 F σ H ev x _ fun a H1 ⟨ht, hf⟩ s1 => ?_
  cases a with
  | true => exact ht rfl H0 F σ H1 (ev.step s1) x _ fun b H2 qb s2 => q b H2 qb (s1.trans s2)
  | false => exact q false H1 (hf rfl) s1
theorem wt_or {Q : Bool → Prop} (h : WT c tt Γ fun a => (a = false → WT c tu Γ Q) ∧ (a = true → Q true)) : WT c (tOr tt tu) Γ Q := fun H0 F σ H ev x Q' q => by
  refine h H0 F σ H ev x _ fun a H1 ⟨ht, hf⟩ s1 => ?_
  cases a with
  | false => exact ht rfl H0 F σ H1 (ev.step s1) x _ fun b H2 qb s2 => q b H2 qb (s1.trans s2)
  | true => exact q true H1 (hf rfl) s1
theorem wt_not {Q : Bool → Prop} (h : WT c tt Γ fun a => Q (!a)) : WT c (tNot tt) Γ Q := fun H0 F σ H ev x Q' q => h H0 F σ H ev x _ fun a H1 qa s1 => q (!a) H1 qa s1
theorem t_and {a b : Bool} (h : VT c tt Γ a) (k : a = true → VT c tu Γ b) : VT c (tAnd tt tu) Γ (a && b) := wt_and (wt_v h ⟨fun e => by rw [e]; exact k e, fun e => by rw [e]; rfl⟩)
theorem t_or {a b : Bool} (h : VT c tt Γ a) (k : a = false → VT c tu Γ b) : VT c (tOr tt tu) Γ (a || b) := wt_or (wt_v h ⟨fun e => by rw [e]; exact k e, fun e => by rw [e]; rfl⟩)
theorem t_not {a : Bool} (h : VT c tt Γ a) : VT c (tNot tt) Γ (!a) := wt_not (wt_v h rfl)
theorem we_and {Q : Ent → Prop} (h : WE c ta Γ fun r => ∃ a, r = B a ∧ (a = true → WE c tb Γ Q) ∧ (a = false → Q (B false))) : WE c (tAndV ta tb) Γ Q := fun H0 F σ H ev x Q' q => by
  refine h H0 F σ H ev x _ fun r v H1 ⟨a, e, ht, hf⟩ s1 r1 => ?_
  subst e
  have r1 := Im.blv r1.2
  refine ⟨a, r1, ?_⟩
  cases a with
  | true => exact ht rfl H0 F σ H1 (ev.step s1) x _ fun r v H2 qb s2 r2 => q r v H2 qb (s1.trans s2) (r2.back s1 ev.pok)
  | false => exact q (B false) _ H1 (hf rfl) s1 (res_im.2 (.bl false))
theorem we_or {Q : Ent → Prop} (h : WE c ta Γ fun r => ∃ a, r = B a ∧ (a = false → WE c tb Γ Q) ∧ (a = true → Q (B true))) : WE c (tOrV ta tb) Γ Q := fun H0 F σ H ev x Q' q => by
  refine h H0 F σ H ev x _ fun r v H1 ⟨a, e, ht, hf⟩ s1 r1 => ?_
  subst e
  have r1 := Im.blv r1.2
  refine ⟨a, r1, ?_⟩
  cases a with
  | false => exact ht rfl H0 F σ H1 (ev.step s1) x _ fun r v H2 qb s2 r2 => q r v H2 qb (s1.trans s2) (r2.back s1 ev.pok)
  | true => exact q (B true) _ H1 (hf rfl) s1 (res_im.2 (.bl true))
theorem we_not (h : WE c ta Γ fun r => ∃ a, r = B a ∧ Q (B (!a))) : WE c (tNotV ta) Γ Q := fun H0 F σ H ev x Q' q => by
  refine h H0 F σ H ev x _ fun r v H1 ⟨a, e, qa⟩ s1 r1 => ?_
  subst e
  have r1 := Im.blv r1.2
  exact ⟨a, r1, q _ _ H1 qa s1 (res_im.2 (.bl _))⟩
theorem v_and {a b : Bool} (h : VE c ta Γ (B a)) (k : a = true → VE c tb Γ (B b)) : VE c (tAndV ta tb) Γ (B (a && b)) := we_and (we_v h ⟨a, rfl, fun e => by rw [e]; exact k e, fun e => by rw [e]; rfl⟩)
theorem v_or {a b : Bool} (h : VE c ta Γ (B a)) (k : a = false → VE c tb Γ (B b)) : VE c (tOrV ta tb) Γ (B (a || b)) := we_or (we_v h ⟨a, rfl, fun e => by rw [e]; exact k e, fun e => by rw [e]; rfl⟩)
theorem v_not {a : Bool} (h : VE c ta Γ (B a)) : VE c (tNotV ta) Γ (B (!a)) := we_not (we_v h ⟨a, rfl, rfl⟩)
theorem we_if {t : TT} (h : WT c t Γ fun b => (b = true → WE c ta Γ Q) ∧ (b = false → WE c tb Γ Q)) : WE c (tIf t ta tb) Γ Q := fun H0 F σ H ev x Q' q => by
  refine h H0 F σ H ev x _ fun b H1 ⟨ht, hf⟩ s1 => ?_
  cases b with
  | true => exact ht rfl H0 F σ H1 (ev.step s1) x _ fun r v H2 qb s2 r2 => q r v H2 qb (s1.trans s2) (r2.back s1 ev.pok)
  | false => exact hf rfl H0 F σ H1 (ev.step s1) x _ fun r v H2 qb s2 r2 => q r v H2 qb (s1.trans s2) (r2.back s1 ev.pok)
theorem v_if {t : TT} {b : Bool} (h : VT c t Γ b) (h1 : b = true → VE c ta Γ r) (h2 : b = false → VE c tb Γ r) : VE c (tIf t ta tb) Γ r := we_if (wt_v h ⟨h1, h2⟩)
theorem ve_is (h : VE c te Γ r) (e : r = z) : VE c te Γ z := by rw [← e]; exact h
theorem vt_is {a b : Bool} (h : VT c tt Γ a) (e : a = b) : VT c tt Γ b := by rw [← e]; exact h
/-! ### slices, + of tuples and lists -/
def WO (c : Cd) (to : TO) (Γ : List Ent) (o : Option Int) : Prop :=
  ∀ H0 F σ H, Ev c.K c.p H0 F Γ σ H → c.XOk H0 → ∀ Q' : Option Int → Hp → Prop, (∀ H', Stp c.p H H' → Q' o H') → to σ H Q'
theorem p_no : WO c tNoPart Γ none := fun H0 F σ H ev x Q' q => q H (Stp.refl _ _)
theorem p_so {i : Int} (h : VE c te Γ (I i)) : WO c (tPart te) Γ (some i) := fun H0 F σ H ev x Q' q => h H0 F σ H ev x _ fun r v H1 e s1 r1 => by
  subst e
  exact ⟨i, Im.intv r1.2, q H1 s1⟩
/-- a cut of data -/
def cutD (xs : List PyData) (lo hi : Option Int) : List PyData := (xs.drop (HT.sIx xs.length 0 lo)).take (HT.sIx xs.length xs.length hi - HT.sIx xs.length 0 lo)
theorem cut_ims {K : PySem.W.Frag} {H : Hp} {vs : List V} {ds : List PyData} (m : Ims K H vs ds) (lo hi : Option Int) : Ims K H (cutV vs lo hi) (cutD ds lo hi) := by
  unfold cutV cutD
  rw [m.length]
  exact (m.drop _).take _
theorem we_slT {tl th : TO} {lo hi : Option Int} (h : WE c te Γ fun r => WO c tl Γ lo ∧ WO c th Γ hi ∧ ∃ ds, r = .im (.tuple ds) ∧ ¬ (HT.sIx ds.length 0 lo = 0 ∧ HT.sIx ds.length ds.length hi = ds.length) ∧ Q (.im (.tuple (cutD ds lo hi)))) : WE c (tSl (rSlT c.K) te tl th) Γ Q := fun H0 F σ H ev x Q' q => by
  refine h H0 F σ H ev x _ fun r v H1 ⟨hl, hh, ds, e, hn, qq⟩ s1 r1 => ?_
  subst e
  refine hl H0 F σ H1 (ev.step s1) x _ fun H2 s2 => ?_
  refine hh H0 F σ H2 ((ev.step s1).step s2) x _ fun H3 s3 => ?_
  have ev3 := ((ev.step s1).step s2).step s3
  cases ((r1.step s2 ev.pok (ev.pok.step s1)).step s3 ev.pok ((ev.step s1).step s2).pok).2 with
  | tup hs ms =>
    refine ⟨_, _, rfl, hs, by rw [ms.length]; exact hn, fun p hp => ?_⟩
    exact q _ _ _ qq (((s1.trans s2).trans s3).trans (Stp.new hp)) (res_im.2 (.tup (SqT.of upd_same) ((cut_ims ms lo hi).tupS ((Stp.new hp).tup ev3.pok))))
theorem v_slT {tl th : TO} {lo hi : Option Int} {ds : List PyData} (h : VE c te Γ (.im (.tuple ds))) (hl : WO c tl Γ lo) (hh : WO c th Γ hi) (hn : ¬ (HT.sIx ds.length 0 lo = 0 ∧ HT.sIx ds.length ds.length hi = ds.length)) : VE c (tSl (rSlT c.K) te tl th) Γ (.im (.tuple (cutD ds lo hi))) :=
  we_slT (we_v h ⟨hl, hh, ds, rfl, hn, rfl⟩)
theorem we_slL {tl th : TO} {lo hi : Option Int} (h : WE c te Γ fun r => WO c tl Γ lo ∧ WO c th Γ hi ∧ ∃ ds, (r = .ro ds ∨ r = .ls ds) ∧ Q (.ls (cutD ds lo hi))) : WE c (tSl (rSlL c.K) te tl th) Γ Q := fun H0 F σ H ev x Q' q => by
  refine h H0 F σ H ev x _ fun r v H1 ⟨hl, hh, ds, e, qq⟩ s1 r1 => ?_
  refine hl H0 F σ H1 (ev.step s1) x _ fun H2 s2 => ?_
  refine hh H0 F σ H2 ((ev.step s1).step s2) x _ fun H3 s3 => ?_
  have ev3 := ((ev.step s1).step s2).step s3
  have rd : ∃ a vs, v = .ref a ∧ SqL c.K H3 a vs ∧ Ims c.K H3 vs ds := by
    have r3 := ((r1.step s2 ev.pok (ev.pok.step s1)).step s3 ev.pok ((ev.step s1).step s2).pok)
    rcases e with e | e
    · subst e; exact res_ro.1 r3
    · subst e; obtain ⟨a, vs, e, _, g, m⟩ := res_ls.1 r3; exact ⟨a, vs, e, .inl (.inl g), m⟩
  obtain ⟨a, vs, rfl, hs, ms⟩ := rd
  refine ⟨_, _, rfl, hs, fun p hp => ?_⟩
  exact q _ _ _ qq (((s1.trans s2).trans s3).trans (Stp.new hp)) (res_ls.2 ⟨p, _, rfl, ((s1.trans s2).trans s3).back ev.pok hp, upd_same, (cut_ims ms lo hi).tupS ((Stp.new hp).tup ev3.pok)⟩)
theorem v_slL {tl th : TO} {lo hi : Option Int} {ds : List PyData} (h : VE c te Γ (.ro ds)) (hl : WO c tl Γ lo) (hh : WO c th Γ hi) : VE c (tSl (rSlL c.K) te tl th) Γ (.ls (cutD ds lo hi)) :=
  we_slL (we_v h ⟨hl, hh, ds, .inl rfl, rfl⟩)
theorem o_catT {ds es : List PyData} (h : ds ≠ []) (hz : ds.length + es.length ≤ 1000000) : Op2 c (rCatT c.K) (.im (.tuple ds)) (.im (.tuple es)) (.im (.tuple (ds ++ es))) := ⟨fun x y H H' hp s a b Q' q => by
  cases a.2 with
  | tup hs ms =>
    cases b.2 with
    | tup hs2 ms2 =>
      refine ⟨_, _, _, _, rfl, rfl, hs, hs2, ?_, ?_, fun e => ?_, fun _ p hp' => ?_⟩
      · intro e
        subst e
        have := ms.length
        cases ds with
        | nil => exact h rfl
        | cons d r => simp at this
      · rw [ms.length, ms2.length, sizeLine_eq]; omega
      · subst e
        have := ms2.length
        cases es with
        | nil => exact q _ _ (Stp.refl _ _) (res_im.2 (by rw [List.append_nil]; exact .tup hs ms))
        | cons d r => simp at this
      · exact q _ _ (Stp.new hp') (res_im.2 (.tup (SqT.of upd_same) ((ms.append ms2).tupS ((Stp.new hp').tup (hp.step s)))))⟩
/-- what can be read as a list of its own object -/
def lstR : Ent → Option (List PyData)
  | .ls ds => some ds
  | _ => none
theorem o_catL {ds es : List PyData} (hz : ds.length + es.length ≤ 1000000) : Op2 c rCat (.ls ds) (.ls es) (.ls (ds ++ es)) := ⟨fun x y H H' hp s a b Q' q => by
  obtain ⟨a1, vs, rfl, _, g, ms⟩ := res_ls.1 a
  obtain ⟨a2, ws, rfl, _, g2, ms2⟩ := res_ls.1 b
  refine ⟨_, _, _, _, rfl, rfl, g, g2, by rw [ms.length, ms2.length, sizeLine_eq]; omega, fun p hp' => ?_⟩
  exact q _ _ (Stp.new hp') (res_ls.2 ⟨p, _, rfl, hp', upd_same, (ms.append ms2).tupS ((Stp.new hp').tup (hp.step s))⟩)⟩
/-- x in (a, b): ints -/
theorem eqV_int {i j : Int} : eqV (.int i) (.int j) = decide (i = j) := by
  unfold eqV
  exact Bool.beq_eq_decide_eq i j
theorem inV_ints (i : Int) : ∀ ns : List Int, inV (.int i) (ns.map V.int) = decide (i ∈ ns)
  | [] => by simp [inV]
  | n :: r => by
    have ih := inV_ints i r
    unfold inV at ih ⊢
    rw [List.map_cons, List.any_cons, ih, eqV_int]
    by_cases h : n = i
    · simp [h]
    · have : ¬ i = n := fun z => h z.symm
      simp [h, this]
theorem flat_ints (ns : List Int) : (ns.map V.int).all flatV = true := by
  rw [List.all_map]; simp [flatV]
theorem o_inT {i : Int} {ns : List Int} : Op2 c (rIn c.K false) (I i) (.im (.tuple (ns.map PyData.int))) (B (decide (i ∈ ns))) := ⟨fun x y H H' hp s a b Q' q => by
  have a := Im.intv a.2
  subst a
  cases b.2 with
  | tup hs ms =>
    rw [ms.ints] at hs
    refine ⟨_, _, rfl, .inr hs, rfl, flat_ints ns, ?_⟩
    rw [inV_ints]
    exact q _ _ (Stp.refl _ _) (res_im.2 (.bl _))⟩
theorem o_ninT {i : Int} {ns : List Int} : Op2 c (rIn c.K true) (I i) (.im (.tuple (ns.map PyData.int))) (B (!decide (i ∈ ns))) := ⟨fun x y H H' hp s a b Q' q => by
  have a := Im.intv a.2
  subst a
  cases b.2 with
  | tup hs ms =>
    rw [ms.ints] at hs
    refine ⟨_, _, rfl, .inr hs, rfl, flat_ints ns, ?_⟩
    rw [inV_ints]
    exact q _ _ (Stp.refl _ _) (res_im.2 (.bl _))⟩
theorem rdL {ds : List PyData} {r : Ent} (hr : r = .ro ds ∨ r = .ls ds) {H H' : Hp} {v : V} (h : ResOk c.K c.p H H' r v) : ∃ a vs, v = .ref a ∧ SqL c.K H' a vs ∧ Ims c.K H' vs ds := by
  rcases hr with e | e
  · subst e; exact res_ro.1 h
  · subst e; obtain ⟨a, vs, e, _, g, m⟩ := res_ls.1 h; exact ⟨a, vs, e, .inl (.inl g), m⟩
theorem o_inL {i : Int} {ns : List Int} (hr : rb = .ro (ns.map PyData.int) ∨ rb = .ls (ns.map PyData.int)) : Op2 c (rIn c.K false) (I i) rb (B (decide (i ∈ ns))) := ⟨fun x y H H' hp s a b Q' q => by
  have a := Im.intv a.2
  subst a
  obtain ⟨ad, vs, rfl, hs, ms⟩ := rdL hr b
  rw [ms.ints] at hs
  refine ⟨_, _, rfl, .inl hs, rfl, flat_ints ns, ?_⟩
  rw [inV_ints]
  exact q _ _ (Stp.refl _ _) (res_im.2 (.bl _))⟩
theorem o_ninL {i : Int} {ns : List Int} (hr : rb = .ro (ns.map PyData.int) ∨ rb = .ls (ns.map PyData.int)) : Op2 c (rIn c.K true) (I i) rb (B (!decide (i ∈ ns))) := ⟨fun x y H H' hp s a b Q' q => by
  have a := Im.intv a.2
  subst a
  obtain ⟨ad, vs, rfl, hs, ms⟩ := rdL hr b
  rw [ms.ints] at hs
  refine ⟨_, _, rfl, .inl hs, rfl, flat_ints ns, ?_⟩
  rw [inV_ints]
  exact q _ _ (Stp.refl _ _) (res_im.2 (.bl _))⟩
theorem n_sum {ns : List Int} {r : Ent} (hr : r = .ro (ns.map PyData.int) ∨ r = .ls (ns.map PyData.int)) : OpN c (rSum c.K) [r] (I ns.sum) := ⟨fun xs H H' _ s a0 Q' q => by
  obtain ⟨v, rfl, a⟩ := all1 a0
  obtain ⟨ad, vs, rfl, hs, ms⟩ := rdL hr a
  rw [ms.ints] at hs
  exact ⟨_, _, rfl, hs, q _ H' (Stp.refl _ _) (res_im.2 (.int _))⟩⟩
theorem n_all {bs : List Bool} {r : Ent} (hr : r = .ro (bs.map PyData.bool) ∨ r = .ls (bs.map PyData.bool)) : OpN c (rAll c.K) [r] (B (bs.all id)) := ⟨fun xs H H' _ s a0 Q' q => by
  obtain ⟨v, rfl, a⟩ := all1 a0
  obtain ⟨ad, vs, rfl, hs, ms⟩ := rdL hr a
  rw [ms.bls] at hs
  exact ⟨_, _, rfl, hs, q _ H' (Stp.refl _ _) (res_im.2 (.bl _))⟩⟩
/-! ## calls of the program's own defs -/
/-- a contract: what is handed in, what must hold, what may come back, what may be raised -/
structure Con (α : Type) where
  args : α → List Ent
  pre : α → Prop
  post : α → Ent → Prop
  exc : α → Err → Prop := fun _ _ => False
def spC {α : Type} (K : PySem.W.Frag) (C : Con α) : Sp := fun vs H Q E => ∃ (p : Option Addr) (a : α), POk p H ∧ ResAll K p H H (C.args a) vs ∧ C.pre a ∧
  (∀ r v H', C.post a r → Stp p H H' → ResOk K p H H' r v → Q v H') ∧ ∀ e cls d H', C.exc a e → Stp p H H' → ErrOk K H' e cls d → E cls d H'
theorem ErrOk.step {K : PySem.W.Frag} {p : Option Addr} {H H' : Hp} {e : Err} {cls : Value} {d : Option Addr} (t : Stp p H H') (h : POk p H) (x : ErrOk K H e cls d) : ErrOk K H' e cls d := by
  obtain ⟨a, dd, fs, b, g, k, m⟩ := x
  exact ⟨a, dd, fs, b, t.keep _ _ (fun z => by
    obtain ⟨_, _, _, _, _, _, y, _⟩ := h dd z
    rw [g] at y; cases y) g, k, m.tupS (t.tup h)⟩
/-- arguments are handed over: an own list is read alone there -/
def toArg : Ent → Ent
  | .ls ds => .ro ds
  | .la _ _ _ => .no
  | .dk _ => .no
  | .dt _ => .no
  | .pn => .no
  | e => e
theorem ResAll.arg {K : PySem.W.Frag} {p : Option Addr} {H H1 : Hp} : ∀ {rs : List Ent} {vs : List V}, ResAll K p H H1 rs vs → ResAll K p H1 H1 (rs.map toArg) vs
  | [], _, x => x
  | r :: rs, _, ⟨v, ws, e, a, b, _⟩ => by
    refine ⟨v, ws, e, ?_, ResAll.arg b, fun ho => by cases r <;> cases ho⟩
    cases r with
    | ls ds => obtain ⟨x, vs, e, _, g, m⟩ := res_ls.1 a; exact res_ro.2 ⟨x, vs, e, .inl (.inl g), m⟩
    | no => exact ⟨(fun φ z => by cases z), trivial⟩
    | la _ _ _ => exact ⟨(fun φ z => by cases z), trivial⟩
    | dk _ => exact ⟨(fun φ z => by cases z), trivial⟩
    | dt _ => exact ⟨(fun φ z => by cases z), trivial⟩
    | pn => exact ⟨(fun φ z => by cases z), trivial⟩
    | im d => exact res_im.2 a.2
    | ro d => exact res_ro.2 a.2
    | pen => exact res_pen.2 a.2
    | raw d => exact res_raw.2 a.2
    | ex a' d fs => exact ⟨(fun φ z => by cases z), a.2⟩
theorem we_call {α : Type} {C : Con α} {E : XK} (h : WA c tA Γ fun rs => ∃ a : α, rs.map toArg = C.args a ∧ C.pre a ∧ (∀ r, C.post a r → Q r) ∧ ∀ e, C.exc a e → E = c.E ∧ c.X e) : WE c (tCall (spC c.K C) [] E tA) Γ Q := fun H0 F σ H ev x Q' q => by
  refine h H0 F σ H ev x _ fun rs vs H1 ⟨a, ea, pa, qa, xa⟩ s1 r1 => ?_
  have pk1 := ev.pok.step s1
  refine ⟨c.p, a, pk1, ?_, pa, fun r v H2 pr s2 r2 => ?_, fun e cls d H2 he s2 eo => ?_⟩
  · rw [List.append_nil, ← ea]; exact r1.arg
  · exact q r v H2 (qa r pr) (s1.trans s2) (r2.back s1 ev.pok)
  · obtain ⟨z, w⟩ := xa e he
    rw [z]
    exact x e cls d H2 w (ev.stp.trans (s1.trans s2)) eo
/-- a call that hands back the one value and raises nothing -/
theorem v_call {α : Type} {C : Con α} {E : XK} {rs : List Ent} (a : α) (h : VA c tA Γ rs) (ea : rs.map toArg = C.args a) (pa : C.pre a) (qa : ∀ r, C.post a r → r = z) (xa : ∀ e, ¬ C.exc a e) : VE c (tCall (spC c.K C) [] E tA) Γ z :=
  we_call (wa_v h ⟨a, ea, pa, qa, fun e he => absurd he (xa e)⟩)
/-- the same with a value that is not told -/
theorem w_call {α : Type} {C : Con α} {E : XK} {rs : List Ent} (a : α) (h : VA c tA Γ rs) (ea : rs.map toArg = C.args a) (pa : C.pre a) (qa : ∀ r, C.post a r → Q r) (xa : ∀ e, ¬ C.exc a e) : WE c (tCall (spC c.K C) [] E tA) Γ Q :=
  we_call (wa_v h ⟨a, ea, pa, qa, fun e he => absurd he (xa e)⟩)
end
/-! ## statements -/
section
variable {c : Cd} {te ta tb : TE} {tA : TA} {tt : TT} {Γ : List Ent} {P : Ps} {t u tu tw : TS}
/-- what holds behind a weakening -/
def Up (N : List Ent → Prop) : List Ent → Prop := fun Γ => ∃ Γ', Wk Γ Γ' ∧ N Γ'
theorem up_of {N : List Ent → Prop} (h : N Γ) : Up N Γ := ⟨Γ, Wk.refl Γ, h⟩
theorem PsOk.seq {H0 F : Hp} {D : Ends} (h : PsOk c H0 F P D) (hu : ∀ Γ σ H, Ev c.K c.p H0 F Γ σ H → WS c u Γ P → c.XOk H0 → u D σ H) (x : c.XOk H0) : PsOk c H0 F { P with nx := fun Γ => WS c u Γ P } { D with nx := u D } :=
  ⟨fun Γ σ H w e => hu Γ σ H e w x, h.rt, h.bk, h.ct⟩
theorem ws_seq (h : WS c t Γ { P with nx := fun Γ => WS c u Γ P }) : WS c (tSeq t u) Γ P := fun H0 F σ H ev x D d =>
  h H0 F σ H ev x _ (d.seq (fun Γ σ H e w x => w H0 F σ H e x D d) x)
theorem ws_mid (M : List Ent → Prop) (h1 : WS c t Γ { P with nx := M }) (h2 : ∀ Γ', M Γ' → WS c u Γ' P) : WS c (tSeq t u) Γ P :=
  ws_seq fun H0 F σ H ev x D dd => h1 H0 F σ H ev x D ⟨fun Γ σ H n e => dd.nx Γ σ H (h2 Γ n) e, dd.rt, dd.bk, dd.ct⟩
theorem ws_up (h : ∃ Γ', Wk Γ Γ' ∧ WS c t Γ' P) : WS c t Γ P := fun H0 F σ H ev x D d => by
  obtain ⟨Γ', w, k⟩ := h
  exact k H0 F σ H (ev.weak w) x D d
theorem ws_next (h : P.nx Γ) : WS c tNext Γ P := fun H0 F σ H ev x D d => d.nx Γ σ H h ev
theorem ws_brk (h : P.bk Γ) : WS c tBreak Γ P := fun H0 F σ H ev x D d => d.bk Γ σ H h ev
theorem ws_cont (h : P.ct Γ) : WS c tCont Γ P := fun H0 F σ H ev x D d => d.ct Γ σ H h ev
theorem ws_asg {i : Nat} (h : WE c te Γ fun r => P.nx (Γ.set i r.toE)) (hi : i < Γ.length := by first | decide | exact Nat.le_of_ble_eq_true rfl) : WS c (tAsg te (gName i)) Γ P := fun H0 F σ H ev x D d =>
  h H0 F σ H ev x _ fun r v H1 n s1 r1 => d.nx _ _ _ n (ev.set s1 hi r1)
theorem ws_ret (h : WE c te Γ P.rt) : WS c (tRet te) Γ P := fun H0 F σ H ev x D d =>
  h H0 F σ H ev x _ fun r v H1 n s1 r1 => d.rt r v H1 n (ev.stp.trans s1) (r1.back ev.stp ev.pok0)
/-- an own list (dict) is handed back -/
theorem ws_retV {i : Nat} {e : Ent} (h : P.rt e) (hg : Γ[i]? = some e) (ho : (e.obj c.K).isSome = true := by rfl) (np : e ≠ .pn := by intro z; cases z)  : WS c (tRet (tVar i)) Γ P := fun H0 F σ H ev x D d => by
  obtain ⟨s, hs, k1, k⟩ := ev.ent i e hg
  obtain ⟨φ, hφ⟩ := Option.isSome_iff_exists.mp ho
  obtain ⟨a, o, e1, ad, n, f, g, m⟩ := k1 φ hφ
  subst e1
  refine ⟨_, hs, d.rt e _ H h ev.stp ⟨fun ψ z => ?_, ?_⟩⟩
  · rw [hφ] at z; cases z; exact ⟨a, o, rfl, ad, n, g, m⟩
  · cases e with
    | pn => exact absurd rfl np
    | ls _ => trivial
    | la a vs ds => trivial
    | dk _ => trivial
    | dt _ => trivial
    | no => cases ho
    | im _ => cases ho
    | ro _ => cases ho
    | pen => cases ho
    | raw _ => cases ho
    | ex _ _ _ => cases ho
theorem ws_retN (h : P.rt (.im .none)) : WS c tRetN Γ P := fun H0 F σ H ev x D d => d.rt _ _ H h ev.stp (res_im.2 .non)
theorem ws_drop (h : WE c te Γ fun _ => P.nx Γ) : WS c (tDrop te) Γ P := fun H0 F σ H ev x D d =>
  h H0 F σ H ev x _ fun r v H1 n s1 r1 => d.nx _ _ _ n (ev.step s1)
theorem ws_if {b : TT} (h : WT c b Γ fun k => (k = true → WS c tu Γ P) ∧ (k = false → WS c tw Γ P)) : WS c (tIfS b tu tw) Γ P := fun H0 F σ H ev x D d => by
  refine h H0 F σ H ev x _ fun k H1 ⟨h1, h2⟩ s1 => ?_
  cases k with
  | true => exact h1 rfl H0 F σ H1 (ev.step s1) x D d
  | false => exact h2 rfl H0 F σ H1 (ev.step s1) x D d
theorem s_if {b : TT} {k : Bool} (h : VT c b Γ k) (h1 : k = true → WS c tu Γ P) (h2 : k = false → WS c tw Γ P) : WS c (tIfS b tu tw) Γ P := ws_if (wt_v h ⟨h1, h2⟩)
/-- a, b = x, y -/
theorem Ev.set2 {K : PySem.W.Frag} {p : Option Addr} {H0 F H H1 : Hp} {σ : L2.St} (x : Ev K p H0 F Γ σ H) (t : Stp p H H1) {i j : Nat} {r s : Ent} {v w : V} (hi : i < Γ.length) (hj : j < Γ.length) (a : ResOk K p H H1 r v) (b : ResOk K p H H1 s w)
    (ne : (r.obj K).isSome = true → (s.obj K).isSome = true → w = v → False) : Ev K p H0 F ((Γ.set i r.toE).set j s.toE) ((σ.set i (some v)).set j (some w)) H1 := by
  have hs : i < σ.length := by
    obtain ⟨s, e, _⟩ := x.ent i _ (List.getElem?_eq_getElem hi)
    exact (List.getElem?_eq_some_iff.mp e).1
  refine (x.set t hi a).setG (by rw [List.length_set]; exact hj) (b.toE x) fun ho k d nk gk hd sk => ?_
  obtain ⟨φ, hφ⟩ := Option.isSome_iff_exists.mp ho
  by_cases hk : i = k
  · subst hk
    rw [List.getElem?_set_self hi] at gk
    rw [List.getElem?_set_self hs] at sk
    have gk := Option.some.inj gk
    subst gk
    obtain ⟨ψ, hψ⟩ := Option.isSome_iff_exists.mp hd
    exact ne (by rw [(toE_obj hψ).1]; rfl) (by rw [(toE_obj hφ).1]; rfl) (Option.some.inj (Option.some.inj sk)).symm
  · rw [List.getElem?_set_ne hk] at gk sk
    obtain ⟨y, o, e1, _, n, _⟩ := b.1 φ (toE_obj hφ).1
    obtain ⟨ψ, hψ⟩ := Option.isSome_iff_exists.mp hd
    obtain ⟨s', e2, k1, _⟩ := x.ent k d gk
    obtain ⟨y', o', e3, _, _, _, g', _⟩ := k1 ψ hψ
    rw [sk] at e2
    have e2 := Option.some.inj e2
    subst e1
    rw [e3] at e2; cases e2
    rw [n] at g'; cases g'
theorem ws_par {i j : Nat} (h : WA c tA Γ fun rs => ∃ r s, rs = [r, s] ∧ P.nx ((Γ.set i r.toE).set j s.toE)) (hi : i < Γ.length := by first | decide | exact Nat.le_of_ble_eq_true rfl) (hj : j < Γ.length := by first | decide | exact Nat.le_of_ble_eq_true rfl) : WS c (tPar i j tA) Γ P := fun H0 F σ H ev x D d => by
  refine h H0 F σ H ev x _ fun rs vs H1 ⟨r, s, e, n⟩ s1 r1 => ?_
  subst e
  obtain ⟨v, ws, rfl, a, b, k⟩ := r1
  obtain ⟨w, rfl, b'⟩ := all1 b
  exact ⟨v, w, rfl, d.nx _ _ _ n (ev.set2 s1 hi hj a b' fun h1 h2 e => k h1 0 s rfl h2 (by rw [e]; rfl))⟩
theorem s_par {i j : Nat} {r s : Ent} (h : VA c tA Γ [r, s]) (n : P.nx ((Γ.set i r.toE).set j s.toE)) (hi : i < Γ.length := by first | decide | exact Nat.le_of_ble_eq_true rfl) (hj : j < Γ.length := by first | decide | exact Nat.le_of_ble_eq_true rfl) : WS c (tPar i j tA) Γ P := ws_par (wa_v h ⟨r, s, rfl, n⟩) hi hj
/-- a, b, .. = a tuple -/
def WG (c : Cd) (ds : List PyData) (t : TGs) (Γ : List Ent) (N : List Ent → Prop) : Prop :=
  ∀ H0 F σ H vs, Ev c.K c.p H0 F Γ σ H → Ims c.K H vs ds → ∀ Q : L2.St → Hp → Prop, (∀ Γ' σ', N Γ' → Ev c.K c.p H0 F Γ' σ' H → Q σ' H) → t vs σ H Q
theorem wg_nil {N : List Ent → Prop} (n : N Γ) : WG c [] gNil Γ N := fun H0 F σ H vs ev m Q q => by
  cases m
  exact ⟨rfl, q Γ σ n ev⟩
theorem wg_name {i : Nat} {d : PyData} {ds : List PyData} {t : TGs} {N : List Ent → Prop} (h : WG c ds t (Γ.set i (.im d)) N) (hi : i < Γ.length := by first | decide | exact Nat.le_of_ble_eq_true rfl) : WG c (d :: ds) (gCons (gName i) t) Γ N := fun H0 F σ H vs ev m Q q => by
  cases m with
  | cons a b => exact ⟨_, _, rfl, h H0 F _ H _ (ev.set (Stp.refl _ _) (r := .im d) hi (res_im.2 a)) b Q q⟩
/-- a target in a target -/
theorem wg_tup {n : Nat} {d : List PyData} {ds : List PyData} {t u : TGs} {N : List Ent → Prop} (hn : d.length = n) (h : WG c d u Γ fun Γ' => WG c ds t Γ' N) : WG c (.tuple d :: ds) (gCons (gTup c.K n u) t) Γ N := fun H0 F σ H vs ev m Q q => by
  cases m with
  | cons a b =>
    cases a with
    | tup hs ms => exact ⟨_, _, rfl, _, _, rfl, hs, by rw [ms.length]; exact hn, h H0 F σ H _ ev ms _ fun Γ' σ' k e => k H0 F σ' H _ e b Q q⟩
theorem ws_asgT {n : Nat} {t : TGs} (h : WE c te Γ fun r => ∃ ds, r = .im (.tuple ds) ∧ ds.length = n ∧ WG c ds t Γ P.nx) : WS c (tAsg te (gTup c.K n t)) Γ P := fun H0 F σ H ev x D d => by
  refine h H0 F σ H ev x _ fun r v H1 ⟨ds, e, hl, w⟩ s1 r1 => ?_
  subst e
  cases r1.2 with
  | tup hs ms => exact ⟨_, _, rfl, hs, by rw [ms.length]; exact hl, w H0 F σ H1 _ (ev.step s1) ms _ fun Γ' σ' n e => d.nx Γ' σ' H1 n e⟩
theorem ws_asgG {n : Nat} {t : TGs} (h : WE c te Γ fun r => ∃ ds, (r = .ro ds ∨ r = .ls ds) ∧ ds.length = n ∧ WG c ds t Γ P.nx) : WS c (tAsg te (gLst c.K n t)) Γ P := fun H0 F σ H ev x D d => by
  refine h H0 F σ H ev x _ fun r v H1 ⟨ds, e, hl, w⟩ s1 r1 => ?_
  obtain ⟨a, vs, rfl, hs, ms⟩ := rdL e r1
  exact ⟨_, _, rfl, hs, by rw [ms.length]; exact hl, w H0 F σ H1 _ (ev.step s1) ms _ fun Γ' σ' n e => d.nx Γ' σ' H1 n e⟩
/-- name op= e -/
theorem ws_aug {i : Nat} {ti : TIp} {d : PyData} (hg : Γ[i]? = some (.im d)) (h : WE c te Γ fun r => ∃ z, Op2 c ti (.im d) r (.im z) ∧ P.nx (Γ.set i (.im z))) : WS c (tAug i te ti) Γ P := fun H0 F σ H ev x D dd => by
  obtain ⟨s, hs, _, v, rfl, m⟩ := ev.ent i _ hg
  have hi : i < Γ.length := (List.getElem?_eq_some_iff.mp hg).1
  refine ⟨v, hs, h H0 F σ H ev x _ fun r w H1 ⟨z, o, n⟩ s1 r1 => ?_⟩
  refine o.run v w H H1 ev.pok s1 (res_im.2 (m.tupS (s1.tup ev.pok))) r1 _ fun u H2 s2 r2 => ?_
  exact dd.nx _ _ _ n (ev.set (s1.trans s2) (r := .im z) hi (res_im.2 r2.2))
/-! ### own lists change -/
/-- the object of an own entry is changed -/
theorem Ev.mutate {K : PySem.W.Frag} {p : Option Addr} {H0 F H : Hp} {σ : L2.St} (x : Ev K p H0 F Γ σ H) {i : Nat} {e e' : Ent} {a : Addr} {o o' : HO} {φ φ' : Hp → HO → Prop} (hg : Γ[i]? = some e) (hs : σ[i]? = some (some (V.ref a))) (hφ : e.obj K = some φ) (ha : e.adr a) (g : H a = some o) (nt : (∀ xs, o ≠ .tup xs) ∧ ∀ ob u, o ≠ .frz ob u)
    (hφ' : e'.obj K = some φ') (ha' : e'.adr a) (hn : e' ≠ .pn) (new : φ' (upd H a o') o') : Ev K p H0 F (Γ.set i e') σ (upd H a o') := by
  have hi : i < Γ.length := (List.getElem?_eq_some_iff.mp hg).1
  obtain ⟨s, e1, k1, _⟩ := x.ent i e hg
  obtain ⟨b, ob, e2, _, n, f, g', _⟩ := k1 φ hφ
  rw [hs] at e1
  have e1 := Option.some.inj e1
  rw [← e1] at e2
  cases e2
  have pa : p ≠ some a := x.pok0.ne0 n
  have tp : Tup H (upd H a o') := by
    constructor
    · intro b xs h
      rw [upd_ne]; exact h
      intro z; rw [z, g] at h; exact nt.1 xs (Option.some.inj h)
    · intro b ob u h
      rw [upd_ne]; exact h
      intro z; rw [z, g] at h; exact nt.2 ob u (Option.some.inj h)
  have st0 : Stp p H0 (upd H a o') := by
    refine ⟨fun b u np h => ?_, fun q l hq hk => ?_⟩
    · rw [upd_ne (ne_of_none h n)]
      exact x.stp.keep b u np h
    · obtain ⟨ns, y1, y2, y3, y4, z1, z2, r⟩ := x.stp.pen q l hq hk
      obtain ⟨ns0, w1, w2, w3, w4, v1, v2, _⟩ := hk
      exact ⟨ns, y1, y2, y3, y4, by rw [upd_ne (fun z => pa (by rw [← z]; exact hq))]; exact z1, by rw [upd_ne (ne_of_none v2 n)]; exact z2, r⟩
  refine ⟨fun j d gj => ?_, fun j k b d e'' njk gj gk hd he sj sk => ?_, st0, x.pok0, fun b u h => ?_, x.frp⟩
  · by_cases hj : i = j
    · subst hj
      rw [List.getElem?_set_self hi] at gj
      have gj := Option.some.inj gj
      subst gj
      refine ⟨_, hs, fun ψ z => ?_, ?_⟩
      · rw [hφ'] at z; cases z; exact ⟨a, o', rfl, ha', n, f, upd_same, new⟩
      · cases e' with
        | pn => exact absurd rfl hn
        | ls _ => trivial
        | la _ _ _ => trivial
        | dk _ => trivial
        | dt _ => trivial
        | no => cases hφ'
        | im _ => cases hφ'
        | ro _ => cases hφ'
        | pen => cases hφ'
        | raw _ => cases hφ'
        | ex _ _ _ => cases hφ'
    · rw [List.getElem?_set_ne hj] at gj
      obtain ⟨s2, e2, k2, k3⟩ := x.ent j d gj
      refine ⟨s2, e2, fun ψ z => ?_, ?_⟩
      · obtain ⟨b, ob2, f1, f2, f3, f4, f5, f6⟩ := k2 ψ z
        have nb : b ≠ a := fun q => x.sep i j a e d hj hg gj (by rw [hφ]; rfl) (by rw [z]; rfl) hs (by rw [e2, f1, q])
        exact ⟨b, ob2, f1, f2, f3, f4, by rw [upd_ne nb]; exact f5, obj_tup z tp f6⟩
      · cases d with
        | im d' => obtain ⟨v, h1, h2⟩ := k3; exact ⟨v, h1, h2.tupS tp⟩
        | ro ds =>
          obtain ⟨b, vs, h1, h2, h3, h4⟩ := k3
          refine ⟨b, vs, h1, h2, ?_, h4.tupS tp⟩
          exact sqL_step st0 x.pok0 h2
        | pen => exact k3
        | pn => exact k3
        | raw _ => exact k3
        | ex _ _ _ => exact k3
        | no => trivial
        | ls _ => trivial
        | la _ _ _ => trivial
        | dk _ => trivial
        | dt _ => trivial
  · have own : ∀ (j : Nat) (d : Ent), (Γ.set i e')[j]? = some d → (d.obj K).isSome = true → ∃ d', Γ[j]? = some d' ∧ (d'.obj K).isSome = true := fun j d gj hd => by
      by_cases hj : i = j
      · subst hj; exact ⟨e, hg, by rw [hφ]; rfl⟩
      · rw [List.getElem?_set_ne hj] at gj; exact ⟨d, gj, hd⟩
    obtain ⟨d1, g1, h1⟩ := own j d gj hd
    obtain ⟨d2, g2, h2⟩ := own k e'' gk he
    exact x.sep j k b d1 d2 njk g1 g2 h1 h2 sj sk
  · rw [upd_ne]
    · exact x.frm b u h
    · intro z
      rw [z, f] at h; cases h
/-- found.append(e) -/
theorem ws_app {i : Nat} {ds : List PyData} (hg : Γ[i]? = some (.ls ds)) (hz : ds.length < 1000000) (h : WE c te Γ fun r => ∃ d, r = .im d ∧ P.nx (Γ.set i (.ls (ds ++ [d])))) : WS c (tDrop (tBM c.K "list" rAppend (tVar i) (tCons te tNil))) Γ P := fun H0 F σ H ev x D dd => by
  obtain ⟨s, hs, k1, _⟩ := ev.ent i _ hg
  obtain ⟨a, o, e, _, n, f, g, vs, rfl, m⟩ := k1 _ rfl
  subst e
  refine ⟨_, hs, .inl ⟨rfl, _, .inl (.inl g)⟩, ?_⟩
  refine h H0 F σ H ev x _ fun r v H1 ⟨d, er, nx⟩ s1 r1 => ?_
  subst er
  have ev1 := ev.step s1
  have g1 : H1 a = some (.lst vs) := s1.keep a _ (ev.pok0.ne0 n) g
  have m1 := m.tupS (s1.tup ev.pok)
  have tp : Tup H1 (upd H1 a (.lst (vs ++ [v]))) := by
    constructor
    · intro b xs h; rw [upd_ne]; exact h
      intro z; rw [z, g1] at h; cases h
    · intro b ob u h; rw [upd_ne]; exact h
      intro z; rw [z, g1] at h; cases h
  refine ⟨a, vs, v, rfl, rfl, g1, by rw [m.length, sizeLine_eq]; omega, dd.nx _ _ _ nx ?_⟩
  exact ev1.mutate (e := .ls ds) (e' := .ls (ds ++ [d])) hg hs rfl trivial g1 ⟨(fun _ z => by cases z), (fun _ _ z => by cases z)⟩ rfl trivial (by intro z; cases z) ⟨_, rfl, (m1.tupS tp).append (.cons (Im.tupS tp r1.2) .nil)⟩
theorem s_app {i : Nat} {ds : List PyData} {d : PyData} (h : VE c te Γ (.im d)) (n : P.nx (Γ.set i (.ls (ds ++ [d])))) (hz : ds.length < 1000000) (hg : Γ[i]? = some (.ls ds) := by rfl) : WS c (tDrop (tBM c.K "list" rAppend (tVar i) (tCons te tNil))) Γ P := ws_app hg hz (we_v h ⟨d, rfl, n⟩)
/-- left.pop(k) as an expression of its own statement's right side is told apart; xs[j] = e -/
theorem ws_setL {i : Nat} {ds : List PyData} (hg : Γ[i]? = some (.ls ds)) (h : WE c te Γ fun r => ∃ d, r = .im d ∧ ∃ (k : Int) (j : Nat), VE c tb Γ (I k) ∧ ixN ds.length k = some j ∧ P.nx (Γ.set i (.ls (ds.set j d)))) : WS c (tAsg te (gSub (tVar i) tb rSetL)) Γ P := fun H0 F σ H ev x D dd => by
  obtain ⟨s, hs, k1, _⟩ := ev.ent i _ hg
  obtain ⟨a, o, e, _, n, f, g, vs, rfl, m⟩ := k1 _ rfl
  subst e
  refine h H0 F σ H ev x _ fun r v H1 ⟨d, er, k, j, hb, hj, nx⟩ s1 r1 => ?_
  subst er
  refine ⟨_, hs, hb H0 F σ H1 (ev.step s1) x _ fun r2 v2 H2 e2 s2 q2 => ?_⟩
  subst e2
  have e2 := Im.intv q2.2
  subst e2
  have ev2 := (ev.step s1).step s2
  have g2 : H2 a = some (.lst vs) := s2.keep a _ (ev.pok0.ne0 n) (s1.keep a _ (ev.pok0.ne0 n) g)
  have m2 := (m.tupS (s1.tup ev.pok)).tupS (s2.tup (ev.step s1).pok)
  have tp : Tup H2 (upd H2 a (.lst (vs.set j v))) := by
    constructor
    · intro b xs h; rw [upd_ne]; exact h
      intro z; rw [z, g2] at h; cases h
    · intro b ob u h; rw [upd_ne]; exact h
      intro z; rw [z, g2] at h; cases h
  refine ⟨a, vs, k, j, rfl, rfl, g2, by rw [m.length]; exact hj, dd.nx _ _ _ nx ?_⟩
  exact ev2.mutate (e := .ls ds) (e' := .ls (ds.set j d)) hg hs rfl trivial g2 ⟨(fun _ z => by cases z), (fun _ _ z => by cases z)⟩ rfl trivial (by intro z; cases z) ⟨_, rfl, (m2.tupS tp).set (Im.tupS tp ((r1.step s2 ev.pok (ev.step s1).pok).2)) j⟩
/-! ### loops -/
/-- the i-th turn of J gives the i-th of ds -/
def Gives (c : Cd) (H0 F : Hp) (J : It) (ds : List PyData) : Prop := ∃ (G : Hp → Prop) (Y : Nat → Hp → V → Hp → Prop), Walk J ds.length G Y ∧ (∀ H', (∀ a o, F a = some o → H' a = some o) → Stp c.p H0 H' → G H') ∧
  ∀ i x H' H'', i < ds.length → (∀ a o, F a = some o → H' a = some o) → Stp c.p H0 H' → Y i H' x H'' → Stp c.p H' H'' ∧ ∃ d, ds[i]? = some d ∧ Im c.K H'' x d
def WI (c : Cd) (wi : TI) (Γ : List Ent) (Q : List PyData → Prop) : Prop :=
  ∀ H0 F σ H, Ev c.K c.p H0 F Γ σ H → c.XOk H0 → ∀ R : It → Hp → Prop, (∀ J H1 ds l, Q ds → Stp c.p H H1 → (∀ b, l = some b → H b = none ∧ ∃ vs, H1 b = some (.lst vs)) → Gives c H0 (Fr2 F H1 l) J ds → R J H1) → wi σ H R
abbrev VI (c : Cd) (wi : TI) (Γ : List Ent) (ds : List PyData) : Prop := WI c wi Γ (fun z => z = ds)
theorem fr2_tup {F H : Hp} {l : Option Addr} {a : Addr} {xs : List V} (h : H a = some (.tup xs)) : Fr2 F H l a = some (.tup xs) := by
  unfold Fr2; rw [h]
theorem fr2_frz {F H : Hp} {l : Option Addr} {a : Addr} {o : Obj} {u : HO} (h : H a = some (.frz o u)) : Fr2 F H l a = some (.frz o u) := by
  unfold Fr2; rw [h]
theorem fr2_lst {F H : Hp} {a : Addr} {xs : List V} (h : H a = some (.lst xs)) : Fr2 F H (some a) a = some (.lst xs) := by
  unfold Fr2; rw [h]; simp
theorem tup_of {F H H' : Hp} {l : Option Addr} (k : ∀ a o, Fr2 F H l a = some o → H' a = some o) : Tup H H' := ⟨fun a xs h => k _ _ (fr2_tup h), fun a o u h => k _ _ (fr2_frz h)⟩
/-- a list's walk -/
theorem gives_list {H0 F H1 : Hp} {l : Option Addr} {a : Addr} {vs : List V} {ds : List PyData} (hs : ∀ H', (∀ a o, Fr2 F H1 l a = some o → H' a = some o) → Stp c.p H0 H' → SqL c.K H' a vs) (m : Ims c.K H1 vs ds) : Gives c H0 (Fr2 F H1 l) (Itl c.K a) ds := by
  refine ⟨fun H => SqL c.K H a vs, YAt vs, ?_, hs, fun i x H' H'' hi k s y => ?_⟩
  · rw [← m.length]; exact walk_list
  · obtain ⟨e, y⟩ := y
    subst e
    obtain ⟨d, hd, md⟩ := m.getV y
    exact ⟨Stp.refl _ _, d, hd, md.tupS (tup_of k)⟩
theorem i_list {tl : TE} {ds : List PyData} (h : WE c tl Γ fun r => r = .ls ds) : VI c (iList c.K tl) Γ ds := fun H0 F σ H ev x R q => by
  refine h H0 F σ H ev x _ fun r v H1 e s1 r1 => ?_
  subst e
  obtain ⟨a, vs, rfl, n, g, m⟩ := res_ls.1 r1
  refine ⟨a, rfl, ⟨_, .inl (.inl g)⟩, q _ H1 ds (some a) rfl s1 (fun b hb => ?_) (gives_list (fun H' k s => .inl (.inl (k _ _ (fr2_lst g)))) m)⟩
  cases hb
  exact ⟨n, _, g⟩
theorem i_listW {tl : TE} {Qd : List PyData → Prop} (h : WE c tl Γ fun r => ∃ ds, r = .ls ds ∧ Qd ds) : WI c (iList c.K tl) Γ Qd := fun H0 F σ H ev x R q => by
  refine h H0 F σ H ev x _ fun r v H1 ⟨ds, e, qd⟩ s1 r1 => ?_
  subst e
  obtain ⟨a, vs, rfl, n, g, m⟩ := res_ls.1 r1
  refine ⟨a, rfl, ⟨_, .inl (.inl g)⟩, q _ H1 ds (some a) qd s1 (fun b hb => ?_) (gives_list (fun H' k s => .inl (.inl (k _ _ (fr2_lst g)))) m)⟩
  cases hb
  exact ⟨n, _, g⟩
theorem i_ro {i : Nat} {ds : List PyData} (hg : Γ[i]? = some (.ro ds) := by rfl) : VI c (iList c.K (tVar i)) Γ ds := fun H0 F σ H ev x R q => by
  obtain ⟨s, hs, _, a, vs, rfl, h0, h1, m⟩ := ev.ent i _ hg
  exact ⟨_, hs, a, rfl, ⟨_, h1⟩, q _ H ds none rfl (Stp.refl _ _) (fun b hb => by cases hb) (gives_list (fun H' k s => sqL_step s ev.pok0 h0) m)⟩
theorem i_tup {tl : TE} {ds : List PyData} (h : VE c tl Γ (.im (.tuple ds))) : VI c (iTup c.K tl) Γ ds := fun H0 F σ H ev x R q => by
  refine h H0 F σ H ev x _ fun r v H1 e s1 r1 => ?_
  subst e
  cases r1.2 with
  | @tup a xs _ hs m =>
    refine ⟨_, rfl, ⟨_, hs⟩, q _ H1 ds none rfl s1 (fun b hb => by cases hb) ⟨fun H => SqT c.K H a xs, YAt xs, ?_, fun H' k s => sqT_tup (tup_of k) hs, fun i x H' H'' hi k s y => ?_⟩⟩
    · rw [← m.length]; exact walk_tup
    · obtain ⟨e, y⟩ := y
      subst e
      obtain ⟨d, hd, md⟩ := m.getV y
      exact ⟨Stp.refl _ _, d, hd, md.tupS (tup_of k)⟩
/-- lo, lo + 1, .. -/
def rangeD (lo : Int) (n : Nat) : List PyData := (List.range n).map fun (i : Nat) => PyData.int (lo + (i : Int))
theorem gives_range {H0 F : Hp} {lo : Int} {n : Nat} : Gives c H0 F (Itr lo n) (rangeD lo n) := by
  have hl : (rangeD lo n).length = n := by unfold rangeD; simp
  refine ⟨fun _ => True, YFn fun i => .int (lo + i), by rw [hl]; exact walk_range, fun _ _ _ => trivial, fun i x H' H'' hi k s y => ?_⟩
  obtain ⟨e, y⟩ := y
  subst e y
  refine ⟨Stp.refl _ _, .int (lo + i), ?_, .int _⟩
  unfold rangeD
  rw [hl] at hi
  rw [List.getElem?_map, List.getElem?_range hi]; rfl
theorem i_r1 {ta : TA} {n : Int} (h : VA c ta Γ [I n]) (h1 : -(2 ^ 62) ≤ n) (h2 : n < 2 ^ 62) : VI c (iRng1 ta) Γ (rangeD 0 n.toNat) := fun H0 F σ H ev x R q => by
  refine h H0 F σ H ev x _ fun rs vs H1 e s1 r1 => ?_
  subst e
  obtain ⟨v, rfl, a⟩ := all1 r1
  have a := Im.intv a.2
  subst a
  exact ⟨n, rfl, h1, h2, q _ H1 _ none rfl s1 (fun b hb => by cases hb) gives_range⟩
theorem i_r2 {ta : TA} {m n : Int} (h : VA c ta Γ [I m, I n]) (hb : -(2 ^ 62) ≤ m ∧ m < 2 ^ 62 ∧ -(2 ^ 62) ≤ n ∧ n < 2 ^ 62) : VI c (iRng2 ta) Γ (rangeD m (n - m).toNat) := fun H0 F σ H ev x R q => by
  refine h H0 F σ H ev x _ fun rs vs H1 e s1 r1 => ?_
  subst e
  obtain ⟨v, w, rfl, a, b⟩ := all2 r1
  have a := Im.intv a.2
  have b := Im.intv b.2
  subst a b
  exact ⟨m, n, rfl, hb, q _ H1 _ none rfl s1 (fun b hb => by cases hb) gives_range⟩
/-- the target of a loop -/
def WT1 (c : Cd) (g : TG) (d : PyData) (Γ : List Ent) (N : List Ent → Prop) : Prop :=
  ∀ H0 F σ H v, Ev c.K c.p H0 F Γ σ H → Im c.K H v d → ∀ Q : L2.St → Hp → Prop, (∀ Γ' σ', N Γ' → Ev c.K c.p H0 F Γ' σ' H → Q σ' H) → g v σ H Q
theorem g_name {i : Nat} {d : PyData} {N : List Ent → Prop} (h : N (Γ.set i (.im d))) (hi : i < Γ.length := by first | decide | exact Nat.le_of_ble_eq_true rfl) : WT1 c (gName i) d Γ N := fun H0 F σ H v ev m Q q =>
  q _ _ h (ev.set (Stp.refl _ _) (r := .im d) hi (res_im.2 m))
theorem g_tup {n : Nat} {ds : List PyData} {t : TGs} {N : List Ent → Prop} (hn : ds.length = n) (h : WG c ds t Γ N) : WT1 c (gTup c.K n t) (.tuple ds) Γ N := fun H0 F σ H v ev m Q q => by
  cases m with
  | tup hs ms => exact ⟨_, _, rfl, hs, by rw [ms.length]; exact hn, h H0 F σ H _ ev ms Q q⟩
/-- for over anything that gives data, which is not told -/
theorem ws_forW {wi : TI} {g : TG} {Qd : List PyData → Prop} (hw : WI c wi Γ Qd) (k : ∀ ds, Qd ds → ∃ Inv : Nat → List Ent → Prop, Up (Inv 0) Γ ∧
    (∀ i d Γ', ds[i]? = some d → Inv i Γ' → WT1 c g d Γ' fun Γ2 => WS c t Γ2 { nx := Up (Inv (i + 1)), rt := P.rt, bk := P.nx, ct := Up (Inv (i + 1)) }) ∧ (∀ Γ', Inv ds.length Γ' → P.nx Γ')) : WS c (tFor wi g t) Γ P := fun H0 F σ H ev x D dd => by
  refine hw H0 F σ H ev x _ fun J H1 ds' l e s1 hl ⟨G, Y, w, hG, hY⟩ => ?_
  obtain ⟨Inv, h0, hs, hd⟩ := k ds' e
  have ev1 := ev.step s1
  obtain ⟨evF, ext⟩ := ev1.reframe (l := l) (fun b hb => (hl b hb).2) (fun b hb i e ge ho hσ => by
    obtain ⟨φ, hφ⟩ := Option.isSome_iff_exists.mp ho
    obtain ⟨s, e1, k1, _⟩ := ev.ent i e ge
    obtain ⟨a, o, e2, _, _, _, g', _⟩ := k1 φ hφ
    rw [hσ] at e1
    have e1 := Option.some.inj e1
    rw [e2] at e1; cases e1
    rw [(hl _ hb).1] at g'; cases g')
  refine for_it w (fun i σ H => ∃ Γ', Inv i Γ' ∧ Ev c.K c.p H0 (Fr2 F H1 l) Γ' σ H) ?_ (fun i σ' H' _ ⟨Γ', _, e⟩ => hG H' e.frm e.stp) (fun i v σ' H' H'' hi ⟨Γ', iv, e⟩ y => ?_) (fun σ' H' ⟨Γ', iv, e⟩ => dd.nx Γ' σ' H' (hd Γ' iv) (e.unframe ext))
  · obtain ⟨Γ', wk, iv⟩ := h0
    exact ⟨Γ', iv, evF.weak wk⟩
  · obtain ⟨s2, d, hdd, md⟩ := hY i v H' H'' hi e.frm e.stp y
    refine hs i d Γ' hdd iv H0 _ σ' H'' v (e.step s2) md _ fun Γ2 σ2 w2 e2 => ?_
    refine w2 H0 _ σ2 H'' e2 x _ ⟨fun Γ3 σ3 H3 ⟨Γ4, wk, iv⟩ e3 => ⟨Γ4, iv, e3.weak wk⟩, dd.rt, fun Γ3 σ3 H3 n e3 => dd.nx Γ3 σ3 H3 n (e3.unframe ext), fun Γ3 σ3 H3 ⟨Γ4, wk, iv⟩ e3 => ⟨Γ4, iv, e3.weak wk⟩⟩
/-- for over anything that gives data; Inv by the turn -/
theorem ws_for {wi : TI} {g : TG} {ds : List PyData} (hw : VI c wi Γ ds) (Inv : Nat → List Ent → Prop) (h0 : Up (Inv 0) Γ)
    (hs : ∀ i d Γ', ds[i]? = some d → Inv i Γ' → WT1 c g d Γ' fun Γ2 => WS c t Γ2 { nx := Up (Inv (i + 1)), rt := P.rt, bk := P.nx, ct := Up (Inv (i + 1)) }) (hd : ∀ Γ', Inv ds.length Γ' → P.nx Γ') : WS c (tFor wi g t) Γ P :=
  ws_forW hw fun z e => by subst e; exact ⟨Inv, h0, hs, hd⟩
/-- an own list's place is fixed -/
theorem ws_la {i : Nat} {ds : List PyData} (hg : Γ[i]? = some (.ls ds)) (h : ∀ a vs, WS c t (Γ.set i (.la a vs ds)) P) : WS c t Γ P := fun H0 F σ H ev x D dd => by
  obtain ⟨s, hs, k1, _⟩ := ev.ent i _ hg
  obtain ⟨a, o, e, _, n, f, g, vs, rfl, m⟩ := k1 _ rfl
  subst e
  have hi : i < Γ.length := (List.getElem?_eq_some_iff.mp hg).1
  have e1 := ev.setG (i := i) (e := .la a vs ds) (v := .ref a) hi ⟨(fun φ z => by cases z; exact ⟨a, _, rfl, rfl, n, f, g, rfl, m⟩), trivial⟩ fun _ j d nj gj hd sj => ev.sep j i a d _ nj gj hg hd rfl sj hs
  have es : σ.set i (some (V.ref a)) = σ := by
    apply List.ext_getElem?
    intro j
    by_cases hj : i = j
    · subst hj
      rw [List.getElem?_set_self (List.getElem?_eq_some_iff.mp hs).1, hs]
    · rw [List.getElem?_set_ne hj]
  rw [es] at e1
  exact h a vs H0 F σ H e1 x D dd
/-- for over a list that a name of ours holds -/
theorem ws_forV {g : TG} {j : Nat} {a : Addr} {vs : List V} {ds : List PyData} (hg : Γ[j]? = some (.la a vs ds)) (Inv : Nat → List Ent → Prop) (h0 : Up (Inv 0) Γ) (hk : ∀ i Γ', Inv i Γ' → Γ'[j]? = some (.la a vs ds))
    (hs : ∀ i d Γ', ds[i]? = some d → Inv i Γ' → WT1 c g d Γ' fun Γ2 => WS c t Γ2 { nx := Up (Inv (i + 1)), rt := P.rt, bk := P.nx, ct := Up (Inv (i + 1)) }) (hd : ∀ Γ', Inv ds.length Γ' → P.nx Γ') : WS c (tFor (iList c.K (tVar j)) g t) Γ P := fun H0 F σ H ev x D dd => by
  have rd : ∀ {Γ' : List Ent} {σ' : L2.St} {H' : Hp}, Γ'[j]? = some (.la a vs ds) → Ev c.K c.p H0 F Γ' σ' H' → σ'[j]? = some (some (V.ref a)) ∧ H' a = some (.lst vs) ∧ Ims c.K H' vs ds := fun hg' e => by
    obtain ⟨s, hs, k1, _⟩ := e.ent j _ hg'
    obtain ⟨b, o, e1, e2, n, f, g, e3, m⟩ := k1 _ rfl
    have e2 : b = a := e2
    subst e2 e3
    exact ⟨by rw [hs, e1], g, m⟩
  obtain ⟨hσ, g0, m0⟩ := rd hg ev
  refine ⟨_, hσ, a, rfl, ⟨_, .inl (.inl g0)⟩, for_list (K := c.K) (a := a) (xs := vs) (fun i σ H => ∃ Γ', Inv i Γ' ∧ Ev c.K c.p H0 F Γ' σ H) ?_ (fun i σ' H' _ ⟨Γ', iv, e⟩ => .inl (.inl (rd (hk i Γ' iv) e).2.1)) (fun i v σ' H' hv ⟨Γ', iv, e⟩ => ?_) (fun σ' H' ⟨Γ', iv, e⟩ => dd.nx Γ' σ' H' (hd Γ' (by rw [← m0.length]; exact iv)) e)⟩
  · obtain ⟨Γ', wk, iv⟩ := h0
    exact ⟨Γ', iv, ev.weak wk⟩
  · obtain ⟨_, _, m'⟩ := rd (hk i Γ' iv) e
    obtain ⟨d, hdd, md⟩ := m'.getV hv
    refine hs i d Γ' hdd iv H0 _ σ' H' v e md _ fun Γ2 σ2 w2 e2 => ?_
    refine w2 H0 _ σ2 H' e2 x _ ⟨fun Γ3 σ3 H3 ⟨Γ4, wk, iv⟩ e3 => ⟨Γ4, iv, e3.weak wk⟩, dd.rt, fun Γ3 σ3 H3 n e3 => dd.nx Γ3 σ3 H3 n e3, fun Γ3 σ3 H3 ⟨Γ4, wk, iv⟩ e3 => ⟨Γ4, iv, e3.weak wk⟩⟩
/-- while -/
theorem ws_while {tc : TT} (Inv : Nat → List Ent → Prop) (m0 : Nat) (h0 : Up (Inv m0) Γ)
    (hs : ∀ m Γ', Inv m Γ' → WT c tc Γ' fun b => (b = true → WS c t Γ' { nx := fun Γ2 => ∃ m', m' < m ∧ Up (Inv m') Γ2, rt := P.rt, bk := P.nx, ct := fun Γ2 => ∃ m', m' < m ∧ Up (Inv m') Γ2 }) ∧ (b = false → P.nx Γ')) : WS c (tWhile tc t) Γ P := fun H0 F σ H ev x D dd => by
  refine ⟨fun m σ H => ∃ Γ', Inv m Γ' ∧ Ev c.K c.p H0 F Γ' σ H, ?_, fun m σ' H' ⟨Γ', iv, e⟩ => ?_⟩
  · obtain ⟨Γ', wk, iv⟩ := h0
    exact ⟨m0, Γ', iv, ev.weak wk⟩
  · refine hs m Γ' iv H0 F σ' H' e x _ fun b H1 ⟨ht, hf⟩ s1 => ?_
    have e1 := e.step s1
    cases b with
    | true =>
      refine ⟨fun σ2 H2 => ∃ m', m' < m ∧ ∃ Γ', Inv m' Γ' ∧ Ev c.K c.p H0 F Γ' σ2 H2, fun _ _ z => z, ht rfl H0 F σ' H1 e1 x _ ?_⟩
      exact ⟨fun Γ3 σ3 H3 ⟨m', l, Γ4, wk, iv⟩ e3 => ⟨m', l, Γ4, iv, e3.weak wk⟩, dd.rt, fun Γ3 σ3 H3 n e3 => dd.nx Γ3 σ3 H3 n e3, fun Γ3 σ3 H3 ⟨m', l, Γ4, wk, iv⟩ e3 => ⟨m', l, Γ4, iv, e3.weak wk⟩⟩
    | false => exact dd.nx Γ' σ' H1 (hf rfl) e1
/-! ### list comprehensions -/
theorem wipe_ev {K : PySem.W.Frag} {p : Option Addr} {H0 F H : Hp} {σ : L2.St} {k : Nat} (x : Ev K p H0 F Γ σ H) : Ev K p H0 F (Γ.set k .no) (wipe σ [k]) H := by
  show Ev K p H0 F (Γ.set k .no) (σ.set k none) H
  have ne : ∀ (j : Nat) (e : Ent), (Γ.set k .no)[j]? = some e → (e.obj K).isSome = true → k ≠ j ∧ Γ[j]? = some e := fun j e g ho => by
    by_cases hj : k = j
    · subst hj
      by_cases hk : k < Γ.length
      · rw [List.getElem?_set_self hk] at g; cases g; cases ho
      · rw [List.getElem?_eq_none (by rw [List.length_set]; omega)] at g; cases g
    · rw [List.getElem?_set_ne hj] at g; exact ⟨hj, g⟩
  refine ⟨fun j e g => ?_, fun i j a d e n gi gj hd he si sj => ?_, x.stp, x.pok0, x.frm, x.frp⟩
  · by_cases hj : k = j
    · subst hj
      have hk : k < Γ.length := by
        have := (List.getElem?_eq_some_iff.mp g).1
        rw [List.length_set] at this; exact this
      rw [List.getElem?_set_self hk] at g
      cases g
      obtain ⟨s, e, _⟩ := x.ent k _ (List.getElem?_eq_getElem hk)
      exact ⟨_, List.getElem?_set_self (List.getElem?_eq_some_iff.mp e).1, ⟨(fun φ z => by cases z), trivial⟩⟩
    · rw [List.getElem?_set_ne hj] at g
      obtain ⟨s, e, q⟩ := x.ent j e g
      exact ⟨s, by rw [List.getElem?_set_ne hj]; exact e, q⟩
  · obtain ⟨n1, g1⟩ := ne i d gi hd
    obtain ⟨n2, g2⟩ := ne j e gj he
    rw [List.getElem?_set_ne n1] at si
    rw [List.getElem?_set_ne n2] at sj
    exact x.sep i j a d e n g1 g2 hd he si sj
/-- [elt for name in iter if test]: f tells the element, k whether it is kept -/
theorem v_lc {wi : TI} {j : Nat} {tt : TT} {ds : List PyData} {c0 : Cd} (hw : VI c wi Γ ds) (k : PyData → Bool) (f : PyData → PyData) (hz : ds.length ≤ 1000000)
    (hj : j < Γ.length) (hc : c0 = { c with E := fun _ _ _ => False, X := fun _ => False } := by rfl)
    (ht : ∀ d ∈ ds, VT c0 tt (Γ.set j (.im d)) (k d)) (he : ∀ d ∈ ds, k d = true → VE c0 te (Γ.set j (.im d)) (.im (f d))) : VE c (tLc wi (gName j) tt te [j]) Γ (.ls ((ds.filter k).map f)) := fun H0 F σ H ev x Q' q => by
  subst hc
  refine hw H0 F σ H ev x _ fun J H1 ds' l e s1 hl ⟨G, Y, w, hG, hY⟩ D hD => ?_
  subst e
  have ev1 := ev.step s1
  obtain ⟨evF, ext⟩ := ev1.reframe (l := l) (fun b hb => (hl b hb).2) (fun b hb i e ge ho hσ => by
    obtain ⟨φ, hφ⟩ := Option.isSome_iff_exists.mp ho
    obtain ⟨s, e1, k1, _⟩ := ev.ent i e ge
    obtain ⟨a, o, e2, _, _, _, g', _⟩ := k1 φ hφ
    rw [hσ] at e1
    have e1 := Option.some.inj e1
    rw [e2] at e1; cases e1
    rw [(hl _ hb).1] at g'; cases g')
  have pk1 := ev1.pok
  refine lc_it w (fun i H' => ∃ vs, H' D = some (.lst vs) ∧ Ims c.K H' vs (((ds'.take i).filter k).map f) ∧ (∀ a o, Fr2 F H1 l a = some o → H' a = some o) ∧ Stp c.p H1 H') ⟨[], upd_same, ?_, fun a o e => ?_, Stp.new hD⟩ (fun i H' _ ⟨vs, _, _, fr, s2⟩ => hG H' fr (ev1.stp.trans s2)) (fun i v H' H'' hi ⟨vs, hv, mv, fr, s2⟩ y => ?_) (fun H' ⟨vs, hv, mv, fr, s2⟩ => ?_)
  · simp; exact .nil
  · have := evF.frm a o e
    rw [upd_ne (ne_of_none this hD)]; exact this
  · obtain ⟨s3, d, hd, md⟩ := hY i v H' H'' hi fr (ev1.stp.trans s2) y
    have ev2 := (wipe_ev (k := j) ((ev1.step s2).step s3)).setG (i := j) (e := .im d) (v := v) (by rw [List.length_set]; exact hj) ⟨(fun φ z => by cases z), v, rfl, md⟩ (fun h => by cases h)
    rw [List.set_set] at ev2
    have hmem : d ∈ ds' := List.mem_of_getElem? hd
    have pk2 := pk1.step (s2.trans s3)
    have hv2 : H'' D = some (.lst vs) := s3.keep D _ (fun z => ((pk1.step s2) D z).neL hv rfl) hv
    have x0 : ({ c with E := fun _ _ _ => False, X := fun _ => False } : Cd).XOk H0 := fun _ _ _ _ h => h.elim
    refine ⟨?_, ht d hmem H0 F _ H'' ev2 x0 _ fun b H3 eb s4 => ?_⟩
    · show ((σ.set j none).set j (some v)).set j none = σ.set j none
      rw [List.set_set, List.set_set]
    · have tk : (ds'.take (i + 1)) = ds'.take i ++ [d] := by
        rw [List.take_add_one, hd]; rfl
      cases hb : b with
      | true =>
        rw [hb] at eb
        show te _ H3 _
        refine he d hmem eb.symm H0 F _ H3 (ev2.step s4) x0 _ fun r yv H4 er s5 r5 => ?_
        subst er
        have pk3 := pk2.step s4
        have hv4 : H4 D = some (.lst vs) := s5.keep D _ (fun z => (pk3 D z).neL (s4.keep D _ (fun z => (pk2 D z).neL hv2 rfl) hv2) rfl) (s4.keep D _ (fun z => (pk2 D z).neL hv2 rfl) hv2)
        have s14 : Stp c.p H1 H4 := ((s2.trans s3).trans s4).trans s5
        have tp : Tup H4 (upd H4 D (.lst (vs ++ [yv]))) := by
          constructor
          · intro b xs h; rw [upd_ne]; exact h
            intro z; rw [z, hv4] at h; cases h
          · intro b ob u h; rw [upd_ne]; exact h
            intro z; rw [z, hv4] at h; cases h
        have m4 : Ims c.K H4 vs (((ds'.take i).filter k).map f) := ((mv.tupS (s3.tup (pk1.step s2))).tupS (s4.tup pk2)).tupS (s5.tup pk3)
        refine ⟨vs, hv4, ?_, vs ++ [yv], upd_same, ?_, fun a o e => ?_, ?_⟩
        · have := List.length_filter_le k (ds'.take i)
          rw [m4.length, List.length_map, sizeLine_eq]
          have := List.length_take_le' i ds'
          omega
        · rw [tk, List.filter_append, List.map_append]
          have : ([d] : List PyData).filter k = [d] := by simp [← eb]
          rw [this]
          exact (m4.tupS tp).append (.cons (Im.tupS tp r5.2) .nil)
        · have h1 := evF.frm a o e
          rw [upd_ne (ne_of_none h1 hD)]
          exact s14.keep a o (fun z => by rw [evF.frp a z] at e; cases e) h1
        · refine ⟨fun a o n h => ?_, fun q l hq hp => ?_⟩
          · rw [upd_ne (ne_of_none h hD)]; exact s14.keep a o n h
          · obtain ⟨ns, y1, y2, y3, y4, z1, z2, r⟩ := s14.pen q l hq hp
            obtain ⟨ns0, w1, w2, w3, w4, v1, v2, _⟩ := hp
            exact ⟨ns, y1, y2, y3, y4, by rw [upd_ne (ne_of_none v1 hD)]; exact z1, by rw [upd_ne (ne_of_none v2 hD)]; exact z2, r⟩
      | false =>
        rw [hb] at eb
        show ∃ vs, _
        have hv3 := s4.keep D _ (fun z => (pk2 D z).neL hv2 rfl) hv2
        have s13 : Stp c.p H1 H3 := (s2.trans s3).trans s4
        refine ⟨vs, hv3, ?_, fun a o e => s13.keep a o (fun z => by rw [evF.frp a z] at e; cases e) (evF.frm a o e), s13⟩
        rw [tk, List.filter_append, List.map_append]
        have : ([d] : List PyData).filter k = [] := by simp [← eb]
        rw [this]
        simpa using (mv.tupS (s3.tup (pk1.step s2))).tupS (s4.tup pk2)
  · rw [List.take_length] at mv
    exact q _ _ H' rfl (s1.trans s2) (res_ls.2 ⟨D, vs, rfl, s1.back ev.pok hD, hv, mv⟩)
/-- no test -/
theorem t_yes : VT c tYes Γ true := fun H0 F σ H ev x Q' q => q true H rfl (Stp.refl _ _)
theorem v_lcm {wi : TI} {j : Nat} {ds : List PyData} (hw : VI c wi Γ ds) (f : PyData → PyData) (hz : ds.length ≤ 1000000) (hj : j < Γ.length) (he : ∀ d ∈ ds, VE { c with E := fun _ _ _ => False, X := fun _ => False } te (Γ.set j (.im d)) (.im (f d))) : VE c (tLc wi (gName j) tYes te [j]) Γ (.ls (ds.map f)) := by
  have := v_lc (c := c) (te := te) hw (fun _ => true) f hz hj rfl (fun d _ => t_yes) (fun d hd _ => he d hd)
  rwa [List.filter_eq_self.mpr (fun _ _ => rfl)] at this
end
/-! ## a def keeps its contract -/
theorem start_get {N : List Str} {vs : List V} {i : Nat} {v : V} (h : vs[i]? = some v) : (L2.start N vs)[i]? = some (some v) := by
  unfold L2.start
  have hi := (List.getElem?_eq_some_iff.mp h).1
  rw [List.getElem?_append_left (by simpa using hi), List.getElem?_map, h]; rfl
theorem start_rest {N : List Str} {vs : List V} {i : Nat} (h : vs.length ≤ i) (h2 : i < N.length) : (L2.start N vs)[i]? = some none := by
  unfold L2.start
  rw [List.getElem?_append_right (by simpa using h), List.getElem?_replicate, if_pos]
  simp; omega
theorem ResAll.get {K : PySem.W.Frag} {p : Option Addr} {H0 H : Hp} : ∀ {rs : List Ent} {vs : List V} {i : Nat} {r : Ent}, ResAll K p H0 H rs vs → rs[i]? = some r → ∃ v, vs[i]? = some v ∧ ResOk K p H0 H r v
  | [], _, _, _, _, e => by simp at e
  | _ :: _, _, 0, r, ⟨v, ws, ev, a, _⟩, e => by
    subst ev; simp at e; subst e; exact ⟨v, rfl, a⟩
  | _ :: _, _, i + 1, r, ⟨v, ws, ev, _, b, _⟩, e => by
    subst ev
    exact ResAll.get (i := i) b (by simpa using e)
theorem ev_start {K : PySem.W.Frag} {p : Option Addr} {H : Hp} {N : List Str} {rs : List Ent} {vs : List V} {m : Nat} (pk : POk p H) (h : ResAll K p H H rs vs) (hm : rs.length + m ≤ N.length) : Ev K p H (fun _ => none) (rs ++ List.replicate m .no) (L2.start N vs) H := by
  have noOwn : ∀ {r : Ent} {v : V}, ResOk K p H H r v → (r.obj K).isSome = true → False := fun {r v} a ho => by
    obtain ⟨φ, hφ⟩ := Option.isSome_iff_exists.mp ho
    obtain ⟨x, o, _, _, n, g, _⟩ := a.1 φ hφ
    rw [n] at g; cases g
  have kind : ∀ (i : Nat) (e : Ent), (rs ++ List.replicate m .no)[i]? = some e → (∃ v, rs[i]? = some e ∧ vs[i]? = some v ∧ ResOk K p H H e v) ∨ (e = .no ∧ rs.length ≤ i ∧ i < rs.length + m) := fun i e g => by
    rcases Nat.lt_or_ge i rs.length with z | z
    · rw [List.getElem?_append_left z] at g
      obtain ⟨v, h1, h2⟩ := h.get g
      exact .inl ⟨v, g, h1, h2⟩
    · rw [List.getElem?_append_right z, List.getElem?_replicate] at g
      split at g
      · cases g; exact .inr ⟨rfl, z, by omega⟩
      · cases g
  refine ⟨fun i e g => ?_, fun i j a d e n gi gj hd he si sj => ?_, Stp.refl _ _, pk, (fun _ _ z => by cases z), fun _ _ => rfl⟩
  · rcases kind i e g with ⟨v, _, h1, h2⟩ | ⟨rfl, h1, h2⟩
    · refine ⟨_, start_get h1, fun φ z => (noOwn h2 (by rw [z]; rfl)).elim, ?_⟩
      have h3 := h2.2
      cases e with
      | im d => exact ⟨v, rfl, h3⟩
      | ro ds => obtain ⟨a, ws, e, g, m⟩ := h3; exact ⟨a, ws, by rw [e], g, g, m⟩
      | pen => obtain ⟨q, e, z⟩ := h3; exact ⟨q, e, by rw [z]⟩
      | pn => exact noOwn h2 rfl
      | raw w => have h3 : v = w := h3; subst h3; rfl
      | ex a d fs => obtain ⟨e, k⟩ := h3; exact ⟨by rw [e], k⟩
      | no => trivial
      | ls _ => trivial
      | la _ _ _ => trivial
      | dk _ => trivial
      | dt _ => trivial
    · refine ⟨_, start_rest (by rw [h.length]; exact h1) (by omega), (fun φ z => by cases z), trivial⟩
  · rcases kind i d gi with ⟨v, _, h1, h2⟩ | ⟨rfl, _⟩
    · exact noOwn h2 hd
    · cases hd
section
variable {P : Program} {w : World} {K : PySem.W.Frag} {mg : Str → Option Value} {base : Heap}
abbrev PsF {α : Type} (C : Con α) (a : α) : Ps := { nx := fun _ => C.post a (.im .none), rt := C.post a }
/-- a def that raises nothing -/
theorem fn_ok {α : Type} {x qual : Str} {st : Stmt} {f : Addr} {fd : FuncData} {N ps : List Str} {k : Nat} (C : Con α) (F : Fun K x qual st f fd) (S : FnScope N ps (defScope st)) (ha : ∀ a, (C.args a).length = ps.length)
    (hb : ∀ (cdv : Value) (A : Around) (outer : List PySem.Env) (s : Shared) (H : Hp), Room k (A.deeper (PyProof.Rows.envOfC qual (defScope st) s.heap.objs.size f cdv)) → ∃ t, PSs (cxOf CX0 P w K mg base N qual (defScope st) f cdv A outer s H E0).nox (defBody st) t ∧
      ∀ (p : Option Addr) (a : α), C.pre a → WS ⟨K, p, E0, fun _ => False⟩ t (C.args a ++ List.replicate (N.length - ps.length) .no) (PsF C a)) : FnOk P w K mg base CX0 (k + 1) f fd ps (spC K C) := by
  have hN : ps.length ≤ N.length := by have := congrArg List.length S.pre; rw [List.length_take] at this; omega
  refine F.ok S (fun vs H Q E h => ?_) (fun cdv A outer s H vs Q E hr h => ?_)
  · obtain ⟨p, a, _, r, _⟩ := h
    rw [r.length, ha]
  · obtain ⟨p, a, pk, r, pre, post, _⟩ := h
    obtain ⟨t, h1, h2⟩ := hb cdv A outer s H hr
    refine ⟨t, h1, h2 p a pre H (fun _ => none) _ H (ev_start pk r (by rw [ha]; omega)) (fun _ _ _ _ z => z.elim) _ ⟨fun Γ σ H' n e => ?_, fun r v H' hp s1 ro => post r v H' hp s1 ro, fun _ _ _ z => z.elim, fun _ _ _ z => z.elim⟩⟩
    exact post _ _ H' n e.stp (res_im.2 .non)
/-- a def that may raise -/
theorem fn_okX {α : Type} {x qual : Str} {st : Stmt} {f : Addr} {fd : FuncData} {N ps : List Str} {k : Nat} (C : Con α) (F : Fun K x qual st f fd) (S : FnScope N ps (defScope st)) (ha : ∀ a, (C.args a).length = ps.length)
    (hb : ∀ (cdv : Value) (A : Around) (outer : List PySem.Env) (s : Shared) (H : Hp) (E : XK), Room k (A.deeper (PyProof.Rows.envOfC qual (defScope st) s.heap.objs.size f cdv)) → ∃ t, PSs (cxOf (L2.CX P w) P w K mg base N qual (defScope st) f cdv A outer s H E) (defBody st) t ∧
      ∀ (p : Option Addr) (a : α), C.pre a → WS ⟨K, p, E, C.exc a⟩ t (C.args a ++ List.replicate (N.length - ps.length) .no) (PsF C a)) : FnOk P w K mg base (L2.CX P w) (k + 1) f fd ps (spC K C) := by
  have hN : ps.length ≤ N.length := by have := congrArg List.length S.pre; rw [List.length_take] at this; omega
  refine F.okX S (fun vs H Q E h => ?_) (fun cdv A outer s H vs Q E hr h => ?_)
  · obtain ⟨p, a, _, r, _⟩ := h
    rw [r.length, ha]
  · obtain ⟨p, a, pk, r, pre, post, exc⟩ := h
    obtain ⟨t, h1, h2⟩ := hb cdv A outer s H E hr
    refine ⟨t, h1, h2 p a pre H (fun _ => none) _ H (ev_start pk r (by rw [ha]; omega)) (fun e cls d H' z s1 eo => exc e cls d H' z s1 eo) _ ⟨fun Γ σ H' n e => ?_, fun r v H' hp s1 ro => post r v H' hp s1 ro, fun _ _ _ z => z.elim, fun _ _ _ z => z.elim⟩⟩
    exact post _ _ H' n e.stp (res_im.2 .non)
end
/-! ## isinstance -/
def tyD : PyData → String
  | .none => "NoneType"
  | .bool _ => "bool"
  | .int _ => "int"
  | .str _ => "str"
  | .list _ => "list"
  | .tuple _ => "tuple"
  | .dict _ => "dict"
section
variable {c : Cd} {te ta tb : TE} {tA : TA} {Γ : List Ent} {Q : Ent → Prop} {r ra rb z : Ent}
theorem ty_sqT {K : PySem.W.Frag} {H : Hp} {a : Addr} {xs : List V} (h : SqT K H a xs) : TyX K H (.ref a) (.type "tuple") := by
  rcases h with (h | ⟨o, h⟩) | ⟨o, its, n, h, hc, _⟩
  · exact .base (.tup h)
  · exact .fTuple h
  · exact .kTuple h hc
theorem ty_sqL {K : PySem.W.Frag} {H : Hp} {a : Addr} {xs : List V} (h : SqL K H a xs) : TyX K H (.ref a) (.type "list") := by
  rcases h with (h | ⟨o, h⟩) | ⟨o, its, n, h, hc, _⟩
  · exact .base (.lst h)
  · exact .base (.frz h)
  · exact .kList h hc
theorem Im.ty {K : PySem.W.Frag} {H : Hp} {v : V} {d : PyData} (h : Im K H v d) : TyX K H v (.type (tyD d)) := by
  cases h with
  | non => exact .base .non
  | bl b => exact .base (.bl b)
  | int i => exact .base (.int i)
  | str x => exact .base (.str x)
  | tup hs _ => exact ty_sqT hs
/-- the answer, by the kind -/
def isK (T : String) (d : PyData) : Bool := match d with
  | .int _ => T == "int"
  | .bool _ => T == "int" || T == "bool"
  | .str _ => T == "str"
  | .list _ => T == "list"
  | .tuple _ => T == "tuple"
  | .none => false
  | .dict _ => T == "dict"
def okT (T : String) : Prop := ∀ d : PyData, kitB (tyD d) T = some (isK T d)
theorem ok_int : okT "int" := fun d => by cases d <;> (simp only [tyD, isK]; decide +kernel)
theorem ok_bool : okT "bool" := fun d => by cases d <;> (simp only [tyD, isK]; decide +kernel)
theorem ok_str : okT "str" := fun d => by cases d <;> (simp only [tyD, isK]; decide +kernel)
theorem ok_tuple : okT "tuple" := fun d => by cases d <;> (simp only [tyD, isK]; decide +kernel)
theorem ok_list : okT "list" := fun d => by cases d <;> (simp only [tyD, isK]; decide +kernel)
theorem n_isi {T : String} {d : PyData} (h : okT T) : OpN c (rIsi c.K) [.im d, .raw (.ty T)] (B (isK T d)) := ⟨fun xs H H' _ s a0 Q' q => by
  obtain ⟨v, w, rfl, a, b⟩ := all2 a0
  have b : w = .ty T := b.2
  subst b
  exact ⟨v, _, _, _, _, rfl, .ty T, Im.ty a.2, kit_ty (h d), q _ H' (Stp.refl _ _) (res_im.2 (.bl _))⟩⟩
theorem n_isiL {T : String} {ds : List PyData} (h : okT T) : OpN c (rIsi c.K) [.ro ds, .raw (.ty T)] (B (isK T (.list ds))) := ⟨fun xs H H' _ s a0 Q' q => by
  obtain ⟨v, w, rfl, a, b⟩ := all2 a0
  have b : w = .ty T := b.2
  subst b
  obtain ⟨ad, vs, rfl, hs, ms⟩ := res_ro.1 a
  exact ⟨_, _, _, _, _, rfl, .ty T, ty_sqL hs, kit_ty (h (.list ds)), q _ H' (Stp.refl _ _) (res_im.2 (.bl _))⟩⟩
end
/-! ## the built-ins by name -/
theorem b_int : bootBuiltins "int" = some (.type "int") := by decide +kernel
theorem b_bool : bootBuiltins "bool" = some (.type "bool") := by decide +kernel
theorem b_str : bootBuiltins "str" = some (.type "str") := by decide +kernel
theorem b_tuple : bootBuiltins "tuple" = some (.type "tuple") := by decide +kernel
theorem b_list : bootBuiltins "list" = some (.type "list") := by decide +kernel
theorem b_ValueError : bootBuiltins "ValueError" = some (.type "ValueError") := by decide +kernel
theorem b_range : bootBuiltins "range" = some (.type "range") := by decide +kernel
theorem b_enumerate : bootBuiltins "enumerate" = some (.type "enumerate") := by decide +kernel
theorem b_zip : bootBuiltins "zip" = some (.type "zip") := by decide +kernel
theorem b_isinstance : bootBuiltins "isinstance" = some (.builtin "isinstance") := by decide +kernel
theorem b_len : bootBuiltins "len" = some (.builtin "len") := by decide +kernel
theorem b_abs : bootBuiltins "abs" = some (.builtin "abs") := by decide +kernel
theorem b_sum : bootBuiltins "sum" = some (.builtin "sum") := by decide +kernel
theorem b_all : bootBuiltins "all" = some (.builtin "all") := by decide +kernel
theorem b_any : bootBuiltins "any" = some (.builtin "any") := by decide +kernel
theorem b_repr : bootBuiltins "repr" = some (.builtin "repr") := by decide +kernel
theorem b_sorted : bootBuiltins "sorted" = some (.builtin "sorted") := by decide +kernel
theorem b_max : bootBuiltins "max" = some (.builtin "max") := by decide +kernel
theorem b_min : bootBuiltins "min" = some (.builtin "min") := by decide +kernel
/-! ## is True, is False -/
section
open PySem.Spec PyProof.Rows
def rIsD : R2 := fun x y H Q => ∃ b : Bool, y = .bl b ∧ Q (.bl (decide (x = .bl b))) H
theorem op_isD {X : Cx} : OpR X (compareOp .Is) rIsD := by
  intro pins s σ H x y v u Q I rx ry h
  obtain ⟨b, rfl, q⟩ := h
  cases (show u = Value.bool b from ry)
  cases x with
  | bl a =>
    cases (show v = Value.bool a from rx)
    by_cases e : a = b
    · subst e
      exact wpAny_is_self rfl ⟨.bl true, H, I, rfl, by simpa using q⟩
    · exact wpAny_is_other rfl (fun z => e (Value.bool.inj z)) ⟨.bl false, H, I, rfl, by simpa [e] using q⟩
  | non => cases rx; exact wpAny_is_other rfl (fun z => by cases z) ⟨.bl false, H, I, rfl, by simpa using q⟩
  | int i => obtain ⟨t, rfl⟩ := rx; exact wpAny_is_other rfl (fun z => by cases z) ⟨.bl false, H, I, rfl, by simpa using q⟩
  | str i => obtain ⟨t, rfl⟩ := rx; exact wpAny_is_other rfl (fun z => by cases z) ⟨.bl false, H, I, rfl, by simpa using q⟩
  | byt i => obtain ⟨t, rfl⟩ := rx; exact wpAny_is_other rfl (fun z => by cases z) ⟨.bl false, H, I, rfl, by simpa using q⟩
  | flt i => obtain ⟨t, rfl⟩ := rx; exact wpAny_is_other rfl (fun z => by cases z) ⟨.bl false, H, I, rfl, by simpa using q⟩
  | ref a => cases rx; exact wpAny_is_other rfl (fun z => by cases z) ⟨.bl false, H, I, rfl, by simpa using q⟩
  | ty a => cases rx; exact wpAny_is_other rfl (fun z => by cases z) ⟨.bl false, H, I, rfl, by simpa using q⟩
def isBo (b : Bool) : PyData → Bool
  | .bool a => decide (a = b)
  | _ => false
theorem o_isD {c : Cd} {d : PyData} {b : Bool} : Op2 c rIsD (.im d) (B b) (B (isBo b d)) := ⟨fun x y H H' _ s a k Q' q => by
  have k := Im.blv k.2
  subst k
  refine ⟨b, rfl, ?_⟩
  have e : decide (x = V.bl b) = isBo b d := by
    have a := a.2
    cases a <;> simp [isBo]
  rw [e]
  exact q _ H' (Stp.refl _ _) (res_im.2 (.bl _))⟩
end
/-! ## raise -/
/-- an own __init__ that stores its parameters under their names -/
def spInit (C : Addr) (ns : List Str) : Sp := fun vs H Q _ => ∃ (a : Addr) (ws : List V), vs = .ref a :: ws ∧ ws.length = ns.length ∧ H a = some (exo a C none) ∧
  ∀ (d : Addr) (H' : Hp), H d = none → d ≠ a → H' a = some (exo a C (some d)) → H' d = some (exd d (ns.zip ws).reverse) → (∀ b, b ≠ a → b ≠ d → H' b = H b) → Q .non H'
section
variable {K : PySem.W.Frag} {C a : Addr} {D : Ends} {H : Hp}
theorem init1 {f1 : Str} {w1 : V} {Q : VK} (T : OexC K C) (n1 : PySem.W.findIn K (.ref C) f1 = some none) (h : H a = some (exo a C none))
    (k : ∀ (d : Addr) (H' : Hp), H d = none → d ≠ a → H' a = some (exo a C (some d)) → H' d = some (exd d [(f1, w1)]) → (∀ b, b ≠ a → b ≠ d → H' b = H b) → D.nx [some (.ref a), some w1] H') :
    tOst K f1 (tVar 0) (tVar 1) D [some (.ref a), some w1] H :=
  ⟨_, rfl, _, rfl, a, C, rfl, T, n1, .inl ⟨h, fun d hd na => k d _ hd na upd_same (by rw [upd_ne na, upd_same]) fun b h1 h2 => by rw [upd_ne h1, upd_ne h2]⟩⟩
theorem init2 {f1 f2 : Str} {w1 w2 : V} (T : OexC K C) (n1 : PySem.W.findIn K (.ref C) f1 = some none) (n2 : PySem.W.findIn K (.ref C) f2 = some none) (h : H a = some (exo a C none))
    (k : ∀ (d : Addr) (H' : Hp), H d = none → d ≠ a → H' a = some (exo a C (some d)) → H' d = some (exd d [(f2, w2), (f1, w1)]) → (∀ b, b ≠ a → b ≠ d → H' b = H b) → D.nx [some (.ref a), some w1, some w2] H') :
    tSeq (tOst K f1 (tVar 0) (tVar 1)) (tOst K f2 (tVar 0) (tVar 2)) D [some (.ref a), some w1, some w2] H := by
  refine ⟨_, rfl, _, rfl, a, C, rfl, T, n1, .inl ⟨h, fun d hd na => ?_⟩⟩
  refine ⟨_, rfl, _, rfl, a, C, rfl, T, n2, .inr ⟨d, _, upd_same, by rw [upd_ne na, upd_same], by show 1 ≤ 900; decide, ?_⟩⟩
  exact k d _ hd na (by rw [upd_ne (Ne.symm na), upd_same]) upd_same fun b h1 h2 => by rw [upd_ne h2, upd_ne h1, upd_ne h2]
theorem init3 {f1 f2 f3 : Str} {w1 w2 w3 : V} (T : OexC K C) (n1 : PySem.W.findIn K (.ref C) f1 = some none) (n2 : PySem.W.findIn K (.ref C) f2 = some none) (n3 : PySem.W.findIn K (.ref C) f3 = some none) (h : H a = some (exo a C none))
    (k : ∀ (d : Addr) (H' : Hp), H d = none → d ≠ a → H' a = some (exo a C (some d)) → H' d = some (exd d [(f3, w3), (f2, w2), (f1, w1)]) → (∀ b, b ≠ a → b ≠ d → H' b = H b) → D.nx [some (.ref a), some w1, some w2, some w3] H') :
    tSeq (tOst K f1 (tVar 0) (tVar 1)) (tSeq (tOst K f2 (tVar 0) (tVar 2)) (tOst K f3 (tVar 0) (tVar 3))) D [some (.ref a), some w1, some w2, some w3] H := by
  refine ⟨_, rfl, _, rfl, a, C, rfl, T, n1, .inl ⟨h, fun d hd na => ?_⟩⟩
  refine ⟨_, rfl, _, rfl, a, C, rfl, T, n2, .inr ⟨d, _, upd_same, by rw [upd_ne na, upd_same], by show 1 ≤ 900; decide, ?_⟩⟩
  refine ⟨_, rfl, _, rfl, a, C, rfl, T, n3, .inr ⟨d, _, by rw [upd_ne (Ne.symm na), upd_same], upd_same, by show 2 ≤ 900; decide, ?_⟩⟩
  exact k d _ hd na (by rw [upd_ne (Ne.symm na), upd_ne (Ne.symm na), upd_same]) upd_same fun b h1 h2 => by rw [upd_ne h2, upd_ne h2, upd_ne h1, upd_ne h2]
end
section
variable {c : Cd} {tA : TA} {Γ : List Ent} {P : Ps}
theorem ResAll.ims {K : PySem.W.Frag} {p : Option Addr} {H0 H : Hp} : ∀ {ds : List PyData} {vs : List V}, ResAll K p H0 H (ds.map Ent.im) vs → Ims K H vs ds
  | [], _, x => by rw [show _ = [] from x]; exact .nil
  | d :: ds, _, ⟨v, ws, e, a, b, _⟩ => by rw [e]; exact .cons a.2 (ResAll.ims b)
theorem zip_fst {α β : Type} : ∀ {ns : List α} {ws : List β}, ws.length = ns.length → (ns.zip ws).map (·.1) = ns
  | [], _, _ => rfl
  | n :: ns, [], h => by cases h
  | n :: ns, w :: ws, h => by simp [zip_fst (ns := ns) (ws := ws) (by simpa using h)]
theorem zip_snd {α β : Type} : ∀ {ns : List α} {ws : List β}, ws.length = ns.length → (ns.zip ws).map (·.2) = ws
  | [], [], _ => rfl
  | n :: ns, [], h => by cases h
  | n :: ns, w :: ws, h => by simp [zip_snd (ns := ns) (ws := ws) (by simpa using h)]
theorem ws_raise {C : Addr} {ns : List Str} {ds : List PyData} (h : VA c tA Γ (ds.map Ent.im)) (hl : ds.length = ns.length) (hz : ds.length ≤ 1000) (hx : c.X (C, (ns.zip ds).reverse)) : WS c (fun _ σ H => tMkO C (spInit C ns) [] tA σ H fun cls d H' => c.E cls d H') Γ P := fun H0 F σ H ev x D dd => by
  refine h H0 F σ H ev x _ fun rs vs H1 e s1 r1 => ?_
  subst e
  have ms := r1.ims
  have lv : vs.length = ns.length := by rw [ms.length, hl]
  refine ⟨by rw [ms.length]; exact hz, fun a ha => ?_⟩
  refine ⟨a, vs ++ [], rfl, by rw [List.append_nil]; exact lv, upd_same, fun d H2 hd na h2a h2d h2 => ?_⟩
  rw [List.append_nil] at h2d
  have hd1 : H1 d = none := by rw [← hd, upd_ne na]
  have old : ∀ b o, H1 b = some o → upd (del H2 a) d (.xd (ns.zip vs).reverse) b = some o := fun b o e => by
    have nb : b ≠ a := ne_of_none e ha
    have nd : b ≠ d := ne_of_none e hd1
    rw [upd_ne nd, del_ne nb, h2 b nb nd, upd_ne nb]; exact e
  refine ⟨rfl, d, _, h2a, h2d, hd1, ?_⟩
  have st : Stp c.p H1 (upd (del H2 a) d (.xd (ns.zip vs).reverse)) := ⟨fun b o _ e => old b o e, fun q l _ k => by
    obtain ⟨n', x1, x2, x3, x4, g1, g2, r⟩ := k
    exact ⟨n', x1, x2, x3, x4, old _ _ g1, old _ _ g2, r⟩⟩
  refine x _ _ _ _ hx (ev.stp.trans (s1.trans st)) ⟨rfl, d, _, rfl, upd_same, ?_, ?_⟩
  · rw [List.map_reverse, List.map_reverse, zip_fst lv, zip_fst hl]
  · rw [List.map_reverse, List.map_reverse, zip_snd lv, zip_snd hl]
    exact Ims.rev (ms.tupS (st.tup (ev.step s1).pok))
end
end DL

namespace DL
open PySem PySem.Spec PyProof.Rows L2
/-! ## defs called with the caught error, repr -/
structure FnE (P : Program) (w : World) (K : PySem.W.Frag) (mg : Str → Option Value) (base : Heap) (k : Nat) (f : Addr) (fd : FuncData) (ps : List Str) (sp : Addr → Value → Option Addr → Sp) : Prop where
  len : ∀ a cls d vs H Q E, sp a cls d vs H Q E → vs.length = ps.length
  run : ∀ (A : Around) (outer : List Env) (s : Shared) (H : Hp) (args : Args) (us : List Value) (vs : List V) (Q : VK) (pa : Addr) (oe : Obj) (cls : Value) (d : Option Addr), L2H.RoomH k A → A.guards = some [] → L2H.PinOk outer H s (pa, oe) → Zc cls d oe → (∃ fv, oe.data = .fields fv) →
    Env0 P w K mg base A outer s H → BindsTo s fd args (ps.zip us) → Vals vs us → sp pa cls d vs H Q E0 → codeAny (model P w) A (.call (.ref f) args) (CR CX0 outer P w H s Q E0) s
section
variable {P : Program} {w : World} {K : PySem.W.Frag} {mg : Str → Option Value} {base : Heap}
theorem fn_okE {x qual : Str} {st : Stmt} {f : Addr} {fd : FuncData} {N ps : List Str} {k : Nat} {sp : Addr → Value → Option Addr → Sp} (F : Fun K x qual st f fd) (S : FnScope N ps (defScope st)) (len : ∀ a cls d vs H Q E, sp a cls d vs H Q E → vs.length = ps.length)
    (hbody : ∀ (cdv : Value) (A : Around) (outer : List Env) (s : Shared) (H : Hp) (vs : List V) (Q : VK) (pa : Addr) (oe : Obj) (cls : Value) (d : Option Addr), A.guards = some [] → L2H.RoomH k (A.deeper (envOfC qual (defScope st) s.heap.objs.size f cdv)) → Zc cls d oe → (∃ fv, oe.data = .fields fv) → sp pa cls d vs H Q E0 →
      ∃ t, PSs (L2H.cxH CX0 P w K mg base N qual (defScope st) f cdv A outer s H E0 (pa, oe)) (defBody st) t ∧ t { nx := fun _ H' => Q .non H', rt := Q } (L2.start N vs) H) : FnE P w K mg base (k + 1) f fd ps sp := by
  obtain ⟨oc, od, kV, doc, pm, an, cdv, ct, osl, rfl, lk, hcd⟩ := F.ex
  constructor
  · exact len
  intro A outer s H args us vs Q pa oe cls d room gd pin hz hf e0 binds rel hsp
  have hlen := len _ _ _ _ _ _ _ hsp
  have inK : K.In s.heap := e0.mod.kin.keeps fun b o q => (e0.bs b o q).1
  have nolim : s.heap.NoLimit := e0.mod.nolimit.keeps fun b o q => (e0.bs b o q).1
  refine codeAny_call_function room.depth (inK _ _ lk) rfl S.co S.gen rfl (PySem.W.codeRec_of inK hcd) (binds _ _ _ _ ?_)
  refine wpAny_newFunctionEnv_cells S.kind ?_ fun env eenv s1 ic => ?_
  · rintro ⟨n, v⟩ hy
    exact (S.par n (List.of_mem_zip hy).1).elim .inl fun q => .inr ⟨q, PySem.W.cellsFrom_some _ _ _ (.inl q)⟩
  · subst eenv
    refine ⟨nolim.keeps ic.toInCall.keep, codeAny_func ?_⟩
    obtain ⟨t, pt, ht⟩ := hbody cdv A outer s H vs Q pa oe cls d gd (room.deeper _) hz hf hsp
    have I0 := L2H.inv_startH (CX := CX0) (P := P) (w := w) (mg := mg) (base := base) (E := E0) S pin e0 hlen rel ic
    refine wpAny_mono (pt.run [] s1 (L2.start N vs) H _ I0 ht) (fun fl s' q => ?_) fun e s' q => q
    cases fl with
    | ret u => obtain ⟨v, σ', H', J, rv, hq⟩ := q; exact ⟨v, H', J.os, J.bare, J.base, J.hok, rv, hq⟩
    | next => obtain ⟨σ', H', J, hq⟩ := q; exact ⟨.non, H', J.os, J.bare, J.base, J.hok, rfl, hq⟩
    | brk => obtain ⟨_, _, _, hq⟩ := q; exact hq.elim
    | cont => obtain ⟨_, _, _, hq⟩ := q; exact hq.elim
end
section
variable {X : Cx} {pa : Addr} {oe : Obj} {cls : Value} {d : Option Addr}
theorem pe_callE {x : Str} {k : Nat} {f : Addr} {fd : FuncData} {ps : List Str} {sp : Addr → Value → Option Addr → Sp} {e : Expr} {es : List Expr} {q pos : Pos} {t : TA} (F : FnE X.prog X.w X.K X.mg X.base k f fd ps sp) (hr : L2H.RoomH k X.A) (gd : X.A.guards = some []) (hp : (pa, oe) ∈ X.pn) (hz : Zc cls d oe) (hf : ∃ fv, oe.data = .fields fv)
    (hg : Gl X x) (hm : X.mg x = some (.ref f)) (hk : PySem.W.keepIn X.K (.ref f) = true) (hb : L2.Binds X.K fd ps []) (ha : PA X (e :: es) t) (hdb : (x == ("__debug__" : Str)) = false := by decide)
    (he : starEach (e :: es) X.env = (false, eval e X.env) :: starEach es X.env := by rfl) (hpl : (backTo pos (starEach es X.env)).any (·.1) = false := by rfl) : PE X (.Call (.Name x q) (e :: es) [] pos) (tCall (sp pa cls d) [] E0 t) := by
  constructor
  intro pins s σ H Q I h
  refine wpAny_Call_Name_kw (ld_glob I hg hm ?_ hdb)
  refine PySem.W.callWith_K (h₀ := X.base) I.ok.mod.kin hk (thn (ha.run pos pins s σ H _ I h) fun us s1 ⟨vs, H1, I1, r, h1⟩ => ⟨I1.kIn, ?_⟩) he hpl
  have h1 : sp pa cls d vs H1 Q E0 := by
    have z : sp pa cls d (vs ++ []) H1 Q E0 := h1
    rwa [List.append_nil] at z
  have lu : us.length = ps.length := by rw [← r.length]; exact F.len _ _ _ _ _ _ _ h1
  have bd := hb s1 us I1.kIn (by rw [List.append_nil]; exact lu)
  rw [List.append_nil] at bd
  obtain ⟨p1, p2, p3, p4, p5⟩ := I1.pin (pa, oe) (List.mem_append_left _ hp)
  have pin : L2H.PinOk X.stack H1 s1 (pa, oe) := ⟨p1, p2, fun z => (List.mem_cons.mp (I1.stkSub pa z)).elim p3 p4, p5⟩
  refine wpAny_call (codeAny_mono (F.run X.A X.stack s1 H1 ⟨us, []⟩ us vs Q pa oe cls d hr gd pin hz hf I1.env0 bd r h1) fun res s' hq => ?_)
  cases res with
  | error z => exact (show False from hq).elim
  | ok fl =>
    cases fl with
    | ret u => exact I1.after hq
    | next => exact (show False from hq).elim
    | brk => exact (show False from hq).elim
    | cont => exact (show False from hq).elim
/-- what is asked of an own error class -/
structure ExF (K : PySem.W.Frag) (C : Addr) : Prop where
  cl : (PySem.W.clsIn K C).isSome = true
  ga : PySem.W.findIn K (.ref C) "__getattribute__" = some (some (.builtin "BaseException.__getattribute__"))
  gg : PySem.W.findIn K (.ref C) "__getattr__" = some none
  exC : PySem.W.subIn K (.ref C) (.type "BaseException") = some true
  ca : PySem.W.findIn K (.ref C) "__class__" = some (some (.builtin "object.__class__"))
  hm : PySem.W.mroIn K C (.type "object") = some true
  hd : PySem.W.hasDictIn K C = true
  hn : PySem.W.specialIn K (.builtin "object.__class__") "__get__" = some (some (.builtin "getset_descriptor.__get__"))
  tk : PySem.W.takesIn K (.builtin "object.__class__") = some true
theorem inst_of {pins : List (Addr × Obj)} {σ : L2.St} {H : Hp} {s : Shared} {C dd : Addr} {fs : List (Str × V)} (I : Inv X pins σ H s) (hp : (pa, oe) ∈ X.pn) (hz : Zc (.ref C) (some dd) oe) (hf : ∃ fv, oe.data = .fields fv) (hd : H dd = some (.xd fs)) :
    ∃ (od : Obj) (mA : Str → Option Value), PySem.W.InstAt s.heap pa oe C (some od) ∧ (∀ f, RelO (fs.lookup f) (mA f)) ∧ ∀ n, PySem.W.lookIn n od = some (mA n) := by
  obtain ⟨p1, _⟩ := I.pin (pa, oe) (List.mem_append_left _ hp)
  obtain ⟨fv, hfv⟩ := hf
  have ob : ObjOk X.prog X.w H s.heap dd (.xd fs) := I.hok dd _ hd
  obtain ⟨mA, hns, hr⟩ := ob
  obtain ⟨od, ho, hl⟩ := lookIn_ns hns
  exact ⟨od, mA, ⟨p1, hz.1, by unfold PySem.W.notCls; rw [hfv] <;> rfl, by rw [hz.2]; exact ho⟩, hr, hl⟩
/-- isinstance(e, C) of the caught error -/
def rIsE (K : PySem.W.Frag) (pa : Addr) (cls : Value) (d : Option Addr) : List V → Hp → VK → Prop := fun xs H Q => ∃ (C dd : Addr) (c : V) (u : Value) (b : Bool) (fs : List (Str × V)), cls = .ref C ∧ d = some dd ∧ ExF K C ∧ xs = [.ref pa, c] ∧ ClsV c u ∧ H dd = some (.xd fs) ∧ PySem.W.kitOne K (.ref C) u = some b ∧ Q (.bl b) H
theorem call_isE (hp : (pa, oe) ∈ X.pn) (hz : Zc cls d oe) (hf : ∃ fv, oe.data = .fields fv) : CallR X (.builtin "isinstance") (rIsE X.K pa cls d) := by
  intro pins s σ H xs us Q I r h
  obtain ⟨C, dd, c, u, b, fs, rfl, rfl, T, rfl, k, hd, e, q⟩ := h
  obtain ⟨u1, u2, rfl, r1, r2⟩ := vals2 r
  have e2 := k.eq r2
  subst e2
  obtain rfl : u1 = Value.ref pa := r1
  obtain ⟨od, mA, J, _, _⟩ := inst_of I hp hz hf hd
  exact PySem.W.kia_one (PySem.W.kitx_exc (ox := oe) (od := some od) T.cl T.ga T.gg T.exC T.ca T.hn T.tk T.hm) I.kIn J e (fun z => by cases z) fun tk => ⟨.bl b, H, I.tok tk, rfl, q⟩
/-- e.f -/
def tEx (K : PySem.W.Frag) (pa : Addr) (cls : Value) (d : Option Addr) (f : Str) (te : TE) : TE := fun σ H Q => te σ H fun x H1 => x = .ref pa ∧ ∃ (C dd : Addr) (fs : List (Str × V)) (v : V), cls = .ref C ∧ d = some dd ∧ ExF K C ∧ PySem.W.findIn K (.ref C) f = some none ∧ H1 dd = some (.xd fs) ∧ fs.lookup f = some v ∧ Q v H1
theorem pe_ex {e : Expr} {te : TE} {pos : Pos} {n : Str} (hp : (pa, oe) ∈ X.pn) (hz : Zc cls d oe) (hf : ∃ fv, oe.data = .fields fv) (he : PE X e te)
    (hb : attributeBase e n X.env (eval e X.env) = eval e X.env := by rfl) : PE X (.Attribute e n pos) (tEx X.K pa cls d n te) := by
  constructor
  intro pins s σ H Q I h
  refine attr_of hb (thn (he.run pins s σ H _ I h) fun u s1 hh => ?_)
  obtain ⟨x, H1, I1, rx, ex, C, dd, fs, v, rfl, rfl, T, hno, ea, l, q⟩ := hh
  subst ex
  obtain rfl : u = Value.ref pa := rx
  obtain ⟨od, mA, J, hr, hl⟩ := inst_of I1 hp hz hf ea
  obtain ⟨u, hu, ru⟩ := RelO.some_of (v := v) (o := mA n) (by rw [← l]; exact hr n)
  exact HandSPX.exc_get I1.kIn J T.ga T.gg T.exC (PySem.W.findObj_own T.hd hno rfl (by rw [hl, hu])) (handed_of ru) ⟨v, H1, I1.tok _, ru, q⟩
/-- repr -/
structure Shw (d : PyData) : Prop where
  sh : d.showable = true
  dp : d.depth ≤ 60
  nd : d.hasDict = false
  sz : d.shown.length ≤ sizeLine
def rRepr (K : PySem.W.Frag) : List V → Hp → VK → Prop := fun xs H Q => ∃ (x : V) (d : PyData), xs = [x] ∧ Dp K H x d ∧ Shw d ∧ Q (.str d.shown) H
theorem call_reprD (gd : X.A.guards = some []) (hu : X.A.units + 64 < cLine) : CallR X (.builtin "repr") (rRepr X.K) := by
  intro pins s σ H xs us Q I r h
  obtain ⟨x, d, rfl, hd, sh, q⟩ := h
  obtain ⟨u, rfl, ru⟩ := vals1 r
  have dep := sh.dp
  have road : ∀ (a : Addr), u = .ref a → wpAny (model X.prog X.w) X.A (call (.builtin "repr") [u]) (EP X pins σ Q) X.xe s := fun a e => by
    subst e
    obtain ⟨as, rd⟩ := Dp.reads I d x _ hd ru
    refine repr_of_reads' rd sh.sh (fun z => by rw [sh.nd] at z; cases z) gd (by omega) (fun _ _ z => z) (fun h' u' tk keep => ?_) sh.sz
    exact ⟨.str d.shown, H, I.kept (t' := tk) keep, ⟨_, rfl⟩, q⟩
  cases hd with
  | non => cases ru; exact PySem.P.repr_of_none ⟨.str _, H, I.tok _, ⟨_, rfl⟩, q⟩
  | bl b => cases ru; exact PySem.P.repr_of_bool ⟨.str _, H, I.tok _, ⟨_, rfl⟩, q⟩
  | int i =>
    obtain ⟨t, rfl⟩ := ru
    have sm : i.natAbs.log2 < 1920 := of_decide_eq_true sh.sh
    exact PySem.P.repr_of_int sm ⟨.str _, H, I.tok _, ⟨_, rfl⟩, q⟩
  | str y => obtain ⟨t, rfl⟩ := ru; exact PySem.P.repr_of_str ⟨.str _, H, I.tok _, ⟨_, rfl⟩, q⟩ sh.sz
  | lst _ _ => cases ru; exact road _ rfl
  | tup _ _ => cases ru; exact road _ rfl
end
/-! ### their laws -/
section
variable {c : Cd} {Γ : List Ent} {te : TE} {tA : TA}
theorem n_isE {pa C dd : Addr} {fs : List (Str × PyData)} {v : V} {u : Value} {b : Bool} (T : ExF c.K C) (k : ClsV v u) (e : PySem.W.kitOne c.K (.ref C) u = some b) : OpN c (rIsE c.K pa (.ref C) (some dd)) [.ex pa dd fs, .raw v] (B b) := ⟨fun xs H H' _ s a0 Q' q => by
  obtain ⟨x, y, rfl, a, b'⟩ := all2 a0
  obtain ⟨rfl, vs, hd, _⟩ := a.2
  have hy : y = v := b'.2
  subst hy
  exact ⟨C, dd, _, u, b, vs, rfl, rfl, T, rfl, k, hd, e, q _ H' (Stp.refl _ _) (res_im.2 (.bl _))⟩⟩
theorem look_of {K : PySem.W.Frag} {H : Hp} {f : Str} {d : PyData} : ∀ {fs : List (Str × PyData)} {vs : List (Str × V)}, vs.map (·.1) = fs.map (·.1) → Ims K H (vs.map (·.2)) (fs.map (·.2)) → fs.lookup f = some d → ∃ v, vs.lookup f = some v ∧ Im K H v d
  | [], _, _, _, h => by cases h
  | (g, d') :: fs, [], e, _, _ => by cases e
  | (g, d') :: fs, (g', v') :: vs, e, m, h => by
    have e1 : g' = g := by have := congrArg List.head? e; simpa using this
    have e2 : vs.map (·.1) = fs.map (·.1) := by have := congrArg List.tail e; simpa using this
    subst e1
    cases m with
    | cons m1 m2 =>
      by_cases z : f = g'
      · subst z
        simp [List.lookup] at h
        subst h
        exact ⟨v', by simp [List.lookup], m1⟩
      · have zb : (f == g') = false := by simpa using z
        simp only [List.lookup, zb] at h ⊢
        exact look_of e2 m2 h
theorem v_exf {pa C dd : Addr} {fs : List (Str × PyData)} {f : Str} {d : PyData} (T : ExF c.K C) (hno : PySem.W.findIn c.K (.ref C) f = some none) (h : VE c te Γ (.ex pa dd fs)) (l : fs.lookup f = some d) : VE c (tEx c.K pa (.ref C) (some dd) f te) Γ (.im d) := fun H0 F σ H ev x Q' q => by
  refine h H0 F σ H ev x _ fun r v H1 e s1 r1 => ?_
  subst e
  obtain ⟨rfl, vs, hd, k, m⟩ := r1.2
  obtain ⟨v, hv, mv⟩ := look_of k m l
  exact ⟨rfl, C, dd, vs, v, rfl, rfl, T, hno, hd, hv, q _ v H1 rfl s1 (res_im.2 mv)⟩
theorem n_repr {d : PyData} (sh : Shw d) : OpN c (rRepr c.K) [.im d] (.im (.str d.shown)) := ⟨fun xs H H' _ s a0 Q' q => by
  obtain ⟨v, rfl, a⟩ := all1 a0
  exact ⟨v, d, rfl, Im.dp a.2, sh, q _ H' (Stp.refl _ _) (res_im.2 (.str _))⟩⟩
theorem n_reprL {ds : List PyData} (sh : Shw (.list ds)) : OpN c (rRepr c.K) [.ro ds] (.im (.str (PyData.list ds).shown)) := ⟨fun xs H H' _ s a0 Q' q => by
  obtain ⟨v, rfl, a⟩ := all1 a0
  obtain ⟨a, vs, rfl, sq, m⟩ := res_ro.1 a
  exact ⟨_, _, rfl, .lst sq m.dp, sh, q _ H' (Stp.refl _ _) (res_im.2 (.str _))⟩⟩
end
section
variable {c : Cd} {Γ : List Ent} {tb : TE}
/-- found + others, found an own list at its name -/
theorem v_catV {i : Nat} {ds es : List PyData} (hz : ds.length + es.length ≤ 1000000) (hb : VE c tb Γ (.ls es)) (hg : Γ[i]? = some (.ls ds) := by rfl) : VE c (tOp rCat (tVar i) tb) Γ (.ls (ds ++ es)) := fun H0 F σ H ev x Q' q => by
  obtain ⟨s, hs, k1, _⟩ := ev.ent i _ hg
  obtain ⟨a, o, e, _, n, f, g, vs, rfl, m⟩ := k1 _ rfl
  subst e
  refine ⟨_, hs, hb H0 F σ H ev x _ fun r y H1 e s1 r1 => ?_⟩
  subst e
  have ev1 := ev.step s1
  obtain ⟨b, ws, rfl, nb, gb, mb⟩ := res_ls.1 r1
  have ga : H1 a = some (.lst vs) := s1.keep a _ (ev.pok0.ne0 n) g
  have ma := m.tupS (s1.tup ev.pok)
  refine ⟨_, _, _, _, rfl, rfl, ga, gb, by rw [ma.length, mb.length, sizeLine_eq]; omega, fun p hp' => ?_⟩
  exact q _ _ _ rfl (s1.trans (Stp.new hp')) (res_ls.2 ⟨p, _, rfl, s1.back ev.pok hp', upd_same, (ma.append mb).tupS ((Stp.new hp').tup ev1.pok)⟩)
end
/-! ### contracts -/
structure ConE (α : Type) where
  cl : α → Addr
  fs : α → List (Str × PyData)
  pre : α → Prop
  post : α → Ent → Prop
def spE {α : Type} (K : PySem.W.Frag) (C : ConE α) : Addr → Value → Option Addr → Sp := fun pa cls d vs H Q _ => ∃ (p : Option Addr) (a : α) (dd : Addr), cls = .ref (C.cl a) ∧ d = some dd ∧ POk p H ∧ vs = [.ref pa] ∧ ExAt K H dd (C.fs a) ∧ C.pre a ∧
  ∀ r v H', C.post a r → Stp p H H' → ResOk K p H H' r v → Q v H'
section
variable {P : Program} {w : World} {K : PySem.W.Frag} {mg : Str → Option Value} {base : Heap}
/-- a def of the caught error keeps its contract -/
theorem fn_okC {α : Type} {x qual : Str} {st : Stmt} {f : Addr} {fd : FuncData} {N ps : List Str} {k : Nat} (C : ConE α) (F : Fun K x qual st f fd) (S : FnScope N ps (defScope st)) (h1 : ps.length = 1)
    (hb : ∀ (cdv : Value) (A : Around) (outer : List Env) (s : Shared) (H : Hp) (pa : Addr) (oe : Obj) (dd : Addr) (p : Option Addr) (a : α), A.guards = some [] → L2H.RoomH k (A.deeper (envOfC qual (defScope st) s.heap.objs.size f cdv)) → Zc (.ref (C.cl a)) (some dd) oe → (∃ fv, oe.data = .fields fv) → C.pre a →
      ∃ t, PSs (L2H.cxH CX0 P w K mg base N qual (defScope st) f cdv A outer s H E0 (pa, oe)) (defBody st) t ∧ WS ⟨K, p, E0, fun _ => False⟩ t (.ex pa dd (C.fs a) :: List.replicate (N.length - 1) .no) { nx := fun _ => C.post a (.im .none), rt := C.post a }) : FnE P w K mg base (k + 1) f fd ps (spE K C) := by
  have hN : ps.length ≤ N.length := by have := congrArg List.length S.pre; rw [List.length_take] at this; omega
  refine fn_okE F S (fun a cls d vs H Q E h => ?_) fun cdv A outer s H vs Q pa oe cls d gd hr hz hf h => ?_
  · obtain ⟨p, a, dd, _, _, _, rfl, _⟩ := h
    rw [h1]; rfl
  · obtain ⟨p, a, dd, rfl, rfl, pk, rfl, ex, pre, post⟩ := h
    obtain ⟨t, h1', h2⟩ := hb cdv A outer s H pa oe dd p a gd hr hz hf pre
    refine ⟨t, h1', h2 H (fun _ => none) _ H ?_ (fun _ _ _ _ z => z.elim) _ ⟨fun Γ σ H' n e => ?_, fun r v H' hp s1 ro => post r v H' hp s1 ro, fun _ _ _ z => z.elim, fun _ _ _ z => z.elim⟩⟩
    · have ra : ResAll K p H H [.ex pa dd (C.fs a)] [.ref pa] := ⟨_, [], rfl, ⟨(fun φ z => by cases z), rfl, ex⟩, rfl, fun z => by cases z⟩
      exact ev_start (rs := [.ex pa dd (C.fs a)]) pk ra (by show 1 + (N.length - 1) ≤ N.length; omega)
    · exact post _ _ H' n e.stp (res_im.2 .non)
end
section
variable {c : Cd} {Γ : List Ent} {tA : TA} {z : Ent} {Q : Ent → Prop}
theorem w_callE {α : Type} {C : ConE α} {pa dd : Addr} (a : α) (h : VA c tA Γ [.ex pa dd (C.fs a)]) (pr : C.pre a) (qa : ∀ r, C.post a r → Q r) : WE c (tCall (spE c.K C pa (.ref (C.cl a)) (some dd)) [] E0 tA) Γ Q := fun H0 F σ H ev x Q' q => by
  refine h H0 F σ H ev x _ fun rs vs H1 e s1 r1 => ?_
  subst e
  obtain ⟨v, rfl, rv⟩ := all1 r1
  obtain ⟨rfl, ex⟩ := rv.2
  exact ⟨c.p, a, dd, rfl, rfl, ev.pok.step s1, rfl, ex, pr, fun r v H2 pr s2 r2 => q r v H2 (qa r pr) (s1.trans s2) (r2.back s1 ev.pok)⟩
theorem v_callE {α : Type} {C : ConE α} {pa dd : Addr} (a : α) (h : VA c tA Γ [.ex pa dd (C.fs a)]) (pr : C.pre a) (qa : ∀ r, C.post a r → r = z) : VE c (tCall (spE c.K C pa (.ref (C.cl a)) (some dd)) [] E0 tA) Γ z := w_callE a h pr qa
end
/-! ## the law itself: its heap is read anew behind each statement -/
def Ent.flat : Ent → Bool
  | .no => true
  | .im _ => true
  | .ro _ => true
  | .pen => true
  | _ => false
def Flat (Γ : List Ent) : Prop := ∀ (i : Nat) (e : Ent), Γ[i]? = some e → e.flat = true
theorem flat_obj {K : PySem.W.Frag} {e : Ent} (h : e.flat = true) : e.obj K = none := by
  cases e <;> first | rfl | cases h
theorem flat_of {Γ : List Ent} (h : Γ.all Ent.flat = true) : Flat Γ := fun i e g => List.all_eq_true.mp h e (List.mem_of_getElem? g)
section
variable {K : PySem.W.Frag} {p : Option Addr} {H0 F H H1 : Hp} {Γ : List Ent} {σ : L2.St} {T : List (Addr × Str)}
theorem EntOk.root {e : Ent} {s : Option V} (fl : e.flat = true) (x : EntOk K p H0 F H e s) : EntOk K p H (fun _ => none) H e s := by
  refine ⟨(fun φ z => by rw [flat_obj fl] at z; cases z), ?_⟩
  have x := x.2
  cases e with
  | no => trivial
  | im d => exact x
  | ro ds => obtain ⟨a, vs, e, h0, h1, m⟩ := x; exact ⟨a, vs, e, h1, h1, m⟩
  | pen => exact x
  | _ => cases fl
theorem Ev.root (x : Ev K p H0 F Γ σ H) (fl : Flat Γ) : Ev K p H (fun _ => none) Γ σ H := by
  refine ⟨fun i e g => ?_, fun i j a d e _ gi _ hd _ _ _ => ?_, Stp.refl _ _, x.pok, (fun _ _ z => by cases z), fun _ _ => rfl⟩
  · obtain ⟨s, hs, k⟩ := x.ent i e g
    exact ⟨s, hs, k.root (fl i e g)⟩
  · have z := fl i d gi
    rw [flat_obj z] at hd; cases hd
theorem extN_tup (e : LamX.ExtN H H1) : Tup H H1 := ⟨fun a xs h => e a _ h (fun _ z => by cases z), fun a o u h => e a _ h (fun _ z => by cases z)⟩
theorem extN_sqL {a : Addr} {vs : List V} (e : LamX.ExtN H H1) (h : SqL K H a vs) : SqL K H1 a vs := by
  rcases h with (h | ⟨o, h⟩) | h
  · exact .inl (.inl (e _ _ h (fun _ z => by cases z)))
  · exact .inl (.inr ⟨o, e _ _ h (fun _ z => by cases z)⟩)
  · exact .inr h
theorem extN_pok (e : LamX.ExtN H H1) (h : POk p H) : POk p H1 := fun q hq => by
  obtain ⟨l, ns, a, d, c, f, h1, h2, r⟩ := h q hq
  exact ⟨l, ns, a, d, c, f, e _ _ h1 (fun _ z => by cases z), e _ _ h2 (fun _ z => by cases z), r⟩
theorem Ev.ext (x : Ev K p H (fun _ => none) Γ σ H) (e : LamX.ExtN H H1) (fl : Flat Γ) : Ev K p H1 (fun _ => none) Γ σ H1 := by
  refine ⟨fun i r g => ?_, fun i j a d r _ gi _ hd _ _ _ => ?_, Stp.refl _ _, extN_pok e x.pok, (fun _ _ z => by cases z), fun _ _ => rfl⟩
  · obtain ⟨s, hs, k⟩ := x.ent i r g
    have z := fl i r g
    refine ⟨s, hs, (fun φ y => by rw [flat_obj z] at y; cases y), ?_⟩
    have k := k.2
    cases r with
    | no => trivial
    | im d => obtain ⟨v, ev, m⟩ := k; exact ⟨v, ev, m.tupS (extN_tup e)⟩
    | ro ds => obtain ⟨a, vs, ea, h0, h1, m⟩ := k; exact ⟨a, vs, ea, extN_sqL e h1, extN_sqL e h1, m.tupS (extN_tup e)⟩
    | pen => exact k
    | _ => cases z
  · have z := fl i d gi
    rw [flat_obj z] at hd; cases hd
theorem tabs_step (t : Stp p H H1) (pk : POk p H) (h : LamX.Tabs T H) : LamX.Tabs T H1 := fun q hq => by
  have ne : ∀ (a : Addr) (o : HO), (∀ kvs, o ≠ .dK kvs) → H a = some o → p ≠ some a := fun a o n e z => by
    obtain ⟨_, _, _, _, _, _, g, _⟩ := pk a z
    rw [e] at g
    exact n _ (Option.some.inj g)
  obtain ⟨ps, h1, h2, h3⟩ := h q hq
  refine ⟨ps, t.keep _ _ (ne _ _ (fun _ z => by cases z) h1) h1, h2, fun pos cv hc => ?_⟩
  obtain ⟨c, e1, e2⟩ := h3 pos cv hc
  exact ⟨c, e1, t.keep _ _ (ne _ _ (fun _ z => by unfold LamX.CodeO at z; cases z) e2) e2⟩
/-- every way out of the law is True -/
def WL (K : PySem.W.Frag) (p : Option Addr) (T : List (Addr × Str)) (t : TS) (Γ : List Ent) : Prop :=
  ∀ σ H, Ev K p H (fun _ => none) Γ σ H → LamX.Tabs T H → ∀ D : Ends, (∀ H', D.rt (.bl true) H') → t D σ H
abbrev c0 (K : PySem.W.Frag) (p : Option Addr) : Cd := ⟨K, p, E0, fun _ => False⟩
theorem xok0 : (c0 K p).XOk H := fun _ _ _ _ h => h.elim
variable {t u : TS}
theorem wl_ws (h : WS (c0 K p) t Γ { nx := fun _ => False, rt := fun r => r = B true }) : WL K p T t Γ := fun σ H ev tb D hD =>
  h H _ σ H ev xok0 D ⟨fun _ _ _ z => z.elim, fun r v H' e _ ro => by subst e; rw [Im.blv ro.2]; exact hD H', fun _ _ _ z => z.elim, fun _ _ _ z => z.elim⟩
theorem wl_seq (h : WS (c0 K p) t Γ { nx := fun Γ' => Flat Γ' ∧ WL K p T u Γ', rt := fun r => r = B true }) : WL K p T (tSeq t u) Γ := fun σ H ev tb D hD =>
  h H _ σ H ev xok0 { D with nx := u D } ⟨fun Γ' σ' H' ⟨fl, wl⟩ e => wl σ' H' (e.root fl) (tabs_step e.stp ev.pok tb) D hD, fun r v H' e _ ro => by subst e; rw [Im.blv ro.2]; exact hD H', fun _ _ _ z => z.elim, fun _ _ _ z => z.elim⟩
/-- the pen is made -/
theorem wl_pen {te : TE} {i : Nat} (fl : Flat Γ) (hi : i < Γ.length) (h : VE (c0 K none) te Γ .pn) (k : ∀ q, WL K (some q) T u (Γ.set i .pen)) (np : ∀ j : Nat, Γ[j]? ≠ some Ent.pen) : WL K none T (tSeq (tAsg te (gName i)) u) Γ := fun σ H ev tb D hD => by
  refine h H _ σ H ev xok0 _ fun r v H1 e s1 r1 => ?_
  subst e
  obtain ⟨q, rfl, pk⟩ := r1.2
  have ev1 := ev.step s1
  refine k q (σ.set i (some (.ref q))) H1 ?_ (tabs_step s1 ev.pok tb) D hD
  have hs : i < σ.length := by
    obtain ⟨s, e, _⟩ := ev.ent i _ (List.getElem?_eq_getElem hi)
    exact (List.getElem?_eq_some_iff.mp e).1
  have flat' : ∀ (j : Nat) (e : Ent), (Γ.set i .pen)[j]? = some e → e.flat = true := fun j e g => by
    by_cases hj : i = j
    · subst hj; rw [List.getElem?_set_self hi] at g; cases g; rfl
    · rw [List.getElem?_set_ne hj] at g; exact fl j e g
  refine ⟨fun j e g => ?_, fun i' j' a d e _ gi _ hd _ _ _ => ?_, Stp.refl _ _, fun q' e => by cases e; exact pk, (fun _ _ z => by cases z), fun _ _ => rfl⟩
  · by_cases hj : i = j
    · subst hj
      rw [List.getElem?_set_self hi] at g
      cases g
      exact ⟨_, List.getElem?_set_self hs, (fun φ z => by cases z), q, rfl, rfl⟩
    · rw [List.getElem?_set_ne hj] at g
      obtain ⟨s, e1, k1⟩ := ev1.ent j e g
      refine ⟨s, by rw [List.getElem?_set_ne hj]; exact e1, ?_⟩
      have z := fl j e g
      have k2 := k1.root z
      refine ⟨k2.1, ?_⟩
      have k2 := k2.2
      cases e with
      | pen => exact absurd g (np j)
      | no => trivial
      | im d => exact k2
      | ro d => exact k2
      | _ => cases z
  · have z := flat' i' d gi
    rw [flat_obj z] at hd; cases hd
theorem takes_len {X : Cx} {W : WX} (t : Takes X W) : Takes X (fun cls d σ H => σ.length = X.N.length → W cls d σ H) := fun u s' ⟨a, B, sI, pins, σ, H, cls, d, e, I, nb, up, sky, na, os, ag, w⟩ =>
  t u s' ⟨a, B, sI, pins, σ, H, cls, d, e, I, nb, up, sky, na, os, ag, w I.len⟩
theorem WS.run {c : Cd} {P : Ps} {D : Ends} (h : WS c t Γ P) (ev : Ev c.K c.p H0 F Γ σ H) (x : c.XOk H0) (d : PsOk c H0 F P D) : t D σ H := h H0 F σ H ev x D d
/-- what _law_fault makes of the lambda's reading -/
def EFault {α : Type} (K : PySem.W.Frag) (C : ConE α) (kd : α → PyData) (Q : VK) : XK := fun cls d H' => ∃ (p : Option Addr) (a : α) (dd : Addr), cls = .ref (C.cl a) ∧ d = some dd ∧ POk p H' ∧ ExAt K H' dd (C.fs a) ∧ C.pre a ∧ ∀ v H'', Stp p H' H'' → Im K H'' v (kd a) → Q v H''
def TFault {α : Type} (K : PySem.W.Frag) (C : ConE α) (kd : α → PyData) : (XK → Hp → VK → Prop) → Hp → VK → Prop := fun tl H Q => ∀ Qn : VK, (∀ v H', Q .non H' → Qn v H') → tl (EFault K C kd Q) H Qn
theorem eqv_same {d : PyData} (h : SeqAt.shaped d = true) : PyData.eqv d d = true := by
  have := SeqAt.canLay_of_shaped h
  exact SeqAt.eqv_refl d this
theorem wl_fault {α : Type} {C : ConE α} {kd : α → PyData} {tl : XK → TE} {td : TE} (a : α) (fl : Flat Γ) (hb : ∀ E, WE ⟨K, p, E, fun e => e = (C.cl a, C.fs a)⟩ (tl E) Γ (fun _ => False)) (pre : C.pre a)
    (hd : VE (c0 K p) td Γ (.im (kd a))) (sh : SeqAt.shaped (kd a) = true) (hn : WL K p T u Γ) : WL K p T (tSeq (tIfS (tTest (tOp (rNeD K) (LamX.tLam T (TFault K C kd) tl) td)) (tRet (tC (.bl false))) tNext) u) Γ := fun σ H ev tb D hD => by
  refine ⟨tb, fun H1 ext tb1 Qn _ => ?_⟩
  have ev1 := ev.ext ext fl
  refine hb _ H1 _ σ H1 ev1 ?_ _ fun r v H' z => z.elim
  rintro e cls d H2 rfl st ⟨rfl, dd, fs, rfl, hdd, hk, hm⟩
  have ev2 := ev1.step st
  refine ⟨p, a, dd, rfl, rfl, ev2.pok, ⟨fs, hdd, hk, hm⟩, pre, fun v H3 s3 mv => ?_⟩
  have ev3 := ev2.step s3
  refine hd H1 _ σ H3 ev3 xok0 _ fun r y H4 e s4 r4 => ?_
  subst e
  have ev4 := ev3.step s4
  refine ⟨kd a, kd a, Im.dp (mv.tupS (s4.tup ev3.pok)), Im.dp r4.2, sh, sh, ?_⟩
  refine ⟨_, rfl, ?_⟩
  rw [eqv_same sh]
  show tNext _ _ _
  exact hn σ H4 (ev4.root fl) (tabs_step ev4.stp ev1.pok tb1) D hD
end
end DL

namespace DL
open PySem PySem.Spec PyProof.Rows L2
/-! ## the end: the law is run once, from the caller -/
/-- what is tracked at the law's entry: the empty tables ts and, where lone holds, the script at a -/
def HpL (ts : List Addr) (lone : Bool) (a : Addr) (scr : HO) : Hp := fun b => if b ∈ ts then some (.tbl #[]) else if lone = true ∧ b = a then some scr else none
theorem HpL.tb {ts : List Addr} {lone : Bool} {a b : Addr} {scr : HO} (h : b ∈ ts) : HpL ts lone a scr b = some (.tbl #[]) := if_pos h
theorem HpL.inv {ts : List Addr} {lone : Bool} {a b : Addr} {scr u : HO} (h : HpL ts lone a scr b = some u) : (b ∈ ts ∧ u = .tbl #[]) ∨ (b ∉ ts ∧ lone = true ∧ b = a ∧ u = scr) := by
  unfold HpL at h
  split at h
  · rename_i q; exact .inl ⟨q, (Option.some.inj h).symm⟩
  · rename_i q
    split at h
    · rename_i z; exact .inr ⟨q, z.1, z.2, (Option.some.inj h).symm⟩
    · cases h
/-- the law's own run -/
structure LawRun (P : Program) (w : World) (K : PySem.W.Frag) (mg : Str → Option Value) (cs : List (Addr × Addr)) (fa a : Addr) (ns : List Int) (s : Shared) : Prop where
  go : ∀ (base : Heap) (H : Hp), K.In base → base.Ns mainGlobals mg → (∀ q ∈ cs, LamX.TabB base mg q.1 q.2) → (∀ q ∈ cs, H q.2 = some (.tbl #[])) → SqL K H a (ns.map V.int) → Env0 P w K mg base callerA [] s H →
    codeAny (model P w) callerA (.call (.ref fa) ⟨[.ref a], []⟩) (CR CX0 [] P w H s (fun v _ => v = .bl true) E0) s
theorem law_goes {P : Program} {w : World} {K : PySem.W.Frag} {mg mb : Str → Option Value} {fa a : Addr} {cs : List (Addr × Addr)} {s : Shared} {vs : List Value} {ns : List Int}
    (inK : K.In s.heap) (glob : s.heap.Ns mainGlobals mg) (bltn : s.heap.Ns builtinsNs mb) (bltn2 : ∀ x : Str, x ≠ "__name__" → mb x = bootBuiltins x) (nolim : s.heap.NoLimit) (nogen : s.gens = #[])
    (tabs : ∀ q ∈ cs, s.heap.get? q.2 = some { cls := .none, data := .fields #[] }) (tabsK : ∀ q ∈ cs, K.lookup q.2 = none) (heads : ∀ q ∈ cs, PySem.W.CodeHd s.heap q.1 q.2)
    (bmod : ∃ (bm : Addr) (ob : Obj), mg "__builtins__" = some (.ref bm) ∧ bm ≠ builtinsNs ∧ s.heap.get? bm = some ob ∧ ob.cls = .type "module" ∧ ob.dict = some builtinsNs ∧ ob.data = .plain)
    (scr : s.heap.get? a = some { cls := .type "list", data := .seq vs.toArray }) (hints : IntsAre vs ns) (len : ns.length ≤ sizeLine) (F : LawRun P w K mg cs fa a ns s) :
    codeAny (model P w) callerA (.call (.ref fa) ⟨[.ref a], []⟩) (fun r s' => r = .ok (.ret (.bool true)) ∧ OldK s.heap s'.heap ∧ s'.os = s.os ∧ AllBare s'.gens) s := by
  have vals := vals_ints hints
  have lenV := hints.length
  let ts : List Addr := cs.map (·.2)
  have tsT : ∀ b, b ∈ ts → s.heap.get? b = some { cls := .none, data := .fields #[] } := fun b hb => by
    obtain ⟨q, hq, e⟩ := List.mem_map.mp hb
    subst e
    exact tabs q hq
  have aT : a ∉ ts := fun z => by
    have e := (tsT a z).symm.trans scr
    have e := congrArg (fun o : Option Obj => match o with | some ⟨_, _, .fields _, _⟩ => true | _ => false) e
    cases e
  let so : HO := .frz { cls := .type "list", data := .seq vs.toArray } (.lst (ns.map V.int))
  let lone : Bool := (K.lookup a).isNone
  let H : Hp := HpL ts lone a so
  have lst : SqL K H a (ns.map V.int) := by
    cases e : K.lookup a with
    | none =>
      refine .inl (.inr ⟨{ cls := .type "list", data := .seq vs.toArray }, ?_⟩)
      show HpL ts lone a so a = some so
      unfold HpL
      rw [if_neg aT, if_pos ⟨(by show (K.lookup a).isNone = true; rw [e]; rfl), rfl⟩]
    | some o =>
      have z := inK a o e
      rw [scr] at z
      cases z
      exact .inr ⟨_, vs.toArray, _, e, rfl, rfl, rfl, (by rw [List.size_toArray, lenV]; exact len), (by simpa using vals)⟩
  have hok : HOk P w H s.heap := fun b u e => by
    rcases HpL.inv e with ⟨hb, hu⟩ | ⟨_, _, hb, hu⟩
    · subst hu; exact tsT b hb
    · subst hb; subst hu
      exact ⟨scr, (by rw [List.length_map]; exact len), vs, _, vals, scr⟩
  -- what is no table and no script is not tracked
  have free : ∀ {b : Addr} {o : Obj}, s.heap.get? b = some o → (∀ f, o.data = .fields f → f ≠ #[]) → (b = a → lone = false) → H b = none := fun {b o} e h1 h2 => by
    cases q : H b with
    | none => rfl
    | some u =>
      rcases HpL.inv q with ⟨hb, _⟩ | ⟨_, hl, hb, _⟩
      · have z := (tsT b hb).symm.trans e
        cases z
        exact absurd rfl (h1 _ rfl)
      · rw [h2 hb] at hl; cases hl
  have notA : ∀ {b : Addr} {o : Obj}, s.heap.get? b = some o → (∀ us n, o.data ≠ .seq us n) → b = a → lone = false := fun {b o} e h z => by
    subst z
    rw [scr] at e
    cases e
    exact absurd rfl (h _ _)
  have keepNs : ∀ {b : Addr} {m : Str → Option Value}, s.heap.Ns b m → (hidT s.heap H).Ns b m := fun {b m} ⟨o, es, ep, e, d, r⟩ =>
    ⟨o, es, ep, hidT_get e (free e (fun f z => by rw [d] at z; cases z) (notA e fun us n z => by rw [d] at z; cases z)), d, r⟩
  have keepK : K.In (hidT s.heap H) := fun b o e => hidT_get (inK b o e) (by
    cases q : H b with
    | none => rfl
    | some u =>
      rcases HpL.inv q with ⟨hb, _⟩ | ⟨_, hl, hb, _⟩
      · obtain ⟨q', hq', e'⟩ := List.mem_map.mp hb
        have e' : q'.2 = b := e'
        rw [← e', tabsK q' hq'] at e
        cases e
      · subst hb
        have hl : (K.lookup b).isNone = true := hl
        rw [e] at hl
        cases hl)
  have mod : L2.Mod K mg (hidT s.heap H) := ⟨keepK, keepNs glob, ⟨mb, keepNs bltn, bltn2⟩, let ⟨mc, h1, h2⟩ := nolim; ⟨mc, keepNs h1, h2⟩⟩
  have tb : ∀ q ∈ cs, LamX.TabB (hidT s.heap H) mg q.1 q.2 := fun q hq => by
    refine ⟨?_, ?_, fun z => ?_⟩
    · obtain ⟨o, us, file, tf, flags, tg, inF, text, tt, e1, r1, r2, r3, more⟩ := heads q hq
      refine ⟨o, us, file, tf, flags, tg, inF, text, tt, hidT_get e1 (free e1 (fun f z z' => ?_) (notA e1 fun us n z => ?_)), r1, r2, r3, more⟩
      · rw [r2] at z
        cases z
        rw [z'] at r3
        simp at r3
      · rw [r2] at z
        cases z
    · obtain ⟨bm, ob, b1, b2, b3, b4, b5, b6⟩ := bmod
      refine ⟨bm, ob, b1, b2, fun z => ?_, fun z => ?_, hidT_get b3 (free b3 (fun f z => ?_) (notA b3 fun us n z => ?_)), b4, b5, b6⟩
      · obtain ⟨o, es, ep, e, hd, _⟩ := glob
        rw [z] at b3
        rw [b3] at e
        cases e
        rw [b6] at hd
        cases hd
      · rw [z, tabs q hq] at b3
        cases b3
        cases b6
      · rw [b6] at z; cases z
      · rw [b6] at z; cases z
    · obtain ⟨o, es, ep, e, hd, _⟩ := glob
      have z : mainGlobals = q.2 := z
      rw [z, tabs q hq] at e
      cases e
      cases hd
  have env : Env0 P w K mg (hidT s.heap H) callerA [] s H := ⟨rfl, mod, fun b o e => of_hidT e, Nat.le_of_eq (hidT_size _ _), trivial, (fun b hb => by cases hb), hok, .of_eq nogen⟩
  refine codeAny_mono (F.go _ H keepK (keepNs glob) tb (fun q hq => HpL.tb (List.mem_map.mpr ⟨q, hq, rfl⟩)) lst env) fun r s' h => ?_
  cases r with
  | error e => exact (show False from h).elim
  | ok fl =>
    cases fl with
    | next => exact (show False from h).elim
    | brk => exact (show False from h).elim
    | cont => exact (show False from h).elim
    | ret u =>
      obtain ⟨v, H', os, bare, un, hok', rv, hv⟩ := h
      have hv : v = .bl true := hv
      subst hv
      have ru : u = Value.bool true := rv
      subst ru
      -- all but the tables stands as it stood
      have still : ∀ b o, b ∉ ts → s.heap.get? b = some o → s'.heap.get? b = some o := fun b o nb e => by
        cases q : H b with
        | none => exact un.keep b o e q (fun z => by cases z) (fun z => by cases z)
        | some u =>
          rcases HpL.inv q with ⟨hb, _⟩ | ⟨_, _, hb, hu⟩
          · exact absurd hb nb
          · subst hb; subst hu
            obtain ⟨e1, _⟩ := hok b _ q
            obtain ⟨e2, _⟩ := hok' b _ (un.frzs b _ _ q)
            rw [e] at e1
            cases e1
            exact e2
      have more : ∀ q ∈ cs, ∃ us : Array Value, s'.heap.get? q.2 = some { cls := .none, data := .fields us } := fun q hq => by
        obtain ⟨us, z⟩ := un.tbls q.2 #[] (HpL.tb (List.mem_map.mpr ⟨q, hq, rfl⟩))
        exact ⟨_, hok' q.2 _ z⟩
      refine ⟨rfl, ⟨fun b o e => ?_, fun b o e => ?_⟩, os, bare⟩
      · by_cases hb : b ∈ ts
        · obtain ⟨q, hq, eb⟩ := List.mem_map.mp hb
          have eb : q.2 = b := eb
          subst eb
          obtain ⟨us, hus⟩ := more q hq
          have eo := (tabs q hq).symm.trans e
          cases eo
          exact .inr (.inl ⟨((heads q hq).tab (tabs q hq)).isCodeTable, rfl, #[], us, rfl, by rw [Array.empty_append]; exact hus⟩)
        · exact .inl (still b o hb e)
      · by_cases hb : b ∈ ts
        · obtain ⟨q, hq, eb⟩ := List.mem_map.mp hb
          have eb : q.2 = b := eb
          subst eb
          obtain ⟨us, hus⟩ := more q hq
          exact ⟨_, hus⟩
        · exact ⟨o, still b o hb e⟩
theorem walk_goes {l : PySem.W.OpenLaw} {n : Nat} {q : Program} {loose : List Str} {XP : (Str → Option Value) → Heap → Prop} {YP : World → Heap → Prop} {d : DefRec} {K : Params → PySem.W.Frag}
    (hn : l.most = some n) (hn2 : n ≤ sizeLine) (hdf : d.params.defaults = []) (hY : ∀ (w : World) (h : Heap), YP w h → (K w.params).In h)
    (F : ∀ (w : World) (mg : Str → Option Value) (fa : Addr) (h : Heap), YP w h → (K w.params).In h → h.Ns mainGlobals mg → mg d.name = some (.ref fa) →
      ∃ cs : List (Addr × Addr), (∀ q ∈ cs, h.get? q.2 = some { cls := .none, data := .fields #[] }) ∧ (∀ q ∈ cs, (K w.params).lookup q.2 = none) ∧ (∀ q ∈ cs, PySem.W.CodeHd h q.1 q.2) ∧
        ∀ (s : Shared) (a : Addr) (ns : List Int), ns.length ≤ n → (∀ z ∈ ns, Builtin.Int.intBits z ≤ 1048576) → LawRun l.prog w (K w.params) mg cs fa a ns s) :
    PySem.W.WalkO q loose XP YP l.row.toRowW d [] (fun f vs => PySem.call f vs) := by
  refine Att.attach_callB hn hdf fun w s₀ s mg mb fa o pm cd doc a vs ns G Y ho hd hcd hmg hobj hints hlen hbits hg => ?_
  have inK := hY w _ Y
  obtain ⟨cs, h1, h2, h3, h4⟩ := F w mg fa _ Y inK G.T.g hmg
  exact law_goes inK G.T.g G.T.b G.T.builtins G.T.nolimit hg h1 h2 h3 G.T.bmain hobj hints (Nat.le_trans hlen hn2) (h4 s a ns hlen hbits)
end DL

namespace DL
open PySem L2
section
variable {c : Cd} {ta tb tc : TE} {Γ : List Ent} {ra rb rc : Ent}
/-! ## more of values -/
theorem o_eqB {i j : Bool} : Op2 c rEq (B i) (B j) (B (decide (i = j))) := ⟨fun x y H H' _ s a b Q' q => by
  have a := Im.blv a.2
  have b := Im.blv b.2
  subst a b
  refine ⟨rfl, ?_⟩
  have := q _ H' (Stp.refl _ _) (res_im.2 (.bl (decide (i = j))))
  rw [show decide (V.bl i = V.bl j) = decide (i = j) by simp]
  exact this⟩
theorem o_neB {i j : Bool} : Op2 c rNe (B i) (B j) (B (!decide (i = j))) := ⟨fun x y H H' _ s a b Q' q => by
  have a := Im.blv a.2
  have b := Im.blv b.2
  subst a b
  refine ⟨rfl, ?_⟩
  have := q _ H' (Stp.refl _ _) (res_im.2 (.bl (!decide (i = j))))
  rw [show decide (V.bl i = V.bl j) = decide (i = j) by simp]
  exact this⟩
/-- a op b op' c -/
theorem v_chain {r r' : R2} {k1 k2 : Bool} (o1 : Op2 c r ra rb (B k1)) (o2 : k1 = true → Op2 c r' rb rc (B k2)) (ha : VE c ta Γ ra) (hb : VE c tb Γ rb) (hc : VE c tc Γ rc) : VE c (tChain r r' ta tb tc) Γ (B (k1 && k2)) := fun H0 F σ H ev x Q' q => by
  refine ha H0 F σ H ev x _ fun a va H1 e1 s1 r1 => ?_
  subst e1
  refine hb H0 F σ H1 (ev.step s1) x _ fun b vb H2 e2 s2 r2 => ?_
  subst e2
  have pk := ev.pok
  have pk1 := pk.step s1
  refine o1.run va vb H H2 pk (s1.trans s2) (r1.step s2 pk pk1) (r2.back s1 pk) _ fun z H3 s3 r3 => ?_
  have z1 := Im.blv r3.2
  subst z1
  refine ⟨k1, rfl, ?_⟩
  cases hk : k1 with
  | false => exact q _ _ H3 rfl ((s1.trans s2).trans s3) (res_im.2 (by rw [hk]; exact .bl false))
  | true =>
    have ev3 := ((ev.step s1).step s2).step s3
    refine hc H0 F σ H3 ev3 x _ fun cc vc H4 e4 s4 r4 => ?_
    subst e4
    have s34 := s3.trans s4
    refine (o2 hk).run vb vc H H4 pk (((s1.trans s2).trans s3).trans s4) ((r2.back s1 pk).step s34 pk (pk.step (s1.trans s2))) (r4.back ((s1.trans s2).trans s3) pk) _ fun y H5 s5 r5 => ?_
    exact q _ y H5 rfl ((((s1.trans s2).trans s3).trans s4).trans s5) (res_im.2 (by rw [hk]; exact r5.2))
theorem n_lenN {ds : List PyData} : OpN c (rLen c.K) [.ls ds] (I ds.length) := ⟨fun xs H H' _ s a0 Q' q => by
  obtain ⟨v, rfl, a⟩ := all1 a0
  obtain ⟨ad, vs, rfl, _, g, ms⟩ := res_ls.1 a
  refine ⟨_, _, rfl, .inl (.inl (.inl g)), ?_⟩
  rw [ms.length]
  exact q _ H' (Stp.refl _ _) (res_im.2 (.int _))⟩
end
end DL

namespace DL
open PySem PySem.Spec PyProof.Rows PySem.Calls L2
/-! ## sorted of a tuple of ints -/
section
variable {prog : Program} {w : World} {A : Around} {E : Value → Shared → Prop} {s : Shared}
theorem collect_tp {t : Addr} {us : List Value} {Q : List Value → Shared → Prop} (ht : IsTup s.heap t us.toArray) (hz : us.length ≤ sizeLine)
    (q : Q us { s with heap := (s.heap.push (seqObj "list" #[] 0)).update s.heap.objs.size (Obj.mapSeq (· ++ us.toArray)) }) : wpAny (model prog w) A (collect (.ref t)) Q E s := by
  obtain ⟨ob, hob, hcl, m, hdt⟩ := id ht
  unfold collect
  refine wpAny_bind (wpAny_runValue (codeAny_builtin entry_proto_collect' ?_))
  show wpAny _ _ (do again (.builtin "list.__iadd__" ⟨[← newList [], .ref t], []⟩)) _ _ s
  refine wpAny_bind (wpAny_newList (wpAny_pure ⟨Code.quiet_builtin _ (by decide +kernel), codeAny_builtin entry_list_iadd' ?_⟩))
  show wpAny _ _ (Builtin.List.listExtendWith (.ref s.heap.objs.size) (.ref t) (.ref s.heap.objs.size)) _ _ { s with heap := s.heap.push (seqObj "list" #[] 0) }
  have hob2 : (s.heap.push (seqObj "list" #[] 0)).get? t = some ob := Heap.get?_push_of_some _ hob
  unfold Builtin.List.listExtendWith
  refine wpAny_bind (wpAny_typeOf (T := "tuple") ⟨ob, hob2, hcl⟩ ?_)
  rw [if_pos (by rw [show (Value.type "tuple" == Value.type "tuple") = true from rfl, Bool.or_true])]
  refine wpAny_bind (listItems_at hob2 hdt (wpAny_bind (listItems_at (xs := #[]) (n := 0) (Heap.get?_push_size _ rfl) rfl ?_)))
  rw [if_neg (by simp)]
  have fits : (#[] ++ us.toArray).size ≤ sizeLine + 1 := by simp only [Array.size_append, List.size_toArray, List.length_nil]; omega
  refine wpAny_bind (listUpdate_at (xs := #[]) (n := 0) (Heap.get?_push_size _ rfl) rfl (wpAny_pure ?_) (Nat.zero_le _) fits)
  show wpAny (model prog w) A (do
      let o ← load s.heap.objs.size
      match o.data with | .seq ys _ => pure ys.toList | _ => unsupported "internal:collect") Q E { s with heap := (s.heap.push (seqObj "list" #[] 0)).update s.heap.objs.size (Obj.mapSeq (· ++ us.toArray)) }
  refine wpAny_bind (wpAny_load (get?_update_seq (Heap.get?_push_size _ rfl) _) ?_)
  show wpAny _ _ (pure ((#[] : Array Value) ++ us.toArray).toList) Q E _
  have e : ((#[] : Array Value) ++ us.toArray).toList = us := by simp
  rw [e]
  exact wpAny_pure q
theorem sorted_tp {t : Addr} {us : List Value} {ns : List Int} {Q : Value → Shared → Prop} (ht : IsTup s.heap t us.toArray) (hI : IntsAre us ns) (hz : us.length ≤ sizeLine)
    (q : ∀ (out : Array Value) (ns' : List Int), IntsAre out.toList ns' → ns'.Perm ns → ns'.Pairwise (· ≤ ·) → Q (.ref (s.heap.objs.size + 1)) { s with heap := sortedAll s.heap us out }) : wpAny (model prog w) A (call (.builtin "sorted") [.ref t]) Q E s := by
  refine call_function_entry kind_sorted plain_sorted entry_sorted (args_sorted1 _) ?_
  unfold Builtin.«sorted»
  refine wpAny_bind (m := checkCount "sorted" 1 1 _) (wpAny_pure (wpAny_bind (collect_tp ht hz (wpAny_bind (wpAny_newList ?_)))))
  let h1 : Heap := (s.heap.push (seqObj "list" #[] 0)).update s.heap.objs.size (Obj.mapSeq (· ++ us.toArray))
  have z1 : h1.objs.size = s.heap.objs.size + 1 := by
    show ((s.heap.push (seqObj "list" #[] 0)).update s.heap.objs.size (Obj.mapSeq (· ++ us.toArray))).objs.size = _
    rw [Heap.size_update, size_push']
  have at1 : (h1.push (seqObj "list" us.toArray 0)).get? (s.heap.objs.size + 1) = some (seqObj "list" us.toArray 0) := by
    rw [← z1]; exact Heap.get?_push_size _ rfl
  show wpAny _ _ _ _ _ { s with heap := h1.push (seqObj "list" us.toArray 0) }
  rw [show ((s.heap.push (seqObj "list" #[] 0)).update s.heap.objs.size (Obj.mapSeq (· ++ us.toArray))).objs.size = s.heap.objs.size + 1 from z1]
  refine wpAny_bind (wpAny_holding (wpAny_call_entry slot_list_sort ⟨_, at1, rfl⟩ entry_list_sort (list_sort_treeAny at1 hI hz fun out ns' a1 a2 a3 => ⟨_, rfl, ?_⟩) (args_list_sort _)))
  exact wpAny_pure ⟨_, rfl, q out ns' a1 a2 a3⟩
end
section
variable {X : Cx}
def rSortT (K : PySem.W.Frag) : List V → Hp → VK → Prop := fun vs H Q => ∃ (a : Addr) (ns : List Int), vs = [.ref a] ∧ SqT K H a (ns.map V.int) ∧ ns.length ≤ 1000 ∧
  ∀ (ns' : List Int) (p : Addr), ns'.Perm ns → ns'.Pairwise (· ≤ ·) → H p = none → Q (.ref p) (upd H p (.lst (ns'.map V.int)))
theorem cr_sortT : CallR X (.builtin "sorted") (rSortT X.K) := by
  intro pins s σ H vs us Q I r h
  obtain ⟨a, ns, rfl, hs, hz, q⟩ := h
  obtain ⟨its, rv, p1, _⟩ := I.tuple hs
  rw [Vals.ref1 r]
  have hi := rv.ints
  have li : its.length ≤ sizeLine := by rw [hi.length, sizeLine_eq]; omega
  refine sorted_tp p1 hi li fun out ns' h1 h2 h3 => ?_
  obtain ⟨ep, he'⟩ := sortedAll_at s.heap its out
  have hlen : (ns'.map V.int).length ≤ sizeLine := by rw [List.length_map, h2.length_eq, sizeLine_eq]; omega
  refine ⟨.ref _, upd H (s.heap.objs.size + 1) (.lst (ns'.map V.int)), I.laid (t' := s.toks) (fun _ _ => sortedAll_old) (Nat.le_succ _) ⟨hlen, out.toList, ep, vals_of_ints h1, he'⟩, rfl, q ns' _ h2 h3 (I.hok.fresh (Nat.le_succ _))⟩
end
section
variable {c : Cd} {te ta tb : TE} {tA : TA} {Γ : List Ent} {Q : Ent → Prop} {P : Ps}
/-! ## more rules of the pure data -/
theorem o_catA {ds es : List PyData} (hz : ds.length + es.length ≤ 1000000) : Op2 c (rCatA c.K) (.im (.tuple ds)) (.im (.tuple es)) (.im (.tuple (ds ++ es))) := ⟨fun x y H H' hp s a b Q' q => by
  cases a.2 with
  | tup hs ms =>
    cases b.2 with
    | tup hs2 ms2 =>
      have e1 := ms.length
      have e2 := ms2.length
      refine ⟨_, _, _, _, rfl, rfl, hs, hs2, by rw [e1, e2, sizeLine_eq]; omega, fun e => ?_, fun _ e => ?_, fun _ _ p hp' => ?_⟩
      · subst e
        cases ds with
        | nil => exact q _ _ (Stp.refl _ _) (res_im.2 (.tup hs2 ms2))
        | cons d r => simp at e1
      · subst e
        cases es with
        | nil => exact q _ _ (Stp.refl _ _) (res_im.2 (by rw [List.append_nil]; exact .tup hs ms))
        | cons d r => simp at e2
      · exact q _ _ (Stp.new hp') (res_im.2 (.tup (SqT.of upd_same) ((ms.append ms2).tupS ((Stp.new hp').tup (hp.step s)))))⟩
theorem cut_whole {ds : List PyData} {lo hi : Option Int} (h : HT.sIx ds.length 0 lo = 0 ∧ HT.sIx ds.length ds.length hi = ds.length) : cutD ds lo hi = ds := by
  unfold cutD
  rw [h.1, h.2]
  simp
theorem v_slA {tl th : TO} {lo hi : Option Int} {ds : List PyData} (h : VE c te Γ (.im (.tuple ds))) (hl : WO c tl Γ lo) (hh : WO c th Γ hi) : VE c (tSl (rSlA c.K) te tl th) Γ (.im (.tuple (cutD ds lo hi))) := fun H0 F σ H ev x Q' q => by
  refine h H0 F σ H ev x _ fun r v H1 e s1 r1 => ?_
  subst e
  have ev1 := ev.step s1
  refine hl H0 F σ H1 ev1 x _ fun H2 s2 => ?_
  have ev2 := ev1.step s2
  refine hh H0 F σ H2 ev2 x _ fun H3 s3 => ?_
  have r3 : Im c.K H3 v (.tuple ds) := (Im.tupS (s2.tup ev1.pok) r1.2).tupS (s3.tup ev2.pok)
  have s123 := (s1.trans s2).trans s3
  cases r3 with
  | tup hs ms =>
    refine ⟨_, _, rfl, hs, fun hw => ?_, fun _ p hp' => ?_⟩
    · rw [ms.length] at hw
      exact q _ _ _ rfl s123 (res_im.2 (by rw [cut_whole hw]; exact .tup hs ms))
    · exact q _ _ _ rfl (s123.trans (Stp.new hp')) (res_im.2 (.tup (SqT.of upd_same) ((cut_ims ms lo hi).tupS ((Stp.new hp').tup (ev2.step s3).pok))))
theorem we_sortT {ns : List Int} (h : VA c tA Γ [.im (.tuple (ns.map PyData.int))]) (hz : ns.length ≤ 1000) (k : ∀ ns' : List Int, ns'.Perm ns → ns'.Pairwise (· ≤ ·) → Q (.ls (ns'.map PyData.int))) : WE c (tCB (rSortT c.K) tA) Γ Q := fun H0 F σ H ev x Q' q => by
  refine h H0 F σ H ev x _ fun rs vs H1 e s1 r1 => ?_
  subst e
  obtain ⟨v, rfl, a⟩ := all1 r1
  have a2 := a.2
  generalize hd : PyData.tuple (ns.map PyData.int) = d at a2
  cases a2 with
  | tup hs ms =>
    cases hd
    have e := Ims.ints ms
    subst e
    refine ⟨_, ns, rfl, hs, hz, fun ns' p h1 h2 hp => ?_⟩
    exact q _ _ _ (k ns' h1 h2) (s1.trans (Stp.new hp)) (res_ls.2 ⟨p, _, rfl, s1.back ev.pok hp, upd_same, Ims.of_ints ns'⟩)
  | _ => cases hd
theorem tpG {H : Hp} {l : Addr} {us us' : List V} (g : H l = some (.lst us)) : Tup H (upd H l (.lst us')) := by
  constructor
  · intro c ys h
    rw [upd_ne]
    · exact h
    · intro z; rw [z, g] at h; cases h
  · intro c ob u h
    rw [upd_ne]
    · exact h
    · intro z; rw [z, g] at h; cases h
/-- found.append(left.pop(e)) -/
theorem ws_appPop {i j : Nat} {ds es : List PyData} (hg : Γ[i]? = some (.ls ds)) (hj : Γ[j]? = some (.ls es)) (hij : i ≠ j) (hz : ds.length < 1000000) (he : es.length < 1000000)
    (h : WE c te Γ fun r => ∃ k : Nat, r = I k ∧ ∃ d, es[k]? = some d ∧ P.nx ((Γ.set j (.ls (es.eraseIdx k))).set i (.ls (ds ++ [d])))) :
    WS c (tDrop (tBM c.K "list" rAppend (tVar i) (tCons (tBM c.K "list" rPopAt (tVar j) (tCons te tNil)) tNil))) Γ P := fun H0 F σ H ev x D dd => by
  obtain ⟨si, hsi, k1, _⟩ := ev.ent i _ hg
  obtain ⟨a, oa, ea, _, na, fa, ga, va, rfl, ma⟩ := k1 _ rfl
  subst ea
  obtain ⟨sj, hsj, k2, _⟩ := ev.ent j _ hj
  obtain ⟨b, ob, eb, _, nb, fb, gb, vb, rfl, mb⟩ := k2 _ rfl
  subst eb
  refine ⟨_, hsi, .inl ⟨rfl, _, .inl (.inl ga)⟩, _, hsj, .inl ⟨rfl, _, .inl (.inl gb)⟩, ?_⟩
  refine h H0 F σ H ev x _ fun r v H1 ⟨k, er, d, hd, nx⟩ s1 r1 => ?_
  subst er
  have hv := Im.intv r1.2
  subst hv
  have ev1 := ev.step s1
  have gb1 : H1 b = some (.lst vb) := s1.keep b _ (ev.pok0.ne0 nb) gb
  have ga1 : H1 a = some (.lst va) := s1.keep a _ (ev.pok0.ne0 na) ga
  have mb1 := mb.tupS (s1.tup ev.pok)
  obtain ⟨y, hy, my⟩ := mb1.get hd
  have hk : k < vb.length := (List.getElem?_eq_some_iff.mp hy).1
  have hix : ixN vb.length (k : Int) = some k := by unfold ixN; rw [if_pos (by omega), if_pos (by omega)]; congr 1
  have lb : vb.length < 1000000 := by rw [mb.length]; exact he
  have nab : a ≠ b := fun z => ev.sep i j a _ _ hij hg hj rfl rfl hsi (by rw [hsj, z])
  refine ⟨b, vb, (k : Int), k, y, rfl, rfl, gb1, by omega, by omega, (ixN_seq hix).1, hy, ?_⟩
  have ev2 := ev1.mutate (e := .ls es) (e' := .ls (es.eraseIdx k)) (o' := .lst (vb.eraseIdx k)) hj hsj rfl trivial gb1 ⟨(fun _ z => by cases z), (fun _ _ z => by cases z)⟩ rfl trivial (by intro z; cases z) ⟨_, rfl, (mb1.tupS (tpG gb1)).erase k⟩
  have ga2 : upd H1 b (.lst (vb.eraseIdx k)) a = some (.lst va) := by rw [upd_ne nab]; exact ga1
  have hg2 : (Γ.set j (.ls (es.eraseIdx k)))[i]? = some (.ls ds) := by rw [List.getElem?_set_ne (Ne.symm hij)]; exact hg
  refine ⟨a, va, y, rfl, rfl, ga2, by rw [ma.length, sizeLine_eq]; omega, dd.nx _ _ _ nx ?_⟩
  have t1 := tpG (us' := vb.eraseIdx k) gb1
  have t2 := tpG (us' := va ++ [y]) ga2
  exact ev2.mutate (e := .ls ds) (e' := .ls (ds ++ [d])) hg2 hsi rfl trivial ga2 ⟨(fun _ z => by cases z), (fun _ _ z => by cases z)⟩ rfl trivial (by intro z; cases z) ⟨_, rfl, (((ma.tupS (s1.tup ev.pok)).tupS t1).tupS t2).append (.cons ((my.tupS t1).tupS t2) .nil)⟩
end
end DL

namespace DL
open PySem PySem.Spec PyProof.Rows L2
/-! ## a chain of four comparisons, is not True -/
def tLink (r : R2) (t : TE) (more : V → TE) : V → TE := fun x σ H Q => t σ H fun y H1 => r x y H1 fun z H2 => ∃ k, z = .bl k ∧ if k = true then more y σ H2 Q else Q (.bl false) H2
def tLast (r : R2) (t : TE) : V → TE := fun x σ H Q => t σ H fun y H1 => r x y H1 Q
def tCh4 (r1 r2 r3 r4 : R2) (ta tb tc td te : TE) : TE := fun σ H Q => ta σ H fun x H1 => tLink r1 tb (tLink r2 tc (tLink r3 td (tLast r4 te))) x σ H1 Q
def rNotD : R2 := fun x y H Q => ∃ b : Bool, y = .bl b ∧ Q (.bl (!decide (x = .bl b))) H
section
variable {X : Cx}
theorem op_notD : OpR X (compareOp .IsNot) rNotD := by
  intro pins s σ H x y v u Q I rx ry h
  obtain ⟨b, rfl, q⟩ := h
  cases (show u = Value.bool b from ry)
  cases x with
  | bl a =>
    cases (show v = Value.bool a from rx)
    by_cases e : a = b
    · subst e
      exact wpAny_isNot_self rfl ⟨.bl false, H, I, rfl, by simpa using q⟩
    · exact wpAny_isNot_other rfl (fun z => e (Value.bool.inj z)) ⟨.bl true, H, I, rfl, by simpa [e] using q⟩
  | non => cases rx; exact wpAny_isNot_other rfl (fun z => by cases z) ⟨.bl true, H, I, rfl, by simpa using q⟩
  | int i => obtain ⟨t, rfl⟩ := rx; exact wpAny_isNot_other rfl (fun z => by cases z) ⟨.bl true, H, I, rfl, by simpa using q⟩
  | str i => obtain ⟨t, rfl⟩ := rx; exact wpAny_isNot_other rfl (fun z => by cases z) ⟨.bl true, H, I, rfl, by simpa using q⟩
  | byt i => obtain ⟨t, rfl⟩ := rx; exact wpAny_isNot_other rfl (fun z => by cases z) ⟨.bl true, H, I, rfl, by simpa using q⟩
  | flt i => obtain ⟨t, rfl⟩ := rx; exact wpAny_isNot_other rfl (fun z => by cases z) ⟨.bl true, H, I, rfl, by simpa using q⟩
  | ref a => cases rx; exact wpAny_isNot_other rfl (fun z => by cases z) ⟨.bl true, H, I, rfl, by simpa using q⟩
  | ty a => cases rx; exact wpAny_isNot_other rfl (fun z => by cases z) ⟨.bl true, H, I, rfl, by simpa using q⟩
variable {a b c d e : Expr} {ta tb tc td te : TE} {pos : Pos} {o1 o2 o3 o4 : CmpOp} {r1 r2 r3 r4 : R2}
theorem pe_ch4 (h1 : OpR X (compareOp o1) r1) (h2 : OpR X (compareOp o2) r2) (h3 : OpR X (compareOp o3) r3) (h4 : OpR X (compareOp o4) r4) (ha : PE X a ta) (hb : PE X b tb) (hc : PE X c tc) (hd : PE X d td) (he : PE X e te)
    (hm : lastMarks [o1, o2, o3, o4] [b, c, d, e] = false := by with_unfolding_all rfl) : PE X (.Compare a [o1, o2, o3, o4] [b, c, d, e] pos) (tCh4 r1 r2 r3 r4 ta tb tc td te) := by
  constructor
  intro pins s σ H Q I h
  refine Compare_chain (thn (ha.run pins s σ H _ I h) fun va s1 ⟨xa, G1, J1, ra, g1⟩ => ?_) hm
  refine chain_link (thn (hb.run pins s1 σ G1 _ J1 g1) fun vb s2 ⟨xb, G2, J2, rb, g2⟩ => thn (h1 pins s2 σ G2 xa xb va vb _ J2 ra rb g2) fun u3 s3 ⟨z3, G3, J3, r3', k3, e3, g3⟩ => ?_)
  subst e3
  cases r3'
  refine wpAny_truthy_bool ?_
  cases k3 with
  | false => exact ite_ff ⟨.bl false, G3, J3, rfl, g3⟩
  | true =>
    refine ite_tt (chain_link (thn (hc.run pins s3 σ G3 _ J3 g3) fun vc s4 ⟨xc, G4, J4, rc, g4⟩ => thn (h2 pins s4 σ G4 xb xc vb vc _ J4 rb rc g4) fun u5 s5 ⟨z5, G5, J5, r5', k5, e5, g5⟩ => ?_))
    subst e5
    cases r5'
    refine wpAny_truthy_bool ?_
    cases k5 with
    | false => exact ite_ff ⟨.bl false, G5, J5, rfl, g5⟩
    | true =>
      refine ite_tt (chain_link (thn (hd.run pins s5 σ G5 _ J5 g5) fun vd s6 ⟨xd, G6, J6, rd, g6⟩ => thn (h3 pins s6 σ G6 xc xd vc vd _ J6 rc rd g6) fun u7 s7 ⟨z7, G7, J7, r7', k7, e7, g7⟩ => ?_))
      subst e7
      cases r7'
      refine wpAny_truthy_bool ?_
      cases k7 with
      | false => exact ite_ff ⟨.bl false, G7, J7, rfl, g7⟩
      | true => exact ite_tt (chain_last (thn (he.run pins s7 σ G7 _ J7 g7) fun ve s8 ⟨xe, G8, J8, re, g8⟩ => h4 pins s8 σ G8 xd xe vd ve Q J8 rd re g8))
end
section
variable {c : Cd} {ta tb tc td te : TE} {tA : TA} {Γ : List Ent} {Q : Ent → Prop}
theorem o_notD {d : PyData} {b : Bool} : Op2 c rNotD (.im d) (B b) (B (!isBo b d)) := ⟨fun x y H H' _ s a k Q' q => by
  have k := Im.blv k.2
  subst k
  refine ⟨b, rfl, ?_⟩
  have e : decide (x = V.bl b) = isBo b d := by
    have a := a.2
    cases a <;> simp [isBo]
  rw [e]
  exact q _ H' (Stp.refl _ _) (res_im.2 (.bl _))⟩
/-- a chain over ints, behind the first -/
def VL (c : Cd) (Γ : List Ent) (m : V → TE) (i : Int) (k : Bool) : Prop := VE c (m (.int i)) Γ (B k)
theorem l_last {r : R2} {i j : Int} {k : Bool} (o : Op2 c r (I i) (I j) (B k)) (h : VE c te Γ (I j)) : VL c Γ (tLast r te) i k := fun H0 F σ H ev x Q' q => by
  refine h H0 F σ H ev x _ fun b vb H1 e s1 r1 => ?_
  subst e
  exact o.run (.int i) vb H H1 ev.pok s1 (res_im.2 (.int i)) r1 _ fun v H2 s2 r2 => q _ v H2 rfl (s1.trans s2) (r2.back s1 ev.pok)
theorem l_link {r : R2} {m : V → TE} {i j : Int} {k k2 : Bool} (o : Op2 c r (I i) (I j) (B k)) (h : VE c te Γ (I j)) (n : k = true → VL c Γ m j k2) : VL c Γ (tLink r te m) i (k && k2) := fun H0 F σ H ev x Q' q => by
  refine h H0 F σ H ev x _ fun b vb H1 e s1 r1 => ?_
  subst e
  have hb := Im.intv r1.2
  subst hb
  refine o.run (.int i) (.int j) H H1 ev.pok s1 (res_im.2 (.int i)) r1 _ fun v H2 s2 r2 => ?_
  have hv := Im.blv r2.2
  subst hv
  refine ⟨k, rfl, ?_⟩
  have s12 := s1.trans s2
  cases hk : k with
  | false => exact q _ _ H2 rfl s12 (res_im.2 (by rw [hk]; exact .bl false))
  | true =>
    refine n hk H0 F σ H2 (ev.step s12) x _ fun r v H3 e s3 r3 => ?_
    subst e
    exact q _ v H3 rfl (s12.trans s3) (res_im.2 (by rw [hk]; exact r3.2))
theorem v_ch4 {r1 r2 r3 r4 : R2} {i : Int} {k : Bool} (ha : VE c ta Γ (I i)) (h : VL c Γ (tLink r1 tb (tLink r2 tc (tLink r3 td (tLast r4 te)))) i k) : VE c (tCh4 r1 r2 r3 r4 ta tb tc td te) Γ (B k) := fun H0 F σ H ev x Q' q => by
  refine ha H0 F σ H ev x _ fun b vb H1 e s1 r1 => ?_
  subst e
  have hb := Im.intv r1.2
  subst hb
  refine h H0 F σ H1 (ev.step s1) x _ fun r v H2 e s2 r2 => ?_
  subst e
  exact q _ v H2 rfl (s1.trans s2) (res_im.2 r2.2)
theorem n_gcd {i j : Int} : OpN c rGcd [I i, I j] (I (Int.gcd i j)) := ⟨fun xs H H' _ s a0 Q' q => by
  obtain ⟨v, w, rfl, a, b⟩ := all2 a0
  have a := Im.intv a.2
  have b := Im.intv b.2
  subst a b
  exact ⟨i, j, rfl, q _ H' (Stp.refl _ _) (res_im.2 (.int _))⟩⟩
/-! ## shapes -/
theorem lay_ints : ∀ l : List Int, PyData.canLayAll0 (l.map PyData.int) = true
  | [] => rfl
  | i :: l => by
    show (PyData.canLay0 (.int i) && PyData.canLayAll0 (l.map PyData.int)) = true
    rw [lay_ints l]; rfl
theorem dep_ints : ∀ l : List Int, PyData.depthAll (l.map PyData.int) = 0
  | [] => rfl
  | i :: l => by
    show max (PyData.depth (.int i)) (PyData.depthAll (l.map PyData.int)) = 0
    rw [dep_ints l]; rfl
theorem shaped_ints (l : List Int) : SeqAt.shaped (.list (l.map PyData.int)) = true := by
  show (PyData.canLayAll0 (l.map PyData.int) && decide (PyData.depthAll (l.map PyData.int) + 1 ≤ 64)) = true
  rw [lay_ints, dep_ints]; rfl
theorem shaped_intsT (l : List Int) : SeqAt.shaped (.tuple (l.map PyData.int)) = true := by
  show (PyData.canLayAll0 (l.map PyData.int) && decide (PyData.depthAll (l.map PyData.int) + 1 ≤ 64)) = true
  rw [lay_ints, dep_ints]; rfl
theorem eqv_listnil (ds : List PyData) : PyData.eqv (.list ds) (.list []) = decide (ds = []) := by
  cases ds <;> simp [PyData.eqv, PyData.eqvAll]
/-- [elt for name in iter], the elements told by a property alone -/
theorem we_lcn {wi : TI} {j : Nat} {ds : List PyData} (hw : VI c wi Γ ds) (Pe : PyData → Prop) (hz : ds.length ≤ 1000000) (hj : j < Γ.length)
    (he : ∀ d ∈ ds, WE { c with E := fun _ _ _ => False, X := fun _ => False } te (Γ.set j (.im d)) fun r => ∃ e, r = .im e ∧ Pe e) (k : ∀ es : List PyData, es.length = ds.length → (∀ e ∈ es, Pe e) → Q (.ls es)) : WE c (tLc wi (gName j) tYes te [j]) Γ Q := fun H0 F σ H ev x Q' q => by
  refine hw H0 F σ H ev x _ fun J H1 ds' l e s1 hl ⟨G, Y, w, hG, hY⟩ D hD => ?_
  subst e
  have ev1 := ev.step s1
  have pk1 := ev1.pok
  obtain ⟨evF, ext⟩ := ev1.reframe (l := l) (fun b hb => (hl b hb).2) (fun b hb i e ge ho hσ => by
    obtain ⟨φ, hφ⟩ := Option.isSome_iff_exists.mp ho
    obtain ⟨s, e1, k1, _⟩ := ev.ent i e ge
    obtain ⟨a, o, e2, _, _, _, g', _⟩ := k1 φ hφ
    rw [hσ] at e1
    have e1 := Option.some.inj e1
    rw [e2] at e1; cases e1
    rw [(hl _ hb).1] at g'; cases g')
  refine lc_it w (fun i H' => ∃ vs es, H' D = some (.lst vs) ∧ Ims c.K H' vs es ∧ es.length = i ∧ (∀ e ∈ es, Pe e) ∧ (∀ a o, Fr2 F H1 l a = some o → H' a = some o) ∧ Stp c.p H1 H') ⟨[], [], upd_same, .nil, rfl, (fun _ h => by cases h), fun a o e => ?_, Stp.new hD⟩ (fun i H' _ ⟨vs, _, _, _, _, _, fr, s2⟩ => hG H' fr (ev1.stp.trans s2)) (fun i v H' H'' hi ⟨vs, es, hv, mv, le, pe, fr, s2⟩ y => ?_) (fun H' ⟨vs, es, hv, mv, le, pe, fr, s2⟩ => ?_)
  · have := evF.frm a o e
    rw [upd_ne (ne_of_none this hD)]; exact this
  · obtain ⟨s3, d, hd, md⟩ := hY i v H' H'' hi fr (ev1.stp.trans s2) y
    have ev2 := (wipe_ev (k := j) ((ev1.step s2).step s3)).setG (i := j) (e := .im d) (v := v) (by rw [List.length_set]; exact hj) ⟨(fun φ z => by cases z), v, rfl, md⟩ (fun h => by cases h)
    rw [List.set_set] at ev2
    have hmem : d ∈ ds' := List.mem_of_getElem? hd
    have pk2 := pk1.step (s2.trans s3)
    have hv2 : H'' D = some (.lst vs) := s3.keep D _ (fun z => ((pk1.step s2) D z).neL hv rfl) hv
    have x0 : ({ c with E := fun _ _ _ => False, X := fun _ => False } : Cd).XOk H0 := fun _ _ _ _ h => h.elim
    refine ⟨?_, ?_⟩
    · show ((σ.set j none).set j (some v)).set j none = σ.set j none
      rw [List.set_set, List.set_set]
    · show te _ H'' _
      refine he d hmem H0 F _ H'' ev2 x0 _ fun r yv H4 ⟨e, er, hpe⟩ s5 r5 => ?_
      subst er
      have hv4 : H4 D = some (.lst vs) := s5.keep D _ (fun z => (pk2 D z).neL hv2 rfl) hv2
      have s14 : Stp c.p H1 H4 := (s2.trans s3).trans s5
      have m4 : Ims c.K H4 vs es := (mv.tupS (s3.tup (pk1.step s2))).tupS (s5.tup pk2)
      have lv : vs.length = i := by rw [mv.length]; exact le
      have tp : Tup H4 (upd H4 D (.lst (vs ++ [yv]))) := tpG hv4
      refine ⟨vs, hv4, by rw [lv, sizeLine_eq]; omega, vs ++ [yv], es ++ [e], upd_same, (m4.tupS tp).append (.cons (Im.tupS tp r5.2) .nil), by rw [List.length_append, le]; rfl, fun z hz => ?_, fun a o e => ?_, ?_⟩
      · rcases List.mem_append.mp hz with h | h
        · exact pe z h
        · rw [List.mem_singleton.mp h]; exact hpe
      · have h1 := evF.frm a o e
        rw [upd_ne (ne_of_none h1 hD)]
        exact s14.keep a o (fun z => by rw [evF.frp a z] at e; cases e) h1
      · refine ⟨fun a o n h => ?_, fun q l hq hp => ?_⟩
        · rw [upd_ne (ne_of_none h hD)]; exact s14.keep a o n h
        · obtain ⟨ns, y1, y2, y3, y4, z1, z2, r⟩ := s14.pen q l hq hp
          obtain ⟨ns0, w1, w2, w3, w4, v1, v2, _⟩ := hp
          exact ⟨ns, y1, y2, y3, y4, by rw [upd_ne (ne_of_none v1 hD)]; exact z1, by rw [upd_ne (ne_of_none v2 hD)]; exact z2, r⟩
  · exact q _ _ H' (k es le pe) (s1.trans s2) (res_ls.2 ⟨D, vs, rfl, s1.back ev.pok hD, hv, mv⟩)
end
end DL

namespace DL
open PySem PySem.Spec PyProof.Rows L2
/-! ## the law itself, with lists of its own -/
def Ent.flat2 : Ent → Bool
  | .no => true
  | .im _ => true
  | .ro _ => true
  | .pen => true
  | .ls _ => true
  | _ => false
def Flat2 (Γ : List Ent) : Prop := ∀ (i : Nat) (e : Ent), Γ[i]? = some e → e.flat2 = true
theorem flat2_of {Γ : List Ent} (h : Γ.all Ent.flat2 = true) : Flat2 Γ := fun i e g => List.all_eq_true.mp h e (List.mem_of_getElem? g)
def OwnA (K : PySem.W.Frag) (Γ : List Ent) (σ : L2.St) (b : Addr) : Prop := ∃ (i : Nat) (e : Ent), Γ[i]? = some e ∧ (e.obj K).isSome = true ∧ σ[i]? = some (some (V.ref b))
open Classical in
/-- all but the law's own lists -/
noncomputable def rootH (K : PySem.W.Frag) (Γ : List Ent) (σ : L2.St) (H : Hp) : Hp := fun b => if OwnA K Γ σ b then none else H b
section
variable {K : PySem.W.Frag} {p : Option Addr} {H0 F H H1 : Hp} {Γ : List Ent} {σ : L2.St} {T : List (Addr × Str)}
theorem rootH_own {b : Addr} (h : OwnA K Γ σ b) : rootH K Γ σ H b = none := if_pos h
theorem rootH_not {b : Addr} (h : ¬ OwnA K Γ σ b) : rootH K Γ σ H b = H b := if_neg h
theorem rootH_some {b : Addr} {o : HO} (h : rootH K Γ σ H b = some o) : ¬ OwnA K Γ σ b ∧ H b = some o := by
  by_cases z : OwnA K Γ σ b
  · rw [rootH_own z] at h; cases h
  · rw [rootH_not z] at h; exact ⟨z, h⟩
theorem own_obj (x : Ev K p H0 F Γ σ H) (fl : Flat2 Γ) {b : Addr} (h : OwnA K Γ σ b) : H0 b = none ∧ ∃ vs, H b = some (.lst vs) := by
  obtain ⟨i, e, g, ho, hs⟩ := h
  obtain ⟨φ, hφ⟩ := Option.isSome_iff_exists.mp ho
  obtain ⟨s, hs', k, _⟩ := x.ent i e g
  obtain ⟨a, o, ea, _, n, _, ga, hk⟩ := k φ hφ
  rw [hs] at hs'
  have hs' := Option.some.inj hs'
  rw [ea] at hs'; cases hs'
  have f := fl i e g
  cases e with
  | ls ds => cases hφ; obtain ⟨vs, rfl, _⟩ := hk; exact ⟨n, vs, ga⟩
  | _ => cases f <;> cases hφ
theorem not_own (x : Ev K p H0 F Γ σ H) (fl : Flat2 Γ) {b : Addr} {o : HO} (h : H0 b = some o) : ¬ OwnA K Γ σ b := fun z => by
  have := (own_obj x fl z).1
  rw [h] at this; cases this
theorem Ev.ext2 (x : Ev K p H0 (fun _ => none) Γ σ H) (fl : Flat2 Γ) (e : LamX.ExtN H H1) (tb : LamX.Tabs T H1) : Ev K p (rootH K Γ σ H1) (fun _ => none) Γ σ H1 ∧ LamX.Tabs T (rootH K Γ σ H1) := by
  have own1 : ∀ {b : Addr}, OwnA K Γ σ b → ∃ vs, H1 b = some (.lst vs) := fun {b} h => by
    obtain ⟨_, vs, g⟩ := own_obj x fl h
    exact ⟨vs, e _ _ g (fun _ z => by cases z)⟩
  have tp := extN_tup e
  refine ⟨⟨fun i r g => ?_, x.sep, ⟨fun a o _ h => (rootH_some h).2, fun q l _ k => ?_⟩, fun q hq => ?_, (fun _ _ z => by cases z), fun _ _ => rfl⟩, fun q hq => ?_⟩
  · obtain ⟨s, hs, k1, k2⟩ := x.ent i r g
    have f := fl i r g
    refine ⟨s, hs, fun φ hφ => ?_, ?_⟩
    · obtain ⟨a, o, ea, ad, n, _, ga, hk⟩ := k1 φ hφ
      have ow : OwnA K Γ σ a := ⟨i, r, g, by rw [hφ]; rfl, by rw [hs, ea]⟩
      obtain ⟨_, us, gl⟩ := own_obj x fl ow
      rw [ga] at gl
      refine ⟨a, o, ea, ad, rootH_own ow, rfl, e _ _ ga (fun ps z => ?_), obj_tup hφ tp hk⟩
      have := Option.some.inj gl
      rw [z] at this; cases this
    · cases r with
      | im d => obtain ⟨v, ev, m⟩ := k2; exact ⟨v, ev, m.tupS tp⟩
      | ro ds =>
        obtain ⟨a, vs, ea, h0, h1, m⟩ := k2
        refine ⟨a, vs, ea, ?_, extN_sqL e h1, m.tupS tp⟩
        rcases h0 with (h | ⟨o, h⟩) | h
        · have hh := x.stp.keep a _ (fun z => (x.pok0 a z).neL h rfl) h
          exact .inl (.inl (by rw [rootH_not (not_own x fl h)]; exact e _ _ hh (fun _ z => by cases z)))
        · have hh := x.stp.keep a _ (fun z => (x.pok0 a z).neF h rfl) h
          exact .inl (.inr ⟨o, by rw [rootH_not (not_own x fl h)]; exact e _ _ hh (fun _ z => by cases z)⟩)
        · exact .inr h
      | pen => exact k2
      | no => trivial
      | ls _ => trivial
      | _ => cases f
  · obtain ⟨ns, x1, x2, x3, x4, g1, g2, r⟩ := k
    exact ⟨ns, x1, x2, x3, x4, (rootH_some g1).2, (rootH_some g2).2, r⟩
  · obtain ⟨l, hl⟩ := x.pok0 q hq
    obtain ⟨ns0, _, _, _, _, h1, h2, _⟩ := id hl
    obtain ⟨ns, x1, x2, x3, x4, g1, g2, r⟩ := x.stp.pen q l hq hl
    refine ⟨l, ns, x1, x2, x3, x4, ?_, ?_, r⟩
    · rw [rootH_not (not_own x fl h1)]; exact e _ _ g1 (fun _ z => by cases z)
    · rw [rootH_not (not_own x fl h2)]; exact e _ _ g2 (fun _ z => by cases z)
  · obtain ⟨ps, h1, h2, h3⟩ := tb q hq
    refine ⟨ps, ?_, h2, fun pos cv hc => ?_⟩
    · rw [rootH_not fun z => ?_]
      · exact h1
      · obtain ⟨vs, g⟩ := own1 z
        rw [h1] at g; cases g
    · obtain ⟨c, e1, e2⟩ := h3 pos cv hc
      refine ⟨c, e1, ?_⟩
      rw [rootH_not fun z => ?_]
      · exact e2
      · obtain ⟨vs, g⟩ := own1 z
        rw [e2] at g
        have g := Option.some.inj g
        unfold LamX.CodeO at g
        cases g
/-- every way out of the law is True -/
def WM (K : PySem.W.Frag) (p : Option Addr) (T : List (Addr × Str)) (t : TS) (Γ : List Ent) : Prop :=
  ∀ σ H0 H, Ev K p H0 (fun _ => none) Γ σ H → LamX.Tabs T H0 → ∀ D : Ends, (∀ H', D.rt (.bl true) H') → t D σ H
/-- an expression of the law that may make a lambda -/
def LE (K : PySem.W.Frag) (p : Option Addr) (T : List (Addr × Str)) (te : TE) (Γ : List Ent) (d : PyData) : Prop :=
  ∀ σ H0 H, Ev K p H0 (fun _ => none) Γ σ H → LamX.Tabs T H0 → ∀ Q' : VK, (∀ v G0 H', Ev K p G0 (fun _ => none) Γ σ H' → LamX.Tabs T G0 → Im K H' v d → Q' v H') → te σ H Q'
variable {t u : TS} {te : TE} {d : PyData} {i : Nat}
theorem wm_ws (h : WS (c0 K p) t Γ { nx := fun _ => False, rt := fun r => r = B true }) : WM K p T t Γ := fun σ H0 H ev tb D hD =>
  h H0 _ σ H ev xok0 D ⟨fun _ _ _ z => z.elim, fun r v H' e _ ro => by subst e; rw [Im.blv ro.2]; exact hD H', fun _ _ _ z => z.elim, fun _ _ _ z => z.elim⟩
theorem wm_seq (h : WS (c0 K p) t Γ { nx := fun Γ' => WM K p T u Γ', rt := fun r => r = B true }) : WM K p T (tSeq t u) Γ := fun σ H0 H ev tb D hD =>
  h H0 _ σ H ev xok0 { D with nx := u D } ⟨fun Γ' σ' H' wl e => wl σ' H0 H' e tb D hD, fun r v H' e _ ro => by subst e; rw [Im.blv ro.2]; exact hD H', fun _ _ _ z => z.elim, fun _ _ _ z => z.elim⟩
theorem wm_up {Γ' : List Ent} (w : Wk Γ Γ') (h : WM K p T t Γ') : WM K p T t Γ := fun σ H0 H ev tb D hD => h σ H0 H (ev.weak w) tb D hD
theorem wm_pen (fl : Flat Γ) (hi : i < Γ.length) (h : VE (c0 K none) te Γ .pn) (k : ∀ q, WM K (some q) T u (Γ.set i .pen)) (np : ∀ j : Nat, Γ[j]? ≠ some Ent.pen) : WM K none T (tSeq (tAsg te (gName i)) u) Γ := fun σ H0 H ev tb D hD =>
  wl_pen (T := T) fl hi h (fun q σ' H' ev' tb' D' hD' => k q σ' H' H' ev' tb' D' hD') np σ H (ev.root fl) (tabs_step ev.stp ev.pok0 tb) D hD
/-- _law_fault(lambda: ..), of which it is known what it raises; Γ' : without the lists -/
theorem le_fault {α : Type} {C : ConE α} {kd : α → PyData} {tl : XK → TE} {Γ' : List Ent} (a : α) (fl : Flat2 Γ) (wk : Wk Γ Γ') (fl' : Flat Γ') (hb : ∀ E, WE ⟨K, p, E, fun e => e = (C.cl a, C.fs a)⟩ (tl E) Γ' (fun _ => False)) (pre : C.pre a) :
    LE K p T (LamX.tLam T (TFault K C kd) tl) Γ (kd a) := fun σ H0 H ev tb Q' hq => by
  refine ⟨tabs_step ev.stp ev.pok0 tb, fun H1 ext tb1 Qn _ => ?_⟩
  obtain ⟨ev1, tbr⟩ := ev.ext2 fl ext tb1
  have evF := (ev1.weak wk).root fl'
  refine hb _ H1 _ σ H1 evF ?_ Qn fun r v H' z => z.elim
  rintro e cls d H2 rfl st ⟨rfl, dd, fs, rfl, hdd, hk, hm⟩
  have ev2 := ev1.step st
  exact ⟨p, a, dd, rfl, rfl, ev2.pok, ⟨fs, hdd, hk, hm⟩, pre, fun v H3 s3 mv => hq v _ H3 (ev2.step s3) tbr mv⟩
theorem wm_ne {td : TE} (h : LE K p T te Γ d) (hd : VE (c0 K p) td Γ (.im d)) (sh : SeqAt.shaped d = true) (hn : WM K p T u Γ) : WM K p T (tSeq (tIfS (tTest (tOp (rNeD K) te td)) (tRet (tC (.bl false))) tNext) u) Γ := fun σ H0 H ev tb D hD => by
  refine h σ H0 H ev tb _ fun v G0 H' ev' tb' mv => ?_
  refine hd G0 _ σ H' ev' xok0 _ fun r y H4 e s4 r4 => ?_
  subst e
  refine ⟨d, d, Im.dp (mv.tupS (s4.tup ev'.pok)), Im.dp r4.2, sh, sh, ?_⟩
  refine ⟨_, rfl, ?_⟩
  rw [eqv_same sh]
  show tNext _ _ _
  exact hn σ G0 H4 (ev'.step s4) tb' D hD
theorem wm_lst1 (h : LE K p T te Γ d) (hi : i < Γ.length) (k : WM K p T u (Γ.set i (.ls [d]))) : WM K p T (tSeq (tAsg (tLst (tCons te tNil)) (gName i)) u) Γ := fun σ H0 H ev tb D hD => by
  refine h σ H0 H ev tb _ fun v G0 H' ev' tb' mv => ?_
  refine ⟨by rw [sizeLine_eq]; show 1 ≤ _; decide, fun l hl => ?_⟩
  have ls : ResOk K p H' (upd H' l (.lst [v])) (.ls [d]) (.ref l) := res_ls.2 ⟨l, _, rfl, hl, upd_same, .cons (mv.tupS ((Stp.new hl).tup ev'.pok)) .nil⟩
  exact k _ G0 _ (ev'.set (Stp.new hl) hi ls) tb' D hD
theorem wm_app1 {ds : List PyData} (h : LE K p T te Γ d) (hg : Γ[i]? = some (.ls ds)) (hz : ds.length < 1000000) (k : WM K p T u (Γ.set i (.ls (ds ++ [d])))) : WM K p T (tSeq (tDrop (tBM K "list" rAppend (tVar i) (tCons te tNil))) u) Γ := fun σ H0 H ev tb D hD => by
  obtain ⟨s, hs, k1, _⟩ := ev.ent i _ hg
  obtain ⟨a, o, e, _, n, f, g, vs, rfl, m⟩ := k1 _ rfl
  subst e
  refine ⟨_, hs, .inl ⟨rfl, _, .inl (.inl g)⟩, ?_⟩
  refine h σ H0 H ev tb _ fun v G0 H' ev' tb' mv => ?_
  obtain ⟨s', hs', k1', _⟩ := ev'.ent i _ hg
  obtain ⟨a', o', e', _, n', f', g', us, rfl, m'⟩ := k1' _ rfl
  rw [hs] at hs'
  have hs' := Option.some.inj hs'
  rw [e'] at hs'; cases hs'
  refine ⟨a, us, v, rfl, rfl, g', by rw [m'.length, sizeLine_eq]; omega, k _ G0 _ ?_ tb' D hD⟩
  have tp : Tup H' (upd H' a (.lst (us ++ [v]))) := tpG g'
  exact ev'.mutate (e := .ls ds) (e' := .ls (ds ++ [d])) hg hs rfl trivial g' ⟨(fun _ z => by cases z), (fun _ _ z => by cases z)⟩ rfl trivial (by intro z; cases z) ⟨_, rfl, (m'.tupS tp).append (.cons (mv.tupS tp) .nil)⟩
end
end DL

namespace DL
open PySem PySem.Spec PyProof.Rows PySem.Calls L2
/-! ## sum of a tuple of ints -/
section
variable {X : Cx}
def rSumT (K : PySem.W.Frag) : List V → Hp → VK → Prop := fun vs H Q => ∃ (a : Addr) (ns : List Int), vs = [.ref a] ∧ SqT K H a (ns.map V.int) ∧ Q (.int ns.sum) H
theorem cr_sumT (hc : X.calm = true) : CallR X (.builtin "sum") (rSumT X.K) := by
  intro pins s σ H vs us Q I r h
  obtain ⟨a, ns, rfl, hs, q⟩ := h
  obtain ⟨its, rv, ht, _⟩ := I.tuple hs
  rw [Vals.ref1 r]
  have hi := rv.ints
  obtain ⟨xs, e⟩ := hi.allInts.items
  have hn : numsOf (intItems xs).toList = ns := by rw [← e]; exact hi.numsOf
  rw [nums_intItems] at hn
  have ht2 : IsTup s.heap a (intItems xs) := by rw [← e]; exact ht
  refine PySem.W.ktm_sumG (I.ok.hd hc) ht2 fun h' tk t' hk => ?_
  rw [preSum_eq, List.take_of_length_le (by simp), hn]
  exact ⟨.int ns.sum, H, I.kept hk, ⟨_, rfl⟩, q⟩
end
section
variable {c : Cd}
theorem n_sumT {ns : List Int} : OpN c (rSumT c.K) [.im (.tuple (ns.map PyData.int))] (I ns.sum) := ⟨fun xs H H' _ s a0 Q' q => by
  obtain ⟨v, rfl, a⟩ := all1 a0
  have a2 := a.2
  generalize hd : PyData.tuple (ns.map PyData.int) = d at a2
  cases a2 with
  | tup hs ms =>
    cases hd
    have e := Ims.ints ms
    subst e
    exact ⟨_, ns, rfl, hs, q _ H' (Stp.refl _ _) (res_im.2 (.int _))⟩
  | _ => cases hd⟩
end
section
variable {c : Cd} {Γ : List Ent} {ta : TA}
theorem i_r1W {Qd : List PyData → Prop} (h : WA c ta Γ fun rs => ∃ n : Int, rs = [I n] ∧ -(2 ^ 62) ≤ n ∧ n < 2 ^ 62 ∧ Qd (rangeD 0 n.toNat)) : WI c (iRng1 ta) Γ Qd := fun H0 F σ H ev x R q => by
  refine h H0 F σ H ev x _ fun rs vs H1 ⟨n, e, h1, h2, qd⟩ s1 r1 => ?_
  subst e
  obtain ⟨v, rfl, a⟩ := all1 r1
  have a := Im.intv a.2
  subst a
  exact ⟨n, rfl, h1, h2, q _ H1 _ none qd s1 (fun b hb => by cases hb) gives_range⟩
end
end DL

namespace K68
open PySem PySem.Spec PyProof.Rows L2 DL
/-! ## the text by places -/
def top (i : Nat) : Stmt := PySem.Challenge.pw_fourbends_k68_whole_triples.main.body.getD i (.Pass ⟨0, 0, 0, 0⟩)
abbrev s__law_pen : Stmt := top 28
abbrev s__law_draw : Stmt := top 29
abbrev s__law_shuffled : Stmt := top 31
abbrev s__law_pick : Stmt := top 30
abbrev s__law_more_kinds : Stmt := top 35
abbrev s__law_kinds : Stmt := top 34
abbrev s__law_fault : Stmt := top 33
abbrev s__law_common : Stmt := top 40
abbrev s__law_root_square : Stmt := top 44
abbrev s__law_due : Stmt := top 45
abbrev s_is_integer : Stmt := top 20
abbrev s_need_integer : Stmt := top 25
abbrev s_whole_root : Stmt := top 22
abbrev s_fourths_of : Stmt := top 23
abbrev s_triple_fits : Stmt := top 26
abbrev s__law_says : Stmt := top 32
abbrev s__law_swapped : Stmt := top 36
abbrev s__law_along : Stmt := top 37
abbrev s__law_is_root : Stmt := top 38
abbrev s__law_small_roots : Stmt := top 39
abbrev s__law_normal_word : Stmt := top 41
abbrev s__law_packing : Stmt := top 43
abbrev s__law_great_four : Stmt := top 42
abbrev s_law : Stmt := top 46
abbrev i_BadNumber : Stmt := inClass (top 3) 0
abbrev i_BadRow : Stmt := inClass (top 4) 0
abbrev i_BadTable : Stmt := inClass (top 5) 0
abbrev i_BadQuadruple : Stmt := inClass (top 6) 0
abbrev i_BadWord : Stmt := inClass (top 7) 0
abbrev i_BadName : Stmt := inClass (top 8) 0
abbrev i_BadText : Stmt := inClass (top 9) 0
abbrev i_NoPlace : Stmt := inClass (top 10) 0
abbrev i_NoName : Stmt := inClass (top 11) 0
abbrev i_TakenName : Stmt := inClass (top 12) 0
abbrev i_Unlike : Stmt := inClass (top 13) 0
abbrev i_NotThere : Stmt := inClass (top 14) 0
abbrev i_TooMany : Stmt := inClass (top 15) 0
abbrev i_NotKept : Stmt := inClass (top 16) 0
theorem sc__law_pen : FnScope ["script", "fold", "cell"] ["script"] (defScope s__law_pen) := ⟨rfl, rfl, rfl, by decide +kernel, rfl, by decide +kernel, by decide +kernel⟩
theorem sc__law_draw : FnScope ["pen", "many", "cell", "digit", "blend"] ["pen", "many"] (defScope s__law_draw) := ⟨rfl, rfl, rfl, by decide +kernel, rfl, by decide +kernel, by decide +kernel⟩
theorem sc__law_shuffled : FnScope ["pen", "some", "left", "found", "lap"] ["pen", "some"] (defScope s__law_shuffled) := ⟨rfl, rfl, rfl, by decide +kernel, rfl, by decide +kernel, by decide +kernel⟩
theorem sc__law_pick : FnScope ["pen", "some"] ["pen", "some"] (defScope s__law_pick) := ⟨rfl, rfl, rfl, by decide +kernel, rfl, by decide +kernel, by decide +kernel⟩
theorem sc__law_more_kinds : FnScope ["e", "found"] ["e"] (defScope s__law_more_kinds) := ⟨rfl, rfl, rfl, by decide +kernel, rfl, by decide +kernel, by decide +kernel⟩
theorem sc__law_kinds : FnScope ["e", "found"] ["e"] (defScope s__law_kinds) := ⟨rfl, rfl, rfl, by decide +kernel, rfl, by decide +kernel, by decide +kernel⟩
theorem sc__law_fault : FnScope ["call", "found", "e"] ["call"] (defScope s__law_fault) := ⟨rfl, rfl, rfl, by decide +kernel, rfl, by decide +kernel, by decide +kernel⟩
theorem sc__law_common : FnScope ["four", "found", "one", "left", "right"] ["four"] (defScope s__law_common) := ⟨rfl, rfl, rfl, by decide +kernel, rfl, by decide +kernel, by decide +kernel⟩
theorem sc__law_root_square : FnScope ["number", "low", "high", "middle"] ["number"] (defScope s__law_root_square) := ⟨rfl, rfl, rfl, by decide +kernel, rfl, by decide +kernel, by decide +kernel⟩
theorem sc__law_due : FnScope ["a", "b", "c", "k"] ["a", "b", "c"] (defScope s__law_due) := ⟨rfl, rfl, rfl, by decide +kernel, rfl, by decide +kernel, by decide +kernel⟩
theorem sc_is_integer : FnScope ["value"] ["value"] (defScope s_is_integer) := ⟨rfl, rfl, rfl, by decide +kernel, rfl, by decide +kernel, by decide +kernel⟩
theorem sc_need_integer : FnScope ["number", "what"] ["number", "what"] (defScope s_need_integer) := ⟨rfl, rfl, rfl, by decide +kernel, rfl, by decide +kernel, by decide +kernel⟩
theorem sc_whole_root : FnScope ["number", "low", "high", "middle"] ["number"] (defScope s_whole_root) := ⟨rfl, rfl, rfl, by decide +kernel, rfl, by decide +kernel, by decide +kernel⟩
theorem sc_fourths_of : FnScope ["a", "b", "c", "k", "root"] ["a", "b", "c"] (defScope s_fourths_of) := ⟨rfl, rfl, rfl, by decide +kernel, rfl, by decide +kernel, by decide +kernel⟩
theorem sc_triple_fits : FnScope ["a", "b", "c", "number", "what"] ["a", "b", "c"] (defScope s_triple_fits) := ⟨rfl, rfl, rfl, by decide +kernel, rfl, by decide +kernel, by decide +kernel⟩
theorem sc__law_says : FnScope ["told", "due"] ["told", "due"] (defScope s__law_says) := ⟨rfl, rfl, rfl, by decide +kernel, rfl, by decide +kernel, by decide +kernel⟩
theorem sc__law_swapped : FnScope ["four", "place"] ["four", "place"] (defScope s__law_swapped) := ⟨rfl, rfl, rfl, by decide +kernel, rfl, by decide +kernel, by decide +kernel⟩
theorem sc__law_along : FnScope ["four", "word", "place"] ["four", "word"] (defScope s__law_along) := ⟨rfl, rfl, rfl, by decide +kernel, rfl, by decide +kernel, by decide +kernel⟩
theorem sc__law_is_root : FnScope ["four", "a", "b", "c", "d"] ["four"] (defScope s__law_is_root) := ⟨rfl, rfl, rfl, by decide +kernel, rfl, by decide +kernel, by decide +kernel⟩
theorem sc__law_small_roots : FnScope ["found", "n", "m", "first", "other", "four"] [] (defScope s__law_small_roots) := ⟨rfl, rfl, rfl, by decide +kernel, rfl, by decide +kernel, by decide +kernel⟩
theorem sc__law_normal_word : FnScope ["pen", "most", "found", "lap", "one"] ["pen", "most"] (defScope s__law_normal_word) := ⟨rfl, rfl, rfl, by decide +kernel, rfl, by decide +kernel, by decide +kernel⟩
theorem sc__law_packing : FnScope ["pen", "most", "root"] ["pen", "most"] (defScope s__law_packing) := ⟨rfl, rfl, rfl, by decide +kernel, rfl, by decide +kernel, by decide +kernel⟩
theorem sc__law_great_four : FnScope ["pen", "size", "p", "q", "a", "b", "r", "s", "m", "n", "first", "other", "four", "by", "root", "one"] ["pen"] (defScope s__law_great_four) := ⟨rfl, rfl, rfl, by decide +kernel, rfl, by decide +kernel, by decide +kernel⟩
theorem sc_law : FnScope ["script", "pen", "lap", "four", "a", "b", "c", "by", "some", "one", "two", "three", "due", "bad", "wrong", "odd", "told", "k"] ["script"] (defScope s_law) := ⟨rfl, rfl, rfl, by decide +kernel, rfl, by decide +kernel, by decide +kernel⟩
theorem sci_BadNumber : FnScope ["self", "what", "number"] ["self", "what", "number"] (defScope i_BadNumber) := ⟨rfl, rfl, rfl, by decide +kernel, rfl, by decide +kernel, by decide +kernel⟩
theorem sci_BadRow : FnScope ["self", "what", "row"] ["self", "what", "row"] (defScope i_BadRow) := ⟨rfl, rfl, rfl, by decide +kernel, rfl, by decide +kernel, by decide +kernel⟩
theorem sci_BadTable : FnScope ["self", "what"] ["self", "what"] (defScope i_BadTable) := ⟨rfl, rfl, rfl, by decide +kernel, rfl, by decide +kernel, by decide +kernel⟩
theorem sci_BadQuadruple : FnScope ["self", "what"] ["self", "what"] (defScope i_BadQuadruple) := ⟨rfl, rfl, rfl, by decide +kernel, rfl, by decide +kernel, by decide +kernel⟩
theorem sci_BadWord : FnScope ["self", "what", "word"] ["self", "what", "word"] (defScope i_BadWord) := ⟨rfl, rfl, rfl, by decide +kernel, rfl, by decide +kernel, by decide +kernel⟩
theorem sci_BadName : FnScope ["self", "name"] ["self", "name"] (defScope i_BadName) := ⟨rfl, rfl, rfl, by decide +kernel, rfl, by decide +kernel, by decide +kernel⟩
theorem sci_BadText : FnScope ["self", "line", "word"] ["self", "line", "word"] (defScope i_BadText) := ⟨rfl, rfl, rfl, by decide +kernel, rfl, by decide +kernel, by decide +kernel⟩
theorem sci_NoPlace : FnScope ["self", "what", "index"] ["self", "what", "index"] (defScope i_NoPlace) := ⟨rfl, rfl, rfl, by decide +kernel, rfl, by decide +kernel, by decide +kernel⟩
theorem sci_NoName : FnScope ["self", "name"] ["self", "name"] (defScope i_NoName) := ⟨rfl, rfl, rfl, by decide +kernel, rfl, by decide +kernel, by decide +kernel⟩
theorem sci_TakenName : FnScope ["self", "name"] ["self", "name"] (defScope i_TakenName) := ⟨rfl, rfl, rfl, by decide +kernel, rfl, by decide +kernel, by decide +kernel⟩
theorem sci_Unlike : FnScope ["self", "what"] ["self", "what"] (defScope i_Unlike) := ⟨rfl, rfl, rfl, by decide +kernel, rfl, by decide +kernel, by decide +kernel⟩
theorem sci_NotThere : FnScope ["self", "paper"] ["self", "paper"] (defScope i_NotThere) := ⟨rfl, rfl, rfl, by decide +kernel, rfl, by decide +kernel, by decide +kernel⟩
theorem sci_TooMany : FnScope ["self", "what", "many", "limit"] ["self", "what", "many", "limit"] (defScope i_TooMany) := ⟨rfl, rfl, rfl, by decide +kernel, rfl, by decide +kernel, by decide +kernel⟩
theorem sci_NotKept : FnScope ["self", "promise", "witness"] ["self", "promise", "witness"] (defScope i_NotKept) := ⟨rfl, rfl, rfl, by decide +kernel, rfl, by decide +kernel, by decide +kernel⟩
/-- the addresses -/
structure Adr where
  a__law_pen : Addr
  a__law_draw : Addr
  a__law_shuffled : Addr
  a__law_pick : Addr
  a__law_more_kinds : Addr
  a__law_kinds : Addr
  a__law_fault : Addr
  a__law_common : Addr
  a__law_root_square : Addr
  a__law_due : Addr
  a_is_integer : Addr
  a_need_integer : Addr
  a_whole_root : Addr
  a_fourths_of : Addr
  a_triple_fits : Addr
  a__law_says : Addr
  a__law_swapped : Addr
  a__law_along : Addr
  a__law_is_root : Addr
  a__law_small_roots : Addr
  a__law_normal_word : Addr
  a__law_packing : Addr
  a__law_great_four : Addr
  a_law : Addr
  d__law_pen : FuncData
  d__law_draw : FuncData
  d__law_shuffled : FuncData
  d__law_pick : FuncData
  d__law_more_kinds : FuncData
  d__law_kinds : FuncData
  d__law_fault : FuncData
  d__law_common : FuncData
  d__law_root_square : FuncData
  d__law_due : FuncData
  d_is_integer : FuncData
  d_need_integer : FuncData
  d_whole_root : FuncData
  d_fourths_of : FuncData
  d_triple_fits : FuncData
  d__law_says : FuncData
  d__law_swapped : FuncData
  d__law_along : FuncData
  d__law_is_root : FuncData
  d__law_small_roots : FuncData
  d__law_normal_word : FuncData
  d__law_packing : FuncData
  d__law_great_four : FuncData
  d_law : FuncData
  c_BendError : Addr
  c_BadNumber : Addr
  c_BadRow : Addr
  c_BadTable : Addr
  c_BadQuadruple : Addr
  c_BadWord : Addr
  c_BadName : Addr
  c_BadText : Addr
  c_NoPlace : Addr
  c_NoName : Addr
  c_TakenName : Addr
  c_Unlike : Addr
  c_NotThere : Addr
  c_TooMany : Addr
  c_NotKept : Addr
  c_NothingToUndo : Addr
  c_NothingToRedo : Addr
  ai_BadNumber : Addr
  di_BadNumber : FuncData
  ai_BadRow : Addr
  di_BadRow : FuncData
  ai_BadTable : Addr
  di_BadTable : FuncData
  ai_BadQuadruple : Addr
  di_BadQuadruple : FuncData
  ai_BadWord : Addr
  di_BadWord : FuncData
  ai_BadName : Addr
  di_BadName : FuncData
  ai_BadText : Addr
  di_BadText : FuncData
  ai_NoPlace : Addr
  di_NoPlace : FuncData
  ai_NoName : Addr
  di_NoName : FuncData
  ai_TakenName : Addr
  di_TakenName : FuncData
  ai_Unlike : Addr
  di_Unlike : FuncData
  ai_NotThere : Addr
  di_NotThere : FuncData
  ai_TooMany : Addr
  di_TooMany : FuncData
  ai_NotKept : Addr
  di_NotKept : FuncData
/-- what the top has written -/
structure Txt (K : PySem.W.Frag) (mg : Str → Option Value) (A : Adr) : Prop where
  F__law_pen : Fun K "_law_pen" "_law_pen" s__law_pen A.a__law_pen A.d__law_pen
  g__law_pen : mg "_law_pen" = some (.ref A.a__law_pen)
  k__law_pen : PySem.W.keepIn K (.ref A.a__law_pen) = true
  b__law_pen : Binds K A.d__law_pen ["script"] []
  F__law_draw : Fun K "_law_draw" "_law_draw" s__law_draw A.a__law_draw A.d__law_draw
  g__law_draw : mg "_law_draw" = some (.ref A.a__law_draw)
  k__law_draw : PySem.W.keepIn K (.ref A.a__law_draw) = true
  b__law_draw : Binds K A.d__law_draw ["pen", "many"] []
  F__law_shuffled : Fun K "_law_shuffled" "_law_shuffled" s__law_shuffled A.a__law_shuffled A.d__law_shuffled
  g__law_shuffled : mg "_law_shuffled" = some (.ref A.a__law_shuffled)
  k__law_shuffled : PySem.W.keepIn K (.ref A.a__law_shuffled) = true
  b__law_shuffled : Binds K A.d__law_shuffled ["pen", "some"] []
  F__law_pick : Fun K "_law_pick" "_law_pick" s__law_pick A.a__law_pick A.d__law_pick
  g__law_pick : mg "_law_pick" = some (.ref A.a__law_pick)
  k__law_pick : PySem.W.keepIn K (.ref A.a__law_pick) = true
  b__law_pick : Binds K A.d__law_pick ["pen", "some"] []
  F__law_more_kinds : Fun K "_law_more_kinds" "_law_more_kinds" s__law_more_kinds A.a__law_more_kinds A.d__law_more_kinds
  g__law_more_kinds : mg "_law_more_kinds" = some (.ref A.a__law_more_kinds)
  k__law_more_kinds : PySem.W.keepIn K (.ref A.a__law_more_kinds) = true
  b__law_more_kinds : Binds K A.d__law_more_kinds ["e"] []
  F__law_kinds : Fun K "_law_kinds" "_law_kinds" s__law_kinds A.a__law_kinds A.d__law_kinds
  g__law_kinds : mg "_law_kinds" = some (.ref A.a__law_kinds)
  k__law_kinds : PySem.W.keepIn K (.ref A.a__law_kinds) = true
  b__law_kinds : Binds K A.d__law_kinds ["e"] []
  F__law_fault : Fun K "_law_fault" "_law_fault" s__law_fault A.a__law_fault A.d__law_fault
  g__law_fault : mg "_law_fault" = some (.ref A.a__law_fault)
  k__law_fault : PySem.W.keepIn K (.ref A.a__law_fault) = true
  b__law_fault : Binds K A.d__law_fault ["call"] []
  F__law_common : Fun K "_law_common" "_law_common" s__law_common A.a__law_common A.d__law_common
  g__law_common : mg "_law_common" = some (.ref A.a__law_common)
  k__law_common : PySem.W.keepIn K (.ref A.a__law_common) = true
  b__law_common : Binds K A.d__law_common ["four"] []
  F__law_root_square : Fun K "_law_root_square" "_law_root_square" s__law_root_square A.a__law_root_square A.d__law_root_square
  g__law_root_square : mg "_law_root_square" = some (.ref A.a__law_root_square)
  k__law_root_square : PySem.W.keepIn K (.ref A.a__law_root_square) = true
  b__law_root_square : Binds K A.d__law_root_square ["number"] []
  F__law_due : Fun K "_law_due" "_law_due" s__law_due A.a__law_due A.d__law_due
  g__law_due : mg "_law_due" = some (.ref A.a__law_due)
  k__law_due : PySem.W.keepIn K (.ref A.a__law_due) = true
  b__law_due : Binds K A.d__law_due ["a", "b", "c"] []
  F_is_integer : Fun K "is_integer" "is_integer" s_is_integer A.a_is_integer A.d_is_integer
  g_is_integer : mg "is_integer" = some (.ref A.a_is_integer)
  k_is_integer : PySem.W.keepIn K (.ref A.a_is_integer) = true
  b_is_integer : Binds K A.d_is_integer ["value"] []
  F_need_integer : Fun K "need_integer" "need_integer" s_need_integer A.a_need_integer A.d_need_integer
  g_need_integer : mg "need_integer" = some (.ref A.a_need_integer)
  k_need_integer : PySem.W.keepIn K (.ref A.a_need_integer) = true
  b_need_integer : Binds K A.d_need_integer ["number", "what"] []
  F_whole_root : Fun K "whole_root" "whole_root" s_whole_root A.a_whole_root A.d_whole_root
  g_whole_root : mg "whole_root" = some (.ref A.a_whole_root)
  k_whole_root : PySem.W.keepIn K (.ref A.a_whole_root) = true
  b_whole_root : Binds K A.d_whole_root ["number"] []
  F_fourths_of : Fun K "fourths_of" "fourths_of" s_fourths_of A.a_fourths_of A.d_fourths_of
  g_fourths_of : mg "fourths_of" = some (.ref A.a_fourths_of)
  k_fourths_of : PySem.W.keepIn K (.ref A.a_fourths_of) = true
  b_fourths_of : Binds K A.d_fourths_of ["a", "b", "c"] []
  F_triple_fits : Fun K "triple_fits" "triple_fits" s_triple_fits A.a_triple_fits A.d_triple_fits
  g_triple_fits : mg "triple_fits" = some (.ref A.a_triple_fits)
  k_triple_fits : PySem.W.keepIn K (.ref A.a_triple_fits) = true
  b_triple_fits : Binds K A.d_triple_fits ["a", "b", "c"] []
  F__law_says : Fun K "_law_says" "_law_says" s__law_says A.a__law_says A.d__law_says
  g__law_says : mg "_law_says" = some (.ref A.a__law_says)
  k__law_says : PySem.W.keepIn K (.ref A.a__law_says) = true
  b__law_says : Binds K A.d__law_says ["told", "due"] []
  F__law_swapped : Fun K "_law_swapped" "_law_swapped" s__law_swapped A.a__law_swapped A.d__law_swapped
  g__law_swapped : mg "_law_swapped" = some (.ref A.a__law_swapped)
  k__law_swapped : PySem.W.keepIn K (.ref A.a__law_swapped) = true
  b__law_swapped : Binds K A.d__law_swapped ["four", "place"] []
  F__law_along : Fun K "_law_along" "_law_along" s__law_along A.a__law_along A.d__law_along
  g__law_along : mg "_law_along" = some (.ref A.a__law_along)
  k__law_along : PySem.W.keepIn K (.ref A.a__law_along) = true
  b__law_along : Binds K A.d__law_along ["four", "word"] []
  F__law_is_root : Fun K "_law_is_root" "_law_is_root" s__law_is_root A.a__law_is_root A.d__law_is_root
  g__law_is_root : mg "_law_is_root" = some (.ref A.a__law_is_root)
  k__law_is_root : PySem.W.keepIn K (.ref A.a__law_is_root) = true
  b__law_is_root : Binds K A.d__law_is_root ["four"] []
  F__law_small_roots : Fun K "_law_small_roots" "_law_small_roots" s__law_small_roots A.a__law_small_roots A.d__law_small_roots
  g__law_small_roots : mg "_law_small_roots" = some (.ref A.a__law_small_roots)
  k__law_small_roots : PySem.W.keepIn K (.ref A.a__law_small_roots) = true
  b__law_small_roots : Binds K A.d__law_small_roots [] []
  F__law_normal_word : Fun K "_law_normal_word" "_law_normal_word" s__law_normal_word A.a__law_normal_word A.d__law_normal_word
  g__law_normal_word : mg "_law_normal_word" = some (.ref A.a__law_normal_word)
  k__law_normal_word : PySem.W.keepIn K (.ref A.a__law_normal_word) = true
  b__law_normal_word : Binds K A.d__law_normal_word ["pen", "most"] []
  F__law_packing : Fun K "_law_packing" "_law_packing" s__law_packing A.a__law_packing A.d__law_packing
  g__law_packing : mg "_law_packing" = some (.ref A.a__law_packing)
  k__law_packing : PySem.W.keepIn K (.ref A.a__law_packing) = true
  b__law_packing : Binds K A.d__law_packing ["pen", "most"] []
  F__law_great_four : Fun K "_law_great_four" "_law_great_four" s__law_great_four A.a__law_great_four A.d__law_great_four
  g__law_great_four : mg "_law_great_four" = some (.ref A.a__law_great_four)
  k__law_great_four : PySem.W.keepIn K (.ref A.a__law_great_four) = true
  b__law_great_four : Binds K A.d__law_great_four ["pen"] []
  F_law : Fun K "law" "law" s_law A.a_law A.d_law
  g_law : mg "law" = some (.ref A.a_law)
  k_law : PySem.W.keepIn K (.ref A.a_law) = true
  b_law : Binds K A.d_law ["script"] []
  m_list : mg "list" = none
  m_int : mg "int" = none
  m_len : mg "len" = none
  m_range : mg "range" = none
  m_ValueError : mg "ValueError" = none
  m_isinstance : mg "isinstance" = none
  m_repr : mg "repr" = none
  m_bool : mg "bool" = none
  m_sum : mg "sum" = none
  m_max : mg "max" = none
  m_tuple : mg "tuple" = none
  m_sorted : mg "sorted" = none
  m_abs : mg "abs" = none
  g_gcd : mg "gcd" = some (.builtin "math.gcd")
  g_BendError : mg "BendError" = some (.ref A.c_BendError)
  g_BadNumber : mg "BadNumber" = some (.ref A.c_BadNumber)
  g_BadRow : mg "BadRow" = some (.ref A.c_BadRow)
  g_BadTable : mg "BadTable" = some (.ref A.c_BadTable)
  g_BadQuadruple : mg "BadQuadruple" = some (.ref A.c_BadQuadruple)
  g_BadWord : mg "BadWord" = some (.ref A.c_BadWord)
  g_BadName : mg "BadName" = some (.ref A.c_BadName)
  g_BadText : mg "BadText" = some (.ref A.c_BadText)
  g_NoPlace : mg "NoPlace" = some (.ref A.c_NoPlace)
  g_NoName : mg "NoName" = some (.ref A.c_NoName)
  g_TakenName : mg "TakenName" = some (.ref A.c_TakenName)
  g_Unlike : mg "Unlike" = some (.ref A.c_Unlike)
  g_NotThere : mg "NotThere" = some (.ref A.c_NotThere)
  g_TooMany : mg "TooMany" = some (.ref A.c_TooMany)
  g_NotKept : mg "NotKept" = some (.ref A.c_NotKept)
  g_NothingToUndo : mg "NothingToUndo" = some (.ref A.c_NothingToUndo)
  g_NothingToRedo : mg "NothingToRedo" = some (.ref A.c_NothingToRedo)
  F_BadNumber : Fun K "__init__" "BadNumber.__init__" i_BadNumber A.ai_BadNumber A.di_BadNumber
  x_BadNumber : OexC K A.c_BadNumber
  xi_BadNumber : PySem.W.findIn K (.ref A.c_BadNumber) "__init__" = some (some (.ref A.ai_BadNumber))
  xt_BadNumber : PySem.W.typeIn K (.ref A.ai_BadNumber) = some (.type "function")
  xb_BadNumber : Binds K A.di_BadNumber ["self", "what", "number"] []
  ef_BadNumber : ExF K A.c_BadNumber
  is_BadNumber_BadNumber : PySem.W.kitOne K (.ref A.c_BadNumber) (.ref A.c_BadNumber) = some true
  is_BadNumber_BadRow : PySem.W.kitOne K (.ref A.c_BadNumber) (.ref A.c_BadRow) = some false
  is_BadNumber_BadTable : PySem.W.kitOne K (.ref A.c_BadNumber) (.ref A.c_BadTable) = some false
  is_BadNumber_BadQuadruple : PySem.W.kitOne K (.ref A.c_BadNumber) (.ref A.c_BadQuadruple) = some false
  is_BadNumber_BadWord : PySem.W.kitOne K (.ref A.c_BadNumber) (.ref A.c_BadWord) = some false
  is_BadNumber_BadName : PySem.W.kitOne K (.ref A.c_BadNumber) (.ref A.c_BadName) = some false
  is_BadNumber_BadText : PySem.W.kitOne K (.ref A.c_BadNumber) (.ref A.c_BadText) = some false
  is_BadNumber_NoPlace : PySem.W.kitOne K (.ref A.c_BadNumber) (.ref A.c_NoPlace) = some false
  is_BadNumber_NoName : PySem.W.kitOne K (.ref A.c_BadNumber) (.ref A.c_NoName) = some false
  is_BadNumber_TakenName : PySem.W.kitOne K (.ref A.c_BadNumber) (.ref A.c_TakenName) = some false
  is_BadNumber_Unlike : PySem.W.kitOne K (.ref A.c_BadNumber) (.ref A.c_Unlike) = some false
  is_BadNumber_NotThere : PySem.W.kitOne K (.ref A.c_BadNumber) (.ref A.c_NotThere) = some false
  is_BadNumber_TooMany : PySem.W.kitOne K (.ref A.c_BadNumber) (.ref A.c_TooMany) = some false
  is_BadNumber_NotKept : PySem.W.kitOne K (.ref A.c_BadNumber) (.ref A.c_NotKept) = some false
  is_BadNumber_NothingToUndo : PySem.W.kitOne K (.ref A.c_BadNumber) (.ref A.c_NothingToUndo) = some false
  is_BadNumber_NothingToRedo : PySem.W.kitOne K (.ref A.c_BadNumber) (.ref A.c_NothingToRedo) = some false
  iv_BadNumber : PySem.W.kitOne K (.ref A.c_BadNumber) (.type "ValueError") = some true
  ex_BadNumber : PySem.W.exmOne K (.ref A.c_BadNumber) (.ref A.c_BendError) = some true
  xn_BadNumber_what : PySem.W.findIn K (.ref A.c_BadNumber) "what" = some none
  xn_BadNumber_number : PySem.W.findIn K (.ref A.c_BadNumber) "number" = some none

section
variable {P : Program} {w : World} {K : PySem.W.Frag} {mg : Str → Option Value} {base : Heap} {A : Adr}
def isInt (d : PyData) : Bool := isK "int" d && !isK "bool" d
def cn_is_integer : Con PyData := { args := fun d => [.im d], pre := fun _ => True, post := fun d r => r = B (isInt d) }
theorem ok_is_integer (T : Txt K mg A) : FnOk P w K mg base CX0 1 A.a_is_integer A.d_is_integer ["value"] (spC K cn_is_integer) := by
  refine fn_ok cn_is_integer T.F_is_integer sc_is_integer (fun _ => rfl) fun cdv A' outer s H hr => ⟨_, (pss_one (ps_ret (pe_and (pe_callB call_isi (by rfl) T.m_isinstance b_isinstance (pa_cons (pv 0) (pa_cons (pe_bltn (v := .ty "int") (by rfl) T.m_int b_int rfl) pa_nil))) (pe_one (pe_not (pe_callB call_isi (by rfl) T.m_isinstance b_isinstance (pa_cons (pv 0) (pa_cons (pe_bltn (v := .ty "bool") (by rfl) T.m_bool b_bool rfl) pa_nil)))))))), fun p d pre => ?_⟩
  exact ws_ret (we_v (v_and (v_cb (n_isi ok_int) (a_cons v_im (a_cons v_c a_nil))) fun _ => v_not (v_cb (n_isi ok_bool) (a_cons v_im (a_cons v_c a_nil)))) rfl)
theorem isInt_of {d : PyData} (h : isInt d = true) : ∃ i, d = .int i := by
  cases d with
  | int i => exact ⟨i, rfl⟩
  | _ => revert h; simp [isInt, isK]
/-! ### sign_in -/
def Sg (s : Int) : Prop := s = 0 ∨ s = 1 ∨ s = -1
theorem Sg.cm {a : Int} (h : Sg a) (b : Int) : CMul a b := by
  left
  rcases h with h | h | h <;> subst h <;> decide
theorem abs_nat (i : Int) : (if i < 0 then -i else i) = (i.natAbs : Int) := by split <;> omega
theorem range_ints {lo : Int} {n : Nat} {d : PyData} (h : d ∈ rangeD lo n) : ∃ i : Nat, i < n ∧ d = .int (lo + i) := by
  unfold rangeD at h
  obtain ⟨i, hi, e⟩ := List.mem_map.mp h
  exact ⟨i, List.mem_range.mp hi, e.symm⟩
/-! ### the pen -/
theorem neCA : ¬ kC = kA := by decide +kernel
theorem neCD : ¬ kC = kD := by decide +kernel
theorem neCN : ¬ kC = kN := by decide +kernel
theorem neCF : ¬ kC = kF := by decide +kernel
theorem neAD : ¬ kA = kD := by decide +kernel
theorem neAN : ¬ kA = kN := by decide +kernel
theorem neAF : ¬ kA = kF := by decide +kernel
theorem neDN : ¬ kD = kN := by decide +kernel
theorem neDF : ¬ kD = kF := by decide +kernel
theorem neNF : ¬ kN = kF := by decide +kernel
theorem getC {l : Addr} {at_ dg ct fo : Int} : valV (penD l at_ dg ct fo) kC = some (.ref l) := by unfold penD; rw [valV_pos rfl]
theorem getA {l : Addr} {at_ dg ct fo : Int} : valV (penD l at_ dg ct fo) kA = some (.int at_) := by unfold penD; rw [valV_neg neCA, valV_pos rfl]
theorem getD {l : Addr} {at_ dg ct fo : Int} : valV (penD l at_ dg ct fo) kD = some (.int dg) := by unfold penD; rw [valV_neg neCD, valV_neg neAD, valV_pos rfl]
theorem getN {l : Addr} {at_ dg ct fo : Int} : valV (penD l at_ dg ct fo) kN = some (.int ct) := by unfold penD; rw [valV_neg neCN, valV_neg neAN, valV_neg neDN, valV_pos rfl]
theorem getF {l : Addr} {at_ dg ct fo : Int} : valV (penD l at_ dg ct fo) kF = some (.int fo) := by unfold penD; rw [valV_neg neCF, valV_neg neAF, valV_neg neDF, valV_neg neNF, valV_pos rfl]
theorem putA {l : Addr} {at_ dg ct fo x : Int} : putK (penD l at_ dg ct fo) kA (.int x) = penD l x dg ct fo := by
  unfold putK penD
  simp [neCA, Ne.symm neAD, Ne.symm neAN, Ne.symm neAF]
theorem putD {l : Addr} {at_ dg ct fo x : Int} : putK (penD l at_ dg ct fo) kD (.int x) = penD l at_ x ct fo := by
  unfold putK penD
  simp [neCD, neAD, Ne.symm neDN, Ne.symm neDF]
theorem putN {l : Addr} {at_ dg ct fo x : Int} : putK (penD l at_ dg ct fo) kN (.int x) = penD l at_ dg x fo := by
  unfold putK penD
  simp [neCN, neAN, neDN, Ne.symm neNF]
theorem putF' {l : Addr} {at_ dg ct fo x : Int} : putK (penD l at_ dg ct fo) kF (.int x) = penD l at_ dg ct x := by
  unfold putK penD
  simp [neCF, neAF, neDF, neNF]
theorem penLen {l : Addr} {at_ dg ct fo : Int} : (penD l at_ dg ct fo).length < sizeLine := by rw [sizeLine_eq]; show 5 < _; decide
theorem atI_nat {α : Type} {xs : List α} {i : Nat} (h : i < xs.length) : atI xs (i : Int) = some xs[i] := by
  unfold atI
  rw [show ixN xs.length (i : Int) = some i by unfold ixN; rw [if_pos (by omega), if_pos (by omega)]; congr 1]
  simp [h]
structure PSt (H0 : Hp) (q l : Addr) (ns : List Int) (H : Hp) (at_ dg ct fo : Int) : Prop where
  h : H q = some (.dK (penD l at_ dg ct fo))
  hl : H l = some (.lst (ns.map V.int))
  ne : l ≠ q
  a0 : 0 ≤ at_
  d0 : 0 ≤ dg
  same : ∀ a o, a ≠ q → H0 a = some o → H a = some o
theorem PSt.put {H0 H : Hp} {q l : Addr} {ns : List Int} {a d c f a' d' c' f' : Int} {k : Key} {x : V} (S : PSt H0 q l ns H a d c f) (e : putK (penD l a d c f) k x = penD l a' d' c' f') (h1 : 0 ≤ a') (h2 : 0 ≤ d') :
    PSt H0 q l ns (upd H q (.dK (putK (penD l a d c f) k x))) a' d' c' f' :=
  ⟨by rw [upd_same, e], by rw [upd_ne S.ne]; exact S.hl, S.ne, h1, h2, fun b o n e => by rw [upd_ne n]; exact S.same b o n e⟩
theorem rd {σ : L2.St} {H : Hp} {Q : VK} {i : Nat} {q : Addr} {kvs : List (Key × V)} {k : Str} {v : V} (hs : σ[i]? = some (some (.ref q))) (h : H q = some (.dK kvs)) (g : valV kvs (.inr k) = some v) (hq : Q v H) : tDGet (tVar i) (tC (.str k)) σ H Q :=
  ⟨_, hs, q, v, rfl, by rw [← g]; exact DGet.k (k := .inr k) h, hq⟩
theorem ifT {b : Bool} {X Y : Prop} (h : b = true) (x : X) : if b = true then X else Y := by rw [if_pos h]; exact x
theorem ifF {b : Bool} {X Y : Prop} (h : b = false) (y : Y) : if b = true then X else Y := by rw [if_neg (by simp [h])]; exact y
theorem seqm {t u : TS} {D : Ends} {σ : L2.St} {H : Hp} (R : L2.St → Hp → Prop) (h1 : ∀ D', (∀ σ H, R σ H → D'.nx σ H) → t D' σ H) (h2 : ∀ σ H, R σ H → u D σ H) : tSeq t u D σ H := h1 { D with nx := u D } h2
def cn_draw : Con Int := { args := fun m => [.pen, I m], pre := fun m => 0 < m ∧ m.natAbs < 2 ^ 2000, post := fun m r => ∃ n : Int, 0 ≤ n ∧ n < m ∧ r = I n }
theorem ok__law_draw (T : Txt K mg A) : FnOk P w K mg base CX0 1 A.a__law_draw A.d__law_draw ["pen", "many"] (spC K cn_draw) := by
  refine T.F__law_draw.ok sc__law_draw (fun vs H Q E h => ?_) fun cdv A' outer s H vs Q E hr h => ⟨_, (pss_cons (ps_dput (hu_of hr) (pv 0) pe_str (pe_op op_add (pe_dget (hu_of hr) (pv 0) pe_str (fun _ _ => rfl)) pe_int) rfl)
  (pss_cons (ps_if (PW.pt (pw_and (pt_cmpR op_eq (pe_dget (hu_of hr) (pv 0) pe_str (fun _ _ => rfl)) pe_int (nomark _)) (pw_and1 (pt_cmpR op_lt (pe_dget (hu_of hr) (pv 0) pe_str (fun _ _ => rfl)) (pe_callB call_len_seq (by rfl) T.m_len b_len (pa_cons (pe_dget (hu_of hr) (pv 0) pe_str (fun _ _ => rfl)) pa_nil)) (nomark _)))))
  (pss_cons (ps_set (i := 2) sc__law_draw.nd rfl (Or.inl rfl) (pe_ix ix_list (pe_dget (hu_of hr) (pv 0) pe_str (fun _ _ => rfl)) (pe_dget (hu_of hr) (pv 0) pe_str (fun _ _ => rfl)) (fun _ _ => rfl)))
  (pss_cons (ps_dput (hu_of hr) (pv 0) pe_str (pe_op op_add (pe_dget (hu_of hr) (pv 0) pe_str (fun _ _ => rfl)) pe_int) rfl)
  (pss_one (ps_if (pt_cmpR op_ge (pv 2) (pe_op op_pow pe_int pe_int) (nomark _))
  (pss_one (ps_dput (hu_of hr) (pv 0) pe_str (pe_op op_sub (pv 2) (pe_op op_pow pe_int pe_int)) rfl))
  (pss_one (ps_dput (hu_of hr) (pv 0) pe_str (pe_op op_mod (pe_callTy call_int1 (by rfl) T.m_int b_int (pa_cons (pe_op op_add (pe_op op_mul (pe_dget (hu_of hr) (pv 0) pe_str (fun _ _ => rfl)) pe_int) (pv 2)) pa_nil)) pe_int) rfl))))))
  pss_nil)
  (pss_cons (ps_if (pt_cmpR op_gt (pe_dget (hu_of hr) (pv 0) pe_str (fun _ _ => rfl)) pe_int (nomark _))
  (pss_cons (ps_set (i := 3) sc__law_draw.nd rfl (Or.inl rfl) (pe_op op_mod (pe_callTy call_int1 (by rfl) T.m_int b_int (pa_cons (pe_dget (hu_of hr) (pv 0) pe_str (fun _ _ => rfl)) pa_nil)) (pv 1)))
  (pss_cons (ps_dput (hu_of hr) (pv 0) pe_str (pe_op op_fdivW (pe_dget (hu_of hr) (pv 0) pe_str (fun _ _ => rfl)) (pv 1)) rfl)
  (pss_one (ps_ret (pv 3)))))
  pss_nil)
  (pss_cons (ps_set (i := 4) sc__law_draw.nd rfl (Or.inl rfl) (pe_op op_mod (pe_callTy call_int1 (by rfl) T.m_int b_int (pa_cons (pe_op op_add (pe_op op_add (pe_op op_mul (pe_dget (hu_of hr) (pv 0) pe_str (fun _ _ => rfl)) pe_int) (pe_op op_mul (pe_dget (hu_of hr) (pv 0) pe_str (fun _ _ => rfl)) pe_int)) pe_int) pa_nil)) pe_int))
  (pss_cons (ps_set (i := 4) sc__law_draw.nd rfl (Or.inl rfl) (pe_op op_mod (pe_callTy call_int1 (by rfl) T.m_int b_int (pa_cons (pe_op op_add (pe_op op_add (pe_op op_mul (pv 4) (pv 4)) (pe_op op_mul pe_int (pv 4))) (pe_dget (hu_of hr) (pv 0) pe_str (fun _ _ => rfl))) pa_nil)) pe_int))
  (pss_cons (ps_dput (hu_of hr) (pv 0) pe_str (pe_op op_mod (pe_callTy call_int1 (by rfl) T.m_int b_int (pa_cons (pe_op op_add (pe_op op_mul (pv 4) pe_int) pe_int) pa_nil)) pe_int) rfl)
  (pss_one (ps_ret (pe_op op_mod (pe_callTy call_int1 (by rfl) T.m_int b_int (pa_cons (pe_op op_fdiv (pv 4) pe_int) pa_nil)) (pv 1)))))))))), ?_⟩
  · obtain ⟨p, a, _, r, _⟩ := h
    rw [r.length]; rfl
  · obtain ⟨p, m, pk, r, ⟨hm, hb⟩, post, _⟩ := h
    obtain ⟨v1, v2, rfl, a1, a2⟩ := all2 r
    obtain ⟨q, hq, rfl⟩ := res_pen.1 a1
    have a2 := Im.intv a2.2
    subst a2
    obtain ⟨l, ns, at_, dg, ct, fo, h1, h2, h3, h4, h5⟩ := pk q hq
    have hlq : l ≠ q := by
      intro z
      rw [z, h1] at h2; cases h2
    have S0 : PSt H q l ns H at_ dg ct fo := ⟨h1, h2, hlq, h4, h5, fun a o _ e => e⟩
    -- the result of an end
    have fin : ∀ (n : Int) (H' : Hp) (a' d' c' f' : Int), 0 ≤ n → n < m → PSt H q l ns H' a' d' c' f' → Q (.int n) H' := fun n H' a' d' c' f' n0 n1 S => by
      refine post (I n) _ H' ⟨n, n0, n1, rfl⟩ ⟨fun a o np e => S.same a o (fun z => np (by rw [hq, z])) e, fun q' l' e' k => ?_⟩ (res_im.2 (.int n))
      rw [hq] at e'; cases e'
      obtain ⟨ns', y1, y2, y3, y4, g1, g2, g3, g4, g5⟩ := k
      rw [h1] at g1
      have el : l = l' := by
        have := congrArg (fun o => match o with | some (HO.dK ((_, v) :: _)) => some v | _ => none) g1
        simpa [penD] using this
      subst el
      exact ⟨ns, a', d', c', f', S.h, S.hl, h3, S.a0, S.d0⟩
    -- count
    refine seqm (fun σ H' => σ = [some (.ref q), some (.int m), none, none, none] ∧ PSt H q l ns H' at_ dg (ct + 1) fo) (fun D hD => ?_) ?_
    · refine rd rfl S0.h getN ?_
      refine ⟨_, _, rfl, rfl, ?_⟩
      refine ⟨_, rfl, q, _, rfl, DPut.k (k := kN) S0.h penLen, ?_⟩
      exact hD _ _ ⟨rfl, S0.put putN h4 h5⟩
    rintro σ1 H1 ⟨rfl, S1⟩
    refine seqm (fun σ H' => ∃ e a' d' f', σ = [some (.ref q), some (.int m), e, none, none] ∧ PSt H q l ns H' a' d' (ct + 1) f') (fun D hD => ?_) ?_
    · -- if pen['digits'] == 0 and pen['at'] < len(pen['cells'])
      refine rd rfl S1.h getD ?_
      refine ⟨rfl, _, rfl, ?_⟩
      by_cases c1 : dg = 0
      · refine ifT (show decide (V.int dg = V.int 0) = true by simp [c1]) ?_
        refine rd rfl S1.h getA ?_
        refine rd rfl S1.h getC ?_
        refine ⟨l, _, rfl, .inl (.inl (.inl S1.hl)), ?_⟩
        refine ⟨_, _, rfl, rfl, _, rfl, ?_⟩
        show if (decide (at_ < (((ns.map V.int).length : Nat) : Int))) = true then _ else _
        rw [List.length_map]
        by_cases c2 : at_ < (ns.length : Int)
        · refine ifT (decide_eq_true c2) ?_
          obtain ⟨i, rfl⟩ := Int.eq_ofNat_of_zero_le h4
          have hi : i < ns.length := by omega
          -- cell
          refine seqm (fun σ H' => σ = [some (.ref q), some (.int m), some (.int ns[i]), none, none] ∧ PSt H q l ns H' i dg (ct + 1) fo) (fun D hD => ?_) ?_
          · refine rd rfl S1.h getC ?_
            refine rd rfl S1.h getA ?_
            refine ⟨l, _, _, _, rfl, rfl, .inl (.inl S1.hl), ?_, hD _ _ ⟨rfl, S1⟩⟩
            exact atI_nat (xs := ns.map V.int) (by simpa using hi) |>.trans (by simp)
          rintro σ2 H2 ⟨rfl, S2⟩
          refine seqm (fun σ H' => σ = [some (.ref q), some (.int m), some (.int ns[i]), none, none] ∧ PSt H q l ns H' ((i : Int) + 1) dg (ct + 1) fo) (fun D hD => ?_) ?_
          · refine rd rfl S2.h getA ?_
            refine ⟨_, _, rfl, rfl, ?_⟩
            refine ⟨_, rfl, q, _, rfl, DPut.k (k := kA) S2.h penLen, ?_⟩
            exact hD _ _ ⟨rfl, S2.put putA (by omega) h5⟩
          rintro σ3 H3 ⟨rfl, S3⟩
          refine ⟨_, rfl, _, _, rfl, rfl, ⟨by decide, by decide, by decide⟩, _, _, rfl, rfl, _, rfl, ?_⟩
          by_cases c3 : (10 : Int) ^ (18 : Int).toNat ≤ ns[i]
          · refine ifT (decide_eq_true c3) ?_
            refine ⟨_, rfl, _, _, rfl, rfl, ⟨by decide, by decide, by decide⟩, _, _, rfl, rfl, ?_⟩
            refine ⟨_, rfl, q, _, rfl, DPut.k (k := kD) S3.h penLen, ?_⟩
            exact hD _ _ ⟨_, _, _, _, rfl, S3.put putD (by omega) (by omega)⟩
          · refine ifF (decide_eq_false c3) ?_
            refine rd rfl S3.h getF ?_
            refine ⟨_, _, rfl, rfl, .inr ⟨by decide, by decide⟩, ?_⟩
            refine ⟨_, rfl, _, _, rfl, rfl, ?_⟩
            refine .inl ⟨_, rfl, _, _, rfl, rfl, (by show (0 : Int) < _; decide), ?_⟩
            refine ⟨_, rfl, q, _, rfl, DPut.k (k := kF) S3.h penLen, ?_⟩
            exact hD _ _ ⟨_, _, _, _, rfl, S3.put putF' (by omega) h5⟩
        · refine ifF (decide_eq_false c2) ?_
          exact hD _ _ ⟨_, _, _, _, rfl, S1⟩
      · refine ifF (show decide (V.int dg = V.int 0) = false by simp [c1]) ?_
        refine ifF rfl ?_
        exact hD _ _ ⟨_, _, _, _, rfl, S1⟩
    rintro σ2 H2 ⟨e, a', d', f', rfl, S2⟩
    refine rd rfl S2.h getD ?_
    refine ⟨_, _, rfl, rfl, _, rfl, ?_⟩
    by_cases c1 : 0 < d'
    · refine ifT (decide_eq_true c1) ?_
      refine rd rfl S2.h getD ?_
      refine .inl ⟨_, rfl, _, rfl, _, _, rfl, rfl, hm, ?_⟩
      refine rd rfl S2.h getD ?_
      refine ⟨_, rfl, _, _, rfl, rfl, ⟨hm, Nat.lt_of_lt_of_le (PySem.Flt.log2_lt_of (by decide) hb) (by decide)⟩, ?_⟩
      refine ⟨_, rfl, q, _, rfl, DPut.k (k := kD) S2.h penLen, ?_⟩
      refine ⟨_, rfl, fin _ _ _ _ _ _ (Int.emod_nonneg _ (by omega)) (Int.emod_lt_of_pos _ hm) (S2.put putD S2.a0 (Int.ediv_nonneg S2.d0 (by omega)))⟩
    · refine ifF (decide_eq_false c1) ?_
      show tSeq _ _ _ _ _
      -- blend, twice
      refine rd rfl S2.h getF ?_
      refine ⟨_, _, rfl, rfl, .inr ⟨by decide, by decide⟩, ?_⟩
      refine rd rfl S2.h getN ?_
      refine ⟨_, _, rfl, rfl, .inr ⟨by decide, by decide⟩, _, _, rfl, rfl, _, _, rfl, rfl, .inl ⟨_, rfl, _, _, rfl, rfl, (by show (0 : Int) < _; decide), ?_⟩⟩
      generalize hb1 : (f' * 48271 + (ct + 1) * 7919 + 13) % 2147483647 = b1
      have hb1 : 0 ≤ b1 ∧ b1 < 2147483647 := by rw [← hb1]; exact ⟨Int.emod_nonneg _ (by decide), Int.emod_lt_of_pos _ (by decide)⟩
      refine ⟨_, rfl, _, rfl, _, _, rfl, rfl, .inl ⟨by omega, by omega⟩, ?_⟩
      refine ⟨_, rfl, _, _, rfl, rfl, .inl ⟨by decide, by decide⟩, _, _, rfl, rfl, ?_⟩
      refine rd rfl S2.h getN ?_
      refine ⟨_, _, rfl, rfl, .inl ⟨_, rfl, _, _, rfl, rfl, (by show (0 : Int) < _; decide), ?_⟩⟩
      refine ⟨_, rfl, _, _, rfl, rfl, .inr ⟨by decide, by decide⟩, _, _, rfl, rfl, .inl ⟨_, rfl, _, _, rfl, rfl, (by show (0 : Int) < _; decide), ?_⟩⟩
      refine ⟨_, rfl, q, _, rfl, DPut.k (k := kF) S2.h penLen, ?_⟩
      refine ⟨_, rfl, _, _, rfl, rfl, ⟨by decide, by decide⟩, .inl ⟨_, rfl, _, rfl, _, _, rfl, rfl, hm, ?_⟩⟩
      exact fin _ _ _ _ _ _ (Int.emod_nonneg _ (by omega)) (Int.emod_lt_of_pos _ hm) (S2.put putF' S2.a0 S2.d0)
theorem merge_pen (l : Addr) (f : Int) : mergeK [] [(kC, .ref l), (kA, .int 0), (kD, .int 0), (kN, .int 0), (kF, .int f)] = penD l 0 0 0 f := by
  unfold mergeK
  show putK (putK (putK (putK (putK [] kC (.ref l)) kA (.int 0)) kD (.int 0)) kN (.int 0)) kF (.int f) = _
  rw [putK_new (kvs := []) _ (valV_nil)]
  rw [putK_new (k := kA) _ (by rw [List.nil_append, valV_neg neCA]; rfl)]
  rw [putK_new (k := kD) _ (by show valV [(kC, V.ref l), (kA, V.int 0)] kD = none; rw [valV_neg neCD, valV_neg neAD]; rfl)]
  rw [putK_new (k := kN) _ (by show valV [(kC, V.ref l), (kA, V.int 0), (kD, V.int 0)] kN = none; rw [valV_neg neCN, valV_neg neAN, valV_neg neDN]; rfl)]
  rw [putK_new (k := kF) _ (by show valV [(kC, V.ref l), (kA, V.int 0), (kD, V.int 0), (kN, V.int 0)] kF = none; rw [valV_neg neCF, valV_neg neAF, valV_neg neDF, valV_neg neNF]; rfl)]
  rfl
theorem v_pen_new {c : Cd} {Γ : List Ent} {i j : Nat} {ns : List Int} {f : Int} (hl : ns.length ≤ 63) (hi : Γ[i]? = some (.ro (ns.map PyData.int))) (hj : Γ[j]? = some (I f)) :
    VE c (tDisp [(tC (.str "cells"), tCB (rListOf c.K) (tCons (tVar i) tNil)), (tC (.str "at"), tC (.int 0)), (tC (.str "digits"), tC (.int 0)), (tC (.str "count"), tC (.int 0)), (tC (.str "fold"), tVar j)]) Γ .pn := fun H0 F σ H ev x Q' q => by
  intro a ha
  obtain ⟨s1, e1, _, y, vs, rfl, _, g, ms⟩ := ev.ent i _ hi
  obtain ⟨s2, e2, _, v2, rfl, m2⟩ := ev.ent j _ hj
  have m2 := Im.intv m2
  subst m2
  have evs := Ims.ints ms
  subst evs
  have sA : Stp c.p H (upd H a (.dK [])) := Stp.new ha
  refine ⟨_, e1, y, _, rfl, .inl (sqL_step sA ev.pok g), fun l hlN => ?_⟩
  have nla : l ≠ a := fun z => by rw [z, upd_same] at hlN; cases hlN
  have hlH : H l = none := by rw [← hlN, upd_ne nla]
  have hL : ∀ (o : HO) , upd (upd (upd H a (.dK [])) l (.lst (ns.map V.int))) a o l = some (.lst (ns.map V.int)) := fun o => by rw [upd_ne nla, upd_same]
  refine ⟨_, e2, ⟨by rw [upd_ne (Ne.symm nla), upd_same], [(kC, .ref l), (kA, .int 0), (kD, .int 0), (kN, .int 0), (kF, .int f)], rfl, (by show 5 ≤ 15; decide), ?_⟩⟩
  rw [merge_pen]
  refine q .pn _ _ rfl ⟨fun b o _ e => ?_, fun q' l' _ k => ?_⟩ ?_
  · rw [upd_ne (ne_of_none e ha), upd_ne (ne_of_none e hlH), upd_ne (ne_of_none e ha)]; exact e
  · obtain ⟨ns', x1, x2, x3, x4, g1, g2, r⟩ := k
    refine ⟨ns', x1, x2, x3, x4, ?_, ?_, r⟩
    · rw [upd_ne (ne_of_none g1 ha), upd_ne (ne_of_none g1 hlH), upd_ne (ne_of_none g1 ha)]; exact g1
    · rw [upd_ne (ne_of_none g2 ha), upd_ne (ne_of_none g2 hlH), upd_ne (ne_of_none g2 ha)]; exact g2
  · refine ⟨fun φ z => ?_, a, rfl, l, ns, 0, 0, 0, f, upd_same, hL _, hl, Int.le_refl _, Int.le_refl _⟩
    cases z
    exact ⟨a, _, rfl, trivial, ha, upd_same, trivial⟩
def cn_pen : Con (List Int) := { args := fun ns => [.ro (ns.map PyData.int)], pre := fun ns => ns.length ≤ 63, post := fun _ r => r = .pn }
theorem ok__law_pen (T : Txt K mg A) : FnOk P w K mg base CX0 1 A.a__law_pen A.d__law_pen ["script"] (spC K cn_pen) := by
  refine fn_ok cn_pen T.F__law_pen sc__law_pen (fun _ => rfl) fun cdv A' outer s H hr => ⟨_, (pss_cons (ps_set (i := 1) sc__law_pen.nd rfl (Or.inl rfl) pe_int)
  (pss_cons (ps_for PassesOwn.never rfl (pi_list (pv 0)) (pg_name (i := 2) sc__law_pen.nd rfl (Or.inl rfl))
  (pss_one (ps_set (i := 1) sc__law_pen.nd rfl (Or.inl rfl) (pe_op op_mod (pe_callTy call_int1 (by rfl) T.m_int b_int (pa_cons (pe_op op_add (pe_op op_mul (pv 1) pe_int) (pv 2)) pa_nil)) pe_int))))
  (pss_one (ps_ret (pe_disp (pps_cons pe_str (pe_callTy call_list_of (by rfl) T.m_list b_list (pa_cons (pv 0) pa_nil)) (pps_cons pe_str pe_int (pps_cons pe_str pe_int (pps_cons pe_str pe_int (pps_cons pe_str (pv 1) pps_nil))))) rfl rfl (by simp) (by decide)))))), fun p ns pre => ?_⟩
  refine ws_seq (ws_asg (we_v v_int ?_))
  refine ws_seq (ws_for (ds := ns.map PyData.int) i_ro (fun i Γ => ∃ (f : Int) (e : Ent), Γ = [.ro (ns.map PyData.int), I f, e]) (up_of ⟨0, .no, rfl⟩) ?_ ?_)
  · rintro i d Γ hd ⟨f, e, rfl⟩
    obtain ⟨z, rfl⟩ : ∃ z, d = .int z := by
      rw [List.getElem?_map] at hd
      cases h : ns[i]? with
      | none => rw [h] at hd; cases hd
      | some z => rw [h] at hd; exact ⟨z, (Option.some.inj hd).symm⟩
    refine g_name ?_
    have cm : CMul f 47 := .inr ⟨by decide, by decide⟩
    refine ws_asg (we_v (v_op (o_mod (by decide)) (v_cb n_int (a_cons (v_op o_add (v_op (o_mul cm) v_im v_int) v_im) a_nil)) v_int) ?_)
    exact up_of ⟨_, _, rfl⟩
  · rintro Γ ⟨f, e, rfl⟩
    exact ws_ret (we_v (v_pen_new pre rfl rfl) rfl)
/-! ### pick, wide -/
def cn_pick : Con (List PyData) := { args := fun ds => [.pen, .ro ds], pre := fun ds => 0 < ds.length ∧ ds.length < 1000000, post := fun ds r => ∃ d ∈ ds, r = .im d }
theorem we_ixL {c : Cd} {Γ : List Ent} {te tb : TE} {ds : List PyData} {Q : Ent → Prop} (h : VE c te Γ (.ro ds)) (k : WE c tb Γ fun r => ∃ i : Int, r = I i ∧ ∃ d, atI ds i = some d ∧ Q (.im d)) : WE c (tOp (rIxL c.K) te tb) Γ Q :=
  we_op (we_v h (k.mono fun r ⟨i, e, d, hd, q⟩ => by subst e; exact ⟨_, o_ixL hd, q⟩))
theorem ok__law_pick (T : Txt K mg A) : FnOk P w K mg base CX0 2 A.a__law_pick A.d__law_pick ["pen", "some"] (spC K cn_pick) := by
  have G__law_draw : FnOk P w K mg base CX0 1 A.a__law_draw A.d__law_draw ["pen", "many"] (spC K cn_draw) := ok__law_draw T
  refine fn_ok cn_pick T.F__law_pick sc__law_pick (fun _ => rfl) fun cdv A' outer s H hr => ⟨_, (pss_one (ps_ret (pe_ix ix_list (pv 1) (pe_call G__law_draw (hr.mono (by first | decide | omega)) (by rfl) T.g__law_draw T.k__law_draw T.b__law_draw .nil pass0 (pa_cons (pv 0) (pa_cons (pe_callB call_len_seq (by rfl) T.m_len b_len (pa_cons (pv 1) pa_nil)) pa_nil))) (fun _ _ => rfl)))), fun p ds ⟨h0, h1⟩ => ?_⟩
  refine ws_ret (we_ixL v_ro (w_call (ds.length : Int) (a_cons v_pen (a_cons (v_cb n_lenL (a_cons v_ro a_nil)) a_nil)) rfl ⟨by omega, ?_⟩ ?_ (fun _ h => h)))
  · have : (2 : Nat) ^ 20 ≤ 2 ^ 2000 := Nat.pow_le_pow_right (by decide) (by decide)
    have e : (2 : Nat) ^ 20 = 1048576 := by decide
    omega
  · rintro r ⟨n, n0, n1, rfl⟩
    obtain ⟨i, rfl⟩ := Int.eq_ofNat_of_zero_le n0
    have hi : i < ds.length := by omega
    exact ⟨_, rfl, ds[i], atI_nat hi, ds[i], List.getElem_mem hi, rfl⟩
theorem ok_BadNumber (T : Txt K mg A) : FnOk P w K mg base CX0 1 A.ai_BadNumber A.di_BadNumber ["self", "what", "number"] (spInit A.c_BadNumber ["what", "number"]) := by
  refine T.F_BadNumber.ok sci_BadNumber (fun vs H Q E h => ?_) fun cdv A' outer s H vs Q E hr h => ⟨_, (pss_cons (ps_ost (pv 0) (pv 1) rfl)
  (pss_one (ps_ost (pv 0) (pv 2) rfl))), ?_⟩
  · obtain ⟨a, ws, rfl, h, _⟩ := h
    show ws.length + 1 = 3
    rw [h]; rfl
  · obtain ⟨a, ws, rfl, h, ha, k⟩ := h
    match ws, h, k with
    | [w1, w2], _, k => exact init2 T.x_BadNumber T.xn_BadNumber_what T.xn_BadNumber_number ha fun d H' h1 h2 h3 h4 h5 => k d H' h1 h2 h3 h4 h5
def errN (A : Adr) (what : Str) (d : PyData) : Err := (A.c_BadNumber, [("number", d), ("what", .str what)])
theorem small_lt {n : Nat} (h : n < 1048576) : n < 2 ^ 2000 := by
  have : (2 : Nat) ^ 20 ≤ 2 ^ 2000 := Nat.pow_le_pow_right (by decide) (by decide)
  have e : (2 : Nat) ^ 20 = 1048576 := by decide
  omega
theorem t200 : 10 ^ 200 ≤ (2 : Nat) ^ 700 := by decide +kernel
/-- BadNumber(what, number) -/
def ceN (A : Adr) (post : Str × PyData → Ent → Prop) : ConE (Str × PyData) := { cl := fun _ => A.c_BadNumber, fs := fun a => [("number", a.2), ("what", .str a.1)], pre := fun a => Shw a.2, post := post }
def kdN (a : Str × PyData) : PyData := .tuple [.str "number", .str a.1, .str a.2.shown]
def ce_more (A : Adr) : ConE (Str × PyData) := ceN A fun _ r => r = .ls []
def ce_kinds (A : Adr) : ConE (Str × PyData) := ceN A fun a r => r = .ls [kdN a]
theorem ok__law_more_kinds (T : Txt K mg A) : FnE P w K mg base 1 A.a__law_more_kinds A.d__law_more_kinds ["e"] (spE K (ce_more A)) := by
  refine fn_okC (ce_more A) T.F__law_more_kinds sc__law_more_kinds rfl fun cdv A' outer s H pa oe dd p a gd hr hz hf pre => ?_
  have hu64 : (A'.deeper (PyProof.Rows.envOfC "_law_more_kinds" (defScope s__law_more_kinds) s.heap.objs.size A.a__law_more_kinds cdv)).units + 64 < cLine := by have := hr.un; omega
  have hp : (pa, oe) ∈ [(pa, oe)] := List.mem_singleton.mpr rfl
  refine ⟨_, (pss_cons (ps_set (i := 1) sc__law_more_kinds.nd rfl (Or.inl rfl) (pe_lst pa_nil))
  (pss_cons (ps_if (pt_val (pe_callB (call_isE hp hz hf) (by rfl) T.m_isinstance b_isinstance (pa_cons (pv 0) (pa_cons (pe_glob (v := .ref A.c_NoName) (by rfl) T.g_NoName rfl) pa_nil))))
  (pss_one (ps_expr (pe_bm PySem.F.plainAttrs_list PySem.F.slot_list_append PySem.F.type_list_append mt_append (pv 1) (pa_cons (pe_tup (pa_cons pe_str (pa_cons (pe_callB (call_reprD gd hu64) (by rfl) T.m_repr b_repr (pa_cons (pe_ex hp hz hf (pv 0)) pa_nil)) pa_nil))) pa_nil))))
  pss_nil)
  (pss_cons (ps_if (pt_val (pe_callB (call_isE hp hz hf) (by rfl) T.m_isinstance b_isinstance (pa_cons (pv 0) (pa_cons (pe_glob (v := .ref A.c_TakenName) (by rfl) T.g_TakenName rfl) pa_nil))))
  (pss_one (ps_expr (pe_bm PySem.F.plainAttrs_list PySem.F.slot_list_append PySem.F.type_list_append mt_append (pv 1) (pa_cons (pe_tup (pa_cons pe_str (pa_cons (pe_callB (call_reprD gd hu64) (by rfl) T.m_repr b_repr (pa_cons (pe_ex hp hz hf (pv 0)) pa_nil)) pa_nil))) pa_nil))))
  pss_nil)
  (pss_cons (ps_if (pt_val (pe_callB (call_isE hp hz hf) (by rfl) T.m_isinstance b_isinstance (pa_cons (pv 0) (pa_cons (pe_glob (v := .ref A.c_Unlike) (by rfl) T.g_Unlike rfl) pa_nil))))
  (pss_one (ps_expr (pe_bm PySem.F.plainAttrs_list PySem.F.slot_list_append PySem.F.type_list_append mt_append (pv 1) (pa_cons (pe_tup (pa_cons pe_str (pa_cons (pe_ex hp hz hf (pv 0)) pa_nil))) pa_nil))))
  pss_nil)
  (pss_cons (ps_if (pt_val (pe_callB (call_isE hp hz hf) (by rfl) T.m_isinstance b_isinstance (pa_cons (pv 0) (pa_cons (pe_glob (v := .ref A.c_NotThere) (by rfl) T.g_NotThere rfl) pa_nil))))
  (pss_one (ps_expr (pe_bm PySem.F.plainAttrs_list PySem.F.slot_list_append PySem.F.type_list_append mt_append (pv 1) (pa_cons (pe_tup (pa_cons pe_str (pa_cons (pe_ex hp hz hf (pv 0)) pa_nil))) pa_nil))))
  pss_nil)
  (pss_cons (ps_if (pt_val (pe_callB (call_isE hp hz hf) (by rfl) T.m_isinstance b_isinstance (pa_cons (pv 0) (pa_cons (pe_glob (v := .ref A.c_TooMany) (by rfl) T.g_TooMany rfl) pa_nil))))
  (pss_one (ps_expr (pe_bm PySem.F.plainAttrs_list PySem.F.slot_list_append PySem.F.type_list_append mt_append (pv 1) (pa_cons (pe_tup (pa_cons pe_str (pa_cons (pe_ex hp hz hf (pv 0)) (pa_cons (pe_ex hp hz hf (pv 0)) (pa_cons (pe_ex hp hz hf (pv 0)) pa_nil))))) pa_nil))))
  pss_nil)
  (pss_cons (ps_if (pt_val (pe_callB (call_isE hp hz hf) (by rfl) T.m_isinstance b_isinstance (pa_cons (pv 0) (pa_cons (pe_glob (v := .ref A.c_NotKept) (by rfl) T.g_NotKept rfl) pa_nil))))
  (pss_one (ps_expr (pe_bm PySem.F.plainAttrs_list PySem.F.slot_list_append PySem.F.type_list_append mt_append (pv 1) (pa_cons (pe_tup (pa_cons pe_str (pa_cons (pe_ex hp hz hf (pv 0)) (pa_cons (pe_ex hp hz hf (pv 0)) pa_nil)))) pa_nil))))
  pss_nil)
  (pss_cons (ps_if (pt_val (pe_callB (call_isE hp hz hf) (by rfl) T.m_isinstance b_isinstance (pa_cons (pv 0) (pa_cons (pe_glob (v := .ref A.c_NothingToUndo) (by rfl) T.g_NothingToUndo rfl) pa_nil))))
  (pss_one (ps_expr (pe_bm PySem.F.plainAttrs_list PySem.F.slot_list_append PySem.F.type_list_append mt_append (pv 1) (pa_cons (pe_tup (pa_cons pe_str pa_nil)) pa_nil))))
  pss_nil)
  (pss_cons (ps_if (pt_val (pe_callB (call_isE hp hz hf) (by rfl) T.m_isinstance b_isinstance (pa_cons (pv 0) (pa_cons (pe_glob (v := .ref A.c_NothingToRedo) (by rfl) T.g_NothingToRedo rfl) pa_nil))))
  (pss_one (ps_expr (pe_bm PySem.F.plainAttrs_list PySem.F.slot_list_append PySem.F.type_list_append mt_append (pv 1) (pa_cons (pe_tup (pa_cons pe_str pa_nil)) pa_nil))))
  pss_nil)
  (pss_one (ps_ret (pv 1)))))))))))), ?_⟩
  refine ws_seq (ws_asg (we_v (v_lst (ds := []) a_nil) ?_))
  refine ws_seq (s_if (k := false) (t_B (v_cb (n_isE T.ef_BadNumber (.own _) T.is_BadNumber_NoName) (a_cons v_ex (a_cons v_c a_nil)))) (fun h => by cases h) fun _ => ws_next ?_)
  refine ws_seq (s_if (k := false) (t_B (v_cb (n_isE T.ef_BadNumber (.own _) T.is_BadNumber_TakenName) (a_cons v_ex (a_cons v_c a_nil)))) (fun h => by cases h) fun _ => ws_next ?_)
  refine ws_seq (s_if (k := false) (t_B (v_cb (n_isE T.ef_BadNumber (.own _) T.is_BadNumber_Unlike) (a_cons v_ex (a_cons v_c a_nil)))) (fun h => by cases h) fun _ => ws_next ?_)
  refine ws_seq (s_if (k := false) (t_B (v_cb (n_isE T.ef_BadNumber (.own _) T.is_BadNumber_NotThere) (a_cons v_ex (a_cons v_c a_nil)))) (fun h => by cases h) fun _ => ws_next ?_)
  refine ws_seq (s_if (k := false) (t_B (v_cb (n_isE T.ef_BadNumber (.own _) T.is_BadNumber_TooMany) (a_cons v_ex (a_cons v_c a_nil)))) (fun h => by cases h) fun _ => ws_next ?_)
  refine ws_seq (s_if (k := false) (t_B (v_cb (n_isE T.ef_BadNumber (.own _) T.is_BadNumber_NotKept) (a_cons v_ex (a_cons v_c a_nil)))) (fun h => by cases h) fun _ => ws_next ?_)
  refine ws_seq (s_if (k := false) (t_B (v_cb (n_isE T.ef_BadNumber (.own _) T.is_BadNumber_NothingToUndo) (a_cons v_ex (a_cons v_c a_nil)))) (fun h => by cases h) fun _ => ws_next ?_)
  refine ws_seq (s_if (k := false) (t_B (v_cb (n_isE T.ef_BadNumber (.own _) T.is_BadNumber_NothingToRedo) (a_cons v_ex (a_cons v_c a_nil)))) (fun h => by cases h) fun _ => ws_next ?_)
  exact ws_retV rfl rfl
theorem ok__law_kinds (T : Txt K mg A) : FnE P w K mg base 2 A.a__law_kinds A.d__law_kinds ["e"] (spE K (ce_kinds A)) := by
  have G__law_more_kinds : FnE P w K mg base 1 A.a__law_more_kinds A.d__law_more_kinds ["e"] (spE K (ce_more A)) := ok__law_more_kinds T
  refine fn_okC (ce_kinds A) T.F__law_kinds sc__law_kinds rfl fun cdv A' outer s H pa oe dd p a gd hr hz hf pre => ?_
  have hu64 : (A'.deeper (PyProof.Rows.envOfC "_law_kinds" (defScope s__law_kinds) s.heap.objs.size A.a__law_kinds cdv)).units + 64 < cLine := by have := hr.un; omega
  have hp : (pa, oe) ∈ [(pa, oe)] := List.mem_singleton.mpr rfl
  have hrE := hr
  refine ⟨_, (pss_cons (ps_set (i := 1) sc__law_kinds.nd rfl (Or.inl rfl) (pe_lst pa_nil))
  (pss_cons (ps_if (pt_val (pe_callB (call_isE hp hz hf) (by rfl) T.m_isinstance b_isinstance (pa_cons (pv 0) (pa_cons (pe_glob (v := .ref A.c_BadNumber) (by rfl) T.g_BadNumber rfl) pa_nil))))
  (pss_one (ps_expr (pe_bm PySem.F.plainAttrs_list PySem.F.slot_list_append PySem.F.type_list_append mt_append (pv 1) (pa_cons (pe_tup (pa_cons pe_str (pa_cons (pe_ex hp hz hf (pv 0)) (pa_cons (pe_callB (call_reprD gd hu64) (by rfl) T.m_repr b_repr (pa_cons (pe_ex hp hz hf (pv 0)) pa_nil)) pa_nil)))) pa_nil))))
  pss_nil)
  (pss_cons (ps_if (pt_val (pe_callB (call_isE hp hz hf) (by rfl) T.m_isinstance b_isinstance (pa_cons (pv 0) (pa_cons (pe_glob (v := .ref A.c_BadRow) (by rfl) T.g_BadRow rfl) pa_nil))))
  (pss_one (ps_expr (pe_bm PySem.F.plainAttrs_list PySem.F.slot_list_append PySem.F.type_list_append mt_append (pv 1) (pa_cons (pe_tup (pa_cons pe_str (pa_cons (pe_ex hp hz hf (pv 0)) (pa_cons (pe_callB (call_reprD gd hu64) (by rfl) T.m_repr b_repr (pa_cons (pe_ex hp hz hf (pv 0)) pa_nil)) pa_nil)))) pa_nil))))
  pss_nil)
  (pss_cons (ps_if (pt_val (pe_callB (call_isE hp hz hf) (by rfl) T.m_isinstance b_isinstance (pa_cons (pv 0) (pa_cons (pe_glob (v := .ref A.c_BadTable) (by rfl) T.g_BadTable rfl) pa_nil))))
  (pss_one (ps_expr (pe_bm PySem.F.plainAttrs_list PySem.F.slot_list_append PySem.F.type_list_append mt_append (pv 1) (pa_cons (pe_tup (pa_cons pe_str (pa_cons (pe_ex hp hz hf (pv 0)) pa_nil))) pa_nil))))
  pss_nil)
  (pss_cons (ps_if (pt_val (pe_callB (call_isE hp hz hf) (by rfl) T.m_isinstance b_isinstance (pa_cons (pv 0) (pa_cons (pe_glob (v := .ref A.c_BadQuadruple) (by rfl) T.g_BadQuadruple rfl) pa_nil))))
  (pss_one (ps_expr (pe_bm PySem.F.plainAttrs_list PySem.F.slot_list_append PySem.F.type_list_append mt_append (pv 1) (pa_cons (pe_tup (pa_cons pe_str (pa_cons (pe_ex hp hz hf (pv 0)) pa_nil))) pa_nil))))
  pss_nil)
  (pss_cons (ps_if (pt_val (pe_callB (call_isE hp hz hf) (by rfl) T.m_isinstance b_isinstance (pa_cons (pv 0) (pa_cons (pe_glob (v := .ref A.c_BadWord) (by rfl) T.g_BadWord rfl) pa_nil))))
  (pss_one (ps_expr (pe_bm PySem.F.plainAttrs_list PySem.F.slot_list_append PySem.F.type_list_append mt_append (pv 1) (pa_cons (pe_tup (pa_cons pe_str (pa_cons (pe_ex hp hz hf (pv 0)) (pa_cons (pe_callB (call_reprD gd hu64) (by rfl) T.m_repr b_repr (pa_cons (pe_ex hp hz hf (pv 0)) pa_nil)) pa_nil)))) pa_nil))))
  pss_nil)
  (pss_cons (ps_if (pt_val (pe_callB (call_isE hp hz hf) (by rfl) T.m_isinstance b_isinstance (pa_cons (pv 0) (pa_cons (pe_glob (v := .ref A.c_BadName) (by rfl) T.g_BadName rfl) pa_nil))))
  (pss_one (ps_expr (pe_bm PySem.F.plainAttrs_list PySem.F.slot_list_append PySem.F.type_list_append mt_append (pv 1) (pa_cons (pe_tup (pa_cons pe_str (pa_cons (pe_callB (call_reprD gd hu64) (by rfl) T.m_repr b_repr (pa_cons (pe_ex hp hz hf (pv 0)) pa_nil)) pa_nil))) pa_nil))))
  pss_nil)
  (pss_cons (ps_if (pt_val (pe_callB (call_isE hp hz hf) (by rfl) T.m_isinstance b_isinstance (pa_cons (pv 0) (pa_cons (pe_glob (v := .ref A.c_BadText) (by rfl) T.g_BadText rfl) pa_nil))))
  (pss_one (ps_expr (pe_bm PySem.F.plainAttrs_list PySem.F.slot_list_append PySem.F.type_list_append mt_append (pv 1) (pa_cons (pe_tup (pa_cons pe_str (pa_cons (pe_ex hp hz hf (pv 0)) (pa_cons (pe_ex hp hz hf (pv 0)) pa_nil)))) pa_nil))))
  pss_nil)
  (pss_cons (ps_if (pt_val (pe_callB (call_isE hp hz hf) (by rfl) T.m_isinstance b_isinstance (pa_cons (pv 0) (pa_cons (pe_glob (v := .ref A.c_NoPlace) (by rfl) T.g_NoPlace rfl) pa_nil))))
  (pss_one (ps_expr (pe_bm PySem.F.plainAttrs_list PySem.F.slot_list_append PySem.F.type_list_append mt_append (pv 1) (pa_cons (pe_tup (pa_cons pe_str (pa_cons (pe_ex hp hz hf (pv 0)) (pa_cons (pe_callB (call_reprD gd hu64) (by rfl) T.m_repr b_repr (pa_cons (pe_ex hp hz hf (pv 0)) pa_nil)) pa_nil)))) pa_nil))))
  pss_nil)
  (pss_one (ps_ret (pe_op op_cat (pv 1) (pe_callE G__law_more_kinds hrE gd hp hz hf (by rfl) T.g__law_more_kinds T.k__law_more_kinds T.b__law_more_kinds (pa_cons (pv 0) pa_nil)))))))))))))), ?_⟩
  obtain ⟨what, n⟩ := a
  refine ws_seq (ws_asg (we_v (v_lst (ds := []) a_nil) ?_))
  refine ws_seq (s_if (k := true) (t_B (v_cb (n_isE T.ef_BadNumber (.own _) T.is_BadNumber_BadNumber) (a_cons v_ex (a_cons v_c a_nil)))) (fun _ => s_app (ds := []) (d := kdN (what, n)) (v_tup (ds := [.str "number", .str what, .str n.shown]) (a_cons v_str (a_cons (v_exf T.ef_BadNumber T.xn_BadNumber_what v_ex (by rfl)) (a_cons (v_cb (n_repr pre) (a_cons (v_exf T.ef_BadNumber T.xn_BadNumber_number v_ex (by rfl)) a_nil)) a_nil))) (by show 3 ≤ 1000000; decide)) ?_ (by show 0 < 1000000; decide)) fun h => by cases h)
  refine ws_seq (s_if (k := false) (t_B (v_cb (n_isE T.ef_BadNumber (.own _) T.is_BadNumber_BadRow) (a_cons v_ex (a_cons v_c a_nil)))) (fun h => by cases h) fun _ => ws_next ?_)
  refine ws_seq (s_if (k := false) (t_B (v_cb (n_isE T.ef_BadNumber (.own _) T.is_BadNumber_BadTable) (a_cons v_ex (a_cons v_c a_nil)))) (fun h => by cases h) fun _ => ws_next ?_)
  refine ws_seq (s_if (k := false) (t_B (v_cb (n_isE T.ef_BadNumber (.own _) T.is_BadNumber_BadQuadruple) (a_cons v_ex (a_cons v_c a_nil)))) (fun h => by cases h) fun _ => ws_next ?_)
  refine ws_seq (s_if (k := false) (t_B (v_cb (n_isE T.ef_BadNumber (.own _) T.is_BadNumber_BadWord) (a_cons v_ex (a_cons v_c a_nil)))) (fun h => by cases h) fun _ => ws_next ?_)
  refine ws_seq (s_if (k := false) (t_B (v_cb (n_isE T.ef_BadNumber (.own _) T.is_BadNumber_BadName) (a_cons v_ex (a_cons v_c a_nil)))) (fun h => by cases h) fun _ => ws_next ?_)
  refine ws_seq (s_if (k := false) (t_B (v_cb (n_isE T.ef_BadNumber (.own _) T.is_BadNumber_BadText) (a_cons v_ex (a_cons v_c a_nil)))) (fun h => by cases h) fun _ => ws_next ?_)
  refine ws_seq (s_if (k := false) (t_B (v_cb (n_isE T.ef_BadNumber (.own _) T.is_BadNumber_NoPlace) (a_cons v_ex (a_cons v_c a_nil)))) (fun h => by cases h) fun _ => ws_next ?_)
  exact ws_ret (we_v (v_catV (ds := [kdN (what, n)]) (es := []) (by show 1 ≤ 1000000; decide) (v_callE (C := ce_more A) (what, n) (a_cons v_ex a_nil) pre (fun r h => h))) rfl)
/-! ### _law_fault -/
theorem fault_gives {A : Adr} {X : Cx} (T : Txt X.K X.mg A) (G__law_kinds : FnE X.prog X.w X.K X.mg X.base 2 A.a__law_kinds A.d__law_kinds ["e"] (spE X.K (ce_kinds A))) (gd : X.A.guards = some []) (hr0 : Room 4 X.A) {g : Addr} {cdg : Value} {q : Str} :
    LamX.GivesTo X ["call", "found", "e"] "_law_fault" (defScope s__law_fault) g cdg (defBody s__law_fault) "call" q (TFault X.K (ce_kinds A) kdN) := by
  intro f c' s H Q tl act hc h
  have hr := hr0.deeper (k := 3) (PyProof.Rows.envOfC "_law_fault" (defScope s__law_fault) s.heap.objs.size g cdg)
  have hrE : L2H.RoomH 2 (X.A.deeper (PyProof.Rows.envOfC "_law_fault" (defScope s__law_fault) s.heap.objs.size g cdg)) := L2H.roomH_of (hr.mono (by decide))
  refine ⟨_, pss_cons (ps_set (i := 1) sc__law_fault.nd rfl (Or.inl rfl) pe_non)
    (pss_cons (ps_try_as (i := 2) (tb := fun W => fun D σ H => ∃ Ech : XK, (∀ cls d σ' H', Ech cls d H' → σ'.length = 3 → W cls d σ' H') ∧ σ[0]? = some (some (.ref f)) ∧ H c' = some (LamX.CodeO c' q) ∧ tl Ech H (fun _ H1 => D.nx σ H1)) (Wout := fun _ _ _ _ => False)
      rfl rfl sc__law_fault.nd rfl rfl ⟨rfl, by decide, Or.inl T.g_BendError⟩ LamX.takes0
      (fun W pn xe tk _ => ⟨fun pins s' σ H' D I ⟨Ech, hW, h1, h2, h3⟩ => (pss_one (ps_expr (act _ pn xe Ech _ _ (takes_len tk) hW))).run pins s' σ H' D I ⟨h1, h2, h3⟩⟩)
      (fun pa oe cls d pn hz hf =>
        have hp : (pa, oe) ∈ (pa, oe) :: pn := List.mem_cons_self
        have hrE : L2H.RoomH 2 ((X.A.deeper (PyProof.Rows.envOfC "_law_fault" (defScope s__law_fault) s.heap.objs.size g cdg)).mark (some (.ref pa))) := ⟨hrE.dp, hrE.un⟩
        (pss_cons (ps_set (i := 1) sc__law_fault.nd rfl (Or.inl rfl) (pe_callE G__law_kinds hrE gd hp hz hf (by rfl) T.g__law_kinds T.k__law_kinds T.b__law_kinds (pa_cons (pv 2) pa_nil)))
  (pss_one (ps_set (i := 1) sc__law_fault.nd rfl (Or.inl rfl) (pe_ifExp (PW.pt (pw_and (pt_cmpR op_eq (pe_callB (r := rLen X.K) call_len_seq (by rfl) T.m_len b_len (pa_cons (pv 1) pa_nil)) pe_int (nomark _)) (pw_and1 (pt_val (pe_callB (r := rIsE X.K pa cls d) (call_isE hp hz hf) (by rfl) T.m_isinstance b_isinstance (pa_cons (pv 2) (pa_cons (pe_bltn (v := .ty "ValueError") (by rfl) T.m_ValueError b_ValueError rfl) pa_nil))))))) (pe_ix (r := rIxL X.K) ix_list (pv 1) pe_int (fun _ _ => rfl)) (pe_tup (pa_cons pe_str (pa_cons (pe_callB (r := rLen X.K) call_len_seq (by rfl) T.m_len b_len (pa_cons (pv 1) pa_nil)) pa_nil)))))))))
    (pss_one (ps_ret (pv 1)))), ?_⟩
  refine ⟨EFault X.K (ce_kinds A) kdN Q, fun cls d σ' H' he hl => ?_, rfl, hc, h _ fun v H' hq => ⟨_, rfl, hq⟩⟩
  obtain ⟨p, a, dd, rfl, rfl, pk, ex, pre, k⟩ := he
  obtain ⟨x0, x1, x2, rfl⟩ : ∃ x0 x1 x2, σ' = [x0, x1, x2] := by
    match σ', hl with
    | [x0, x1, x2], _ => exact ⟨x0, x1, x2, rfl⟩
  refine ⟨true, T.ex_BadNumber, fun _ pa hpa => ?_, fun z => by cases z⟩
  have ev : Ev X.K p H' (fun _ => none) [.no, .no, .ex pa dd ((ce_kinds A).fs a)] [x0, x1, some (.ref pa)] H' := by
    refine ⟨fun i e g => ?_, fun i j b e1 e2 _ gi _ hd _ _ _ => ?_, Stp.refl _ _, pk, (fun _ _ z => by cases z), fun _ _ => rfl⟩
    · match i, g with
      | 0, g => cases g; exact ⟨_, rfl, (fun φ z => by cases z), trivial⟩
      | 1, g => cases g; exact ⟨_, rfl, (fun φ z => by cases z), trivial⟩
      | 2, g => cases g; exact ⟨_, rfl, (fun φ z => by cases z), rfl, ex⟩
    · match i, gi with
      | 0, gi => cases gi; cases hd
      | 1, gi => cases gi; cases hd
      | 2, gi => cases gi; cases hd
  refine WS.run (c := c0 X.K p) (P := { nx := fun Γ => Γ[1]? = some (.im (kdN a)), rt := fun _ => False }) ?_ ev xok0 ⟨fun Γ σ2 H2 hn e2 => ?_, fun _ _ _ z => z.elim, fun _ _ _ z => z.elim, fun _ _ _ z => z.elim⟩
  · refine ws_seq (ws_asg (we_v (v_callE (C := ce_kinds A) a (a_cons v_ex a_nil) pre (fun r h => h)) ?_))
    refine ws_asg (we_v (v_if (r := .im (kdN a)) (b := true) (vt_is (t_and (t_test (v_op o_eqI (v_cb n_lenL (a_cons v_ls a_nil)) v_int)) fun _ => t_B (v_cb (n_isE T.ef_BadNumber (.ty _) T.iv_BadNumber) (a_cons v_ex (a_cons v_c a_nil)))) (by rfl))
      (fun _ => v_op (o_ixL (ds := [kdN a]) (i := 0) rfl) v_ls v_int) fun h => by cases h) ?_)
    rfl
  obtain ⟨s2, hs2, _, v, rfl, mv⟩ := e2.ent 1 _ hn
  refine ⟨v, ?_, k v H2 e2.stp mv⟩
  rw [List.getElem?_set_ne (by decide)]
  exact hs2
def bads : List PyData := [.none, .bool true, .str "1", .tuple [.int 1, .int 2]]
theorem shw_by {d : PyData} (h : (d.showable && decide (d.depth ≤ 60) && !d.hasDict && decide (d.shown.length ≤ sizeLine)) = true) : Shw d := by
  simp only [Bool.and_eq_true, decide_eq_true_eq, Bool.not_eq_true'] at h
  exact ⟨h.1.1.1, h.1.1.2, h.1.2, h.2⟩
/-! ### packings -/
def tupI (l : List Int) : PyData := .tuple (l.map PyData.int)
def gcdN (g : Nat) (l : List Int) : Nat := l.foldl (fun g x => Nat.gcd g x.natAbs) g
def cn_common : Con (List Int) := { args := fun l => [.im (tupI l)], pre := fun l => l.length ≤ 1000, post := fun l r => r = I (gcdN 0 l) }
theorem gcdN_snoc (g : Nat) (l : List Int) (x : Int) : gcdN g (l ++ [x]) = Nat.gcd (gcdN g l) x.natAbs := by unfold gcdN; rw [List.foldl_append]; rfl
theorem ok__law_common (T : Txt K mg A) : FnOk P w K mg base CX0 1 A.a__law_common A.d__law_common ["four"] (spC K cn_common) := by
  refine fn_ok cn_common T.F__law_common sc__law_common (fun _ => rfl) fun cdv A' outer s H hr => ⟨_, (pss_cons (ps_set (i := 1) sc__law_common.nd rfl (Or.inl rfl) pe_int)
  (pss_cons (ps_for PassesOwn.never rfl (pi_tup (pv 0)) (pg_name (i := 2) sc__law_common.nd rfl (Or.inl rfl))
  (pss_cons (ps_par (i := 3) (j := 4) (by rfl) sc__law_common.nd rfl rfl (by decide) rfl rfl (pa_cons (pv 1) (pa_cons (pe_ifExp (pt_cmpR op_ge (pv 2) pe_int (nomark _)) (pv 2) (pe_un un_neg (pv 2))) pa_nil)) (by rfl))
  (pss_cons (ps_while PassesOwn.never (pt_cmpR op_ne (pv 4) pe_int (nomark _))
  (pss_one (ps_par (i := 3) (j := 4) (by rfl) sc__law_common.nd rfl rfl (by decide) rfl rfl (pa_cons (pv 4) (pa_cons (pe_op op_mod (pe_callTy call_int1 (by rfl) T.m_int b_int (pa_cons (pv 3) pa_nil)) (pv 4)) pa_nil)) (by rfl))))
  (pss_one (ps_set (i := 1) sc__law_common.nd rfl (Or.inl rfl) (pv 3))))))
  (pss_one (ps_ret (pv 1))))), fun p l hl => ?_⟩
  refine ws_seq (ws_asg (we_v v_int ?_))
  refine ws_seq (ws_for (i_tup v_im) (fun i Γ => ∃ e1 e2 e3 : Ent, Γ = [.im (tupI l), I (gcdN 0 (l.take i)), e1, e2, e3]) (up_of ⟨.no, .no, .no, by rw [List.take_zero]; rfl⟩) ?_ ?_)
  · rintro i d Γ hd ⟨e1, e2, e3, rfl⟩
    rw [List.getElem?_map] at hd
    cases hx : l[i]? with
    | none => rw [hx] at hd; cases hd
    | some x =>
      rw [hx] at hd
      obtain rfl : PyData.int x = d := Option.some.inj hd
      have step : gcdN 0 (l.take (i + 1)) = Nat.gcd (gcdN 0 (l.take i)) x.natAbs := by
        rw [List.take_add_one, hx]
        exact gcdN_snoc _ _ _
      refine g_name ?_
      refine ws_seq (s_par (a_cons v_im (a_cons (v_if (r := I x.natAbs) (t_test (v_op o_ge v_im v_int)) (fun h => ve_is v_im ?_) fun h => ve_is (v_un o_neg v_im) ?_) a_nil)) ?_)
      · have h : (0 : Int) ≤ x := of_decide_eq_true h
        show I x = I _
        congr 2; omega
      · have h : ¬ (0 : Int) ≤ x := of_decide_eq_false h
        show I (-x) = I _
        congr 2; omega
      show WS _ _ [.im (tupI l), I (gcdN 0 (l.take i)), I x, I (gcdN 0 (l.take i)), I x.natAbs] _
      refine ws_seq (ws_while (fun m Γ => ∃ (a b : Nat), b = m ∧ Γ = [.im (tupI l), I (gcdN 0 (l.take i)), I x, I a, I b] ∧ Nat.gcd a b = gcdN 0 (l.take (i + 1))) x.natAbs (up_of ⟨_, _, rfl, rfl, step.symm⟩) ?_)
      rintro m Γ ⟨a, b, rfl, rfl, e⟩
      refine wt_v (t_test (v_op o_neI v_im v_int)) ⟨fun h => ?_, fun h => ?_⟩
      · have h : ¬ (b : Int) = 0 := by simpa using h
        have hj : (0 : Int) < (b : Int) := by omega
        refine s_par (a_cons v_im (a_cons (v_op (o_mod hj) (v_cb n_int (a_cons v_im a_nil)) v_im) a_nil)) ?_
        refine ⟨a % b, Nat.mod_lt _ (by omega), up_of ⟨b, a % b, rfl, ?_, ?_⟩⟩
        · show [_, _, _, I b, I ((a : Int) % (b : Int))] = _
          rw [Int.natCast_emod]
        · rw [← e, Nat.gcd_comm a b, Nat.gcd_rec b a, Nat.gcd_comm]
      · have h : (b : Int) = 0 := by simpa using h
        have hm : b = 0 := by omega
        subst hm
        rw [Nat.gcd_zero_right] at e
        refine ws_asg (we_v v_im ?_)
        exact up_of ⟨_, _, _, by rw [← e]; rfl⟩
  · rintro Γ ⟨e1, e2, e3, rfl⟩
    refine ws_ret (we_v v_im ?_)
    show I _ = I _
    rw [List.length_map, List.take_length]
def swapL (l : List Int) (k : Nat) : List Int := l.take k ++ ([2 * (l.sum - l.getD k 0) - l.getD k 0] ++ l.drop (k + 1))
def cn_swapped : Con (List Int × Nat) := { args := fun d => [.im (tupI d.1), I d.2], pre := fun d => d.1.length = 4 ∧ d.2 < 4, post := fun d r => r = .im (tupI (swapL d.1 d.2)) }
theorem swapL_len {l : List Int} {k : Nat} (h : l.length = 4) (hk : k < 4) : (swapL l k).length = 4 := by
  unfold swapL
  simp [h]; omega
theorem atI_tup {l : List Int} {k : Nat} (hk : k < l.length) : atI (l.map PyData.int) (k : Int) = some (.int (l.getD k 0)) := by
  rw [atI_nat (xs := l.map PyData.int) (by simpa using hk)]
  simp [hk]
theorem ok__law_swapped (T : Txt K mg A) : FnOk P w K mg base CX0 1 A.a__law_swapped A.d__law_swapped ["four", "place"] (spC K cn_swapped) := by
  refine fn_ok cn_swapped T.F__law_swapped sc__law_swapped (fun _ => rfl) fun cdv A' outer s H hr => ⟨_, (pss_one (ps_ret (pe_op op_catA (pe_op op_catA (pe_slice sl_tupA (pv 0) po_none (po_some (pv 1))) (pe_tup (pa_cons (pe_op op_sub (pe_op op_mul pe_int (pe_op op_sub (pe_callB (cr_sumT rfl) (by rfl) T.m_sum b_sum (pa_cons (pv 0) pa_nil)) (pe_ix ix_tup (pv 0) (pv 1) (fun _ _ => rfl)))) (pe_ix ix_tup (pv 0) (pv 1) (fun _ _ => rfl))) pa_nil))) (pe_slice sl_tupA (pv 0) (po_some (pe_op op_add (pv 1) pe_int)) po_none)))), fun p ⟨l, k⟩ ⟨h4, hk⟩ => ?_⟩
  have h4 : l.length = 4 := h4
  have hk : k < 4 := hk
  have cm : ∀ z : Int, CMul 2 z := fun z => .inl ⟨by decide, by decide⟩
  have at_ := atI_tup (l := l) (k := k) (by omega)
  have hz1 : (DL.cutD (l.map PyData.int) none (some (k : Int))).length + 1 ≤ 1000000 := by
    unfold DL.cutD; simp [h4]; omega
  have hz2 : (DL.cutD (l.map PyData.int) none (some (k : Int)) ++ [PyData.int (2 * (l.sum - l.getD k 0) - l.getD k 0)]).length + (DL.cutD (l.map PyData.int) (some ((k : Int) + 1)) none).length ≤ 1000000 := by
    unfold DL.cutD; simp [h4]; omega
  refine ws_ret (we_v (v_op (o_catA hz2) (v_op (o_catA hz1) (v_slA v_im p_no (p_so v_im)) (v_tup (ds := [.int (2 * (l.sum - l.getD k 0) - l.getD k 0)]) (a_cons (v_op o_sub (v_op (o_mul (cm _)) v_int (v_op o_sub (v_cb n_sumT (a_cons v_im a_nil)) (v_op (o_ixT at_) v_im v_im))) (v_op (o_ixT at_) v_im v_im)) a_nil) (by show 1 ≤ 1000000; decide))) (v_slA v_im (p_so (v_op o_add v_im v_int)) p_no)) ?_)
  show Ent.im (.tuple _) = Ent.im (tupI (swapL l k))
  unfold tupI swapL
  congr 2
  match l, h4 with
  | [a, b, c, d], _ =>
    match k, hk with
    | 0, _ => rfl
    | 1, _ => rfl
    | 2, _ => rfl
    | 3, _ => rfl
def alongL (l : List Int) (ks : List Nat) : List Int := ks.foldl swapL l
theorem alongL_len {l : List Int} (h : l.length = 4) {ks : List Nat} (hk : ∀ k ∈ ks, k < 4) : (alongL l ks).length = 4 := by
  induction ks generalizing l with
  | nil => exact h
  | cons k r ih => exact ih (swapL_len h (hk k List.mem_cons_self)) fun x hx => hk x (List.mem_cons_of_mem _ hx)
def natsI (ks : List Nat) : List PyData := ks.map fun (k : Nat) => PyData.int (k : Int)
def cn_along : Con (List Int × List Nat) := { args := fun d => [.im (tupI d.1), .im (.tuple (natsI d.2))], pre := fun d => d.1.length = 4 ∧ ∀ k ∈ d.2, k < 4, post := fun d r => r = .im (tupI (alongL d.1 d.2)) }
theorem ok__law_along (T : Txt K mg A) : FnOk P w K mg base CX0 2 A.a__law_along A.d__law_along ["four", "word"] (spC K cn_along) := by
  have G__law_swapped : FnOk P w K mg base CX0 1 A.a__law_swapped A.d__law_swapped ["four", "place"] (spC K cn_swapped) := ok__law_swapped T
  refine fn_ok cn_along T.F__law_along sc__law_along (fun _ => rfl) fun cdv A' outer s H hr => ⟨_, (pss_cons (ps_for PassesOwn.never rfl (pi_tup (pv 1)) (pg_name (i := 2) sc__law_along.nd rfl (Or.inl rfl))
  (pss_one (ps_set (i := 0) sc__law_along.nd rfl (Or.inl rfl) (pe_call G__law_swapped (hr.mono (by first | decide | omega)) (by rfl) T.g__law_swapped T.k__law_swapped T.b__law_swapped .nil pass0 (pa_cons (pv 0) (pa_cons (pv 2) pa_nil))))))
  (pss_one (ps_ret (pv 0)))), fun p ⟨l, ks⟩ ⟨h4, hk⟩ => ?_⟩
  have h4 : l.length = 4 := h4
  have hk : ∀ k ∈ ks, k < 4 := hk
  refine ws_seq (ws_for (i_tup v_im) (fun i Γ => ∃ e : Ent, Γ = [.im (tupI (alongL l (ks.take i))), .im (.tuple (natsI ks)), e]) (up_of ⟨.no, by rw [List.take_zero]; rfl⟩) ?_ ?_)
  · rintro i d Γ hd ⟨e, rfl⟩
    unfold natsI at hd
    rw [List.getElem?_map] at hd
    cases hx : ks[i]? with
    | none => rw [hx] at hd; cases hd
    | some k =>
      rw [hx] at hd
      obtain rfl : PyData.int (k : Int) = d := Option.some.inj hd
      have hk4 := hk k (List.mem_of_getElem? hx)
      have hl4 := alongL_len h4 (ks := ks.take i) fun x hx => hk x (List.mem_of_mem_take hx)
      refine g_name ?_
      refine ws_asg (we_v (v_call (alongL l (ks.take i), k) (a_cons v_im (a_cons v_im a_nil)) rfl ⟨hl4, hk4⟩ (fun r h => h) (fun _ h => h)) ?_)
      refine up_of ⟨I k, ?_⟩
      have : alongL l (ks.take (i + 1)) = swapL (alongL l (ks.take i)) k := by
        unfold alongL
        rw [List.take_add_one, hx, List.foldl_append]; rfl
      rw [this]; rfl
  · rintro Γ ⟨e, rfl⟩
    refine ws_ret (we_v v_im ?_)
    show Ent.im _ = Ent.im _
    rw [show (natsI ks).length = ks.length by unfold natsI; rw [List.length_map], List.take_length]
def rootB (a b c d : Int) : Bool := decide (a ≤ 0) && ((decide (a ≤ b) && (decide (b ≤ c) && (decide (c ≤ d) && decide (d ≤ a + b + c)))) && decide (0 < a + b + c + d))
def cn_is_root : Con (Int × Int × Int × Int) := { args := fun d => [.im (tupI [d.1, d.2.1, d.2.2.1, d.2.2.2])], pre := fun _ => True, post := fun d r => r = B (rootB d.1 d.2.1 d.2.2.1 d.2.2.2) }
theorem ok__law_is_root (T : Txt K mg A) : FnOk P w K mg base CX0 1 A.a__law_is_root A.d__law_is_root ["four"] (spC K cn_is_root) := by
  refine fn_ok cn_is_root T.F__law_is_root sc__law_is_root (fun _ => rfl) fun cdv A' outer s H hr => ⟨_, (pss_cons (ps_asg (pv 0) (pg_tup (by rfl) (pgs_cons (pg_name (i := 1) sc__law_is_root.nd rfl (Or.inl rfl)) (pgs_cons (pg_name (i := 2) sc__law_is_root.nd rfl (Or.inl rfl)) (pgs_cons (pg_name (i := 3) sc__law_is_root.nd rfl (Or.inl rfl)) (pgs_cons (pg_name (i := 4) sc__law_is_root.nd rfl (Or.inl rfl)) pgs_nil))))))
  (pss_one (ps_ret (pe_and (pe_cmpR op_le (pv 1) pe_int (nomark _)) (pe_and (pe_ch4 op_le op_le op_le op_le (pv 1) (pv 2) (pv 3) (pv 4) (pe_op op_add (pe_op op_add (pv 1) (pv 2)) (pv 3))) (pe_one (pe_cmpR op_gt (pe_op op_add (pe_op op_add (pe_op op_add (pv 1) (pv 2)) (pv 3)) (pv 4)) pe_int (nomark _)))))))), fun p ⟨a, b, c, d⟩ _ => ?_⟩
  refine ws_seq (ws_asgT (we_v v_im ⟨_, rfl, rfl, wg_name (wg_name (wg_name (wg_name (wg_nil ?_))))⟩))
  exact ws_ret (we_v (v_and (v_op o_le v_im v_int) fun _ => v_and (v_ch4 v_im (l_link o_le v_im fun _ => l_link o_le v_im fun _ => l_link o_le v_im fun _ => l_last o_le (v_op o_add (v_op o_add v_im v_im) v_im))) fun _ => v_op o_gt (v_op o_add (v_op o_add (v_op o_add v_im v_im) v_im) v_im) v_int) rfl)
/-! ### packings: the draws -/
theorem erase_perm {α : Type} {a : α} : ∀ {l : List α} {k : Nat}, l[k]? = some a → (a :: l.eraseIdx k).Perm l
  | [], k, h => by simp at h
  | x :: l, 0, h => by simp at h; subst h; exact .refl _
  | x :: l, k + 1, h => by
    have ih := erase_perm (l := l) (k := k) (by simpa using h)
    exact (List.Perm.swap x a _).trans (ih.cons x)
theorem perm_sum {l m : List Int} (h : l.Perm m) : l.sum = m.sum := by
  induction h with
  | nil => rfl
  | cons x _ ih => simp [ih]
  | swap x y l => simp; omega
  | trans _ _ a b => exact a.trans b
theorem ndvd {g : Nat} {x : Int} : (g : Int) ∣ x ↔ g ∣ x.natAbs := by rw [← Int.natCast_dvd_natCast, Int.dvd_natAbs]
theorem dvd_gcdN {g : Nat} : ∀ (l : List Int) (n : Nat), g ∣ gcdN n l ↔ g ∣ n ∧ ∀ x ∈ l, (g : Int) ∣ x
  | [], n => by simp [gcdN]
  | x :: l, n => by
    show g ∣ gcdN (Nat.gcd n x.natAbs) l ↔ _
    rw [dvd_gcdN l, Nat.dvd_gcd_iff]
    constructor
    · rintro ⟨⟨a, b⟩, c⟩
      exact ⟨a, fun y hy => (List.mem_cons.mp hy).elim (fun e => by rw [e]; exact ndvd.2 b) (c y)⟩
    · rintro ⟨a, b⟩
      exact ⟨⟨a, ndvd.1 (b x List.mem_cons_self)⟩, fun y hy => b y (List.mem_cons_of_mem _ hy)⟩
theorem gcd1_iff {l : List Int} : gcdN 0 l = 1 ↔ ∀ g : Nat, (∀ x ∈ l, (g : Int) ∣ x) → g = 1 := by
  constructor
  · intro h g hg
    have := (dvd_gcdN l 0).2 ⟨Nat.dvd_zero g, hg⟩
    rw [h] at this
    exact Nat.dvd_one.mp this
  · intro h
    exact h _ ((dvd_gcdN l 0).1 (Nat.dvd_refl _)).2
def sqL (l : List Int) : Int := (l.map fun x => x * x).sum
/-- four bends of a packing, at most M in size -/
structure Pk (M : Int) (l : List Int) : Prop where
  len : l.length = 4
  cone : l.sum * l.sum = 2 * sqL l
  gcd : gcdN 0 l = 1
  bd : ∀ x ∈ l, -M ≤ x ∧ x ≤ M
theorem Pk.perm {M : Int} {l m : List Int} (h : Pk M l) (p : m.Perm l) : Pk M m :=
  ⟨by rw [p.length_eq]; exact h.len, by rw [perm_sum p, show sqL m = sqL l from perm_sum (p.map _)]; exact h.cone, gcd1_iff.2 fun g hg => gcd1_iff.1 h.gcd g fun x hx => hg x (p.mem_iff.2 hx), fun x hx => h.bd x (p.mem_iff.1 hx)⟩
theorem Pk.more {M N : Int} {l : List Int} (h : Pk M l) (k : M ≤ N) : Pk N l := ⟨h.len, h.cone, h.gcd, fun x hx => by have := h.bd x hx; omega⟩
theorem Pk.swap {M : Int} {l : List Int} (h : Pk M l) {k : Nat} (hk : k < 4) : Pk (7 * M) (swapL l k) := by
  obtain ⟨len, cone, gcd, bd⟩ := h
  match l, len with
  | [a, b, c, d], _ =>
    have ba := bd a (by simp)
    have bb := bd b (by simp)
    have bc := bd c (by simp)
    have bd' := bd d (by simp)
    have cone : (a + (b + (c + (d + 0)))) * (a + (b + (c + (d + 0)))) = 2 * (a * a + (b * b + (c * c + (d * d + 0)))) := cone
    have gg : ∀ g : Nat, (g : Int) ∣ a → (g : Int) ∣ b → (g : Int) ∣ c → (g : Int) ∣ d → g = 1 := fun g h1 h2 h3 h4 => gcd1_iff.1 gcd g fun x hx => by
      simp only [List.mem_cons, List.not_mem_nil, or_false] at hx
      rcases hx with rfl | rfl | rfl | rfl <;> assumption
    have dv : ∀ (g : Nat) (x y z u : Int), (g : Int) ∣ 2 * (x + (y + (z + (u + 0))) - x) - x → (g : Int) ∣ y → (g : Int) ∣ z → (g : Int) ∣ u → (g : Int) ∣ x := fun g x y z u h1 h2 h3 h4 => by
      have : (g : Int) ∣ 2 * (y + z + u) - (2 * (x + (y + (z + (u + 0))) - x) - x) := Int.dvd_sub (Int.dvd_mul_of_dvd_right (Int.dvd_add (Int.dvd_add h2 h3) h4)) h1
      rwa [show 2 * (y + z + u) - (2 * (x + (y + (z + (u + 0))) - x) - x) = x by omega] at this
    match k, hk with
    | 0, _ =>
      refine ⟨rfl, ?_, gcd1_iff.2 fun g hg => ?_, fun x hx => ?_⟩
      · show ((2 * (a + (b + (c + (d + 0))) - a) - a) + (b + (c + (d + 0)))) * ((2 * (a + (b + (c + (d + 0))) - a) - a) + (b + (c + (d + 0)))) = 2 * ((2 * (a + (b + (c + (d + 0))) - a) - a) * (2 * (a + (b + (c + (d + 0))) - a) - a) + (b * b + (c * c + (d * d + 0))))
        grind
      · have h1 := hg (2 * (a + (b + (c + (d + 0))) - a) - a) (List.mem_cons_self ..)
        have h2 := hg b (by show b ∈ [_, b, c, d]; simp)
        have h3 := hg c (by show c ∈ [_, b, c, d]; simp)
        have h4 := hg d (by show d ∈ [_, b, c, d]; simp)
        exact gg g (dv g a b c d h1 h2 h3 h4) h2 h3 h4
      · have hx : x ∈ [2 * (a + (b + (c + (d + 0))) - a) - a, b, c, d] := hx
        simp only [List.mem_cons, List.not_mem_nil, or_false] at hx
        rcases hx with rfl | rfl | rfl | rfl <;> omega
    | 1, _ =>
      refine ⟨rfl, ?_, gcd1_iff.2 fun g hg => ?_, fun x hx => ?_⟩
      · show (a + ((2 * (a + (b + (c + (d + 0))) - b) - b) + (c + (d + 0)))) * (a + ((2 * (a + (b + (c + (d + 0))) - b) - b) + (c + (d + 0)))) = 2 * (a * a + ((2 * (a + (b + (c + (d + 0))) - b) - b) * (2 * (a + (b + (c + (d + 0))) - b) - b) + (c * c + (d * d + 0))))
        grind
      · have h1 := hg a (by show a ∈ [a, _, c, d]; simp)
        have h2 := hg (2 * (a + (b + (c + (d + 0))) - b) - b) (by show _ ∈ [a, 2 * (a + (b + (c + (d + 0))) - b) - b, c, d]; simp)
        have h3 := hg c (by show c ∈ [a, _, c, d]; simp)
        have h4 := hg d (by show d ∈ [a, _, c, d]; simp)
        exact gg g h1 (dv g b a c d (by rwa [show 2 * (b + (a + (c + (d + 0))) - b) - b = 2 * (a + (b + (c + (d + 0))) - b) - b by omega]) h1 h3 h4) h3 h4
      · have hx : x ∈ [a, 2 * (a + (b + (c + (d + 0))) - b) - b, c, d] := hx
        simp only [List.mem_cons, List.not_mem_nil, or_false] at hx
        rcases hx with rfl | rfl | rfl | rfl <;> omega
    | 2, _ =>
      refine ⟨rfl, ?_, gcd1_iff.2 fun g hg => ?_, fun x hx => ?_⟩
      · show (a + (b + ((2 * (a + (b + (c + (d + 0))) - c) - c) + (d + 0)))) * (a + (b + ((2 * (a + (b + (c + (d + 0))) - c) - c) + (d + 0)))) = 2 * (a * a + (b * b + ((2 * (a + (b + (c + (d + 0))) - c) - c) * (2 * (a + (b + (c + (d + 0))) - c) - c) + (d * d + 0))))
        grind
      · have h1 := hg a (by show a ∈ [a, b, _, d]; simp)
        have h2 := hg b (by show b ∈ [a, b, _, d]; simp)
        have h3 := hg (2 * (a + (b + (c + (d + 0))) - c) - c) (by show _ ∈ [a, b, 2 * (a + (b + (c + (d + 0))) - c) - c, d]; simp)
        have h4 := hg d (by show d ∈ [a, b, _, d]; simp)
        exact gg g h1 h2 (dv g c a b d (by rwa [show 2 * (c + (a + (b + (d + 0))) - c) - c = 2 * (a + (b + (c + (d + 0))) - c) - c by omega]) h1 h2 h4) h4
      · have hx : x ∈ [a, b, 2 * (a + (b + (c + (d + 0))) - c) - c, d] := hx
        simp only [List.mem_cons, List.not_mem_nil, or_false] at hx
        rcases hx with rfl | rfl | rfl | rfl <;> omega
    | 3, _ =>
      refine ⟨rfl, ?_, gcd1_iff.2 fun g hg => ?_, fun x hx => ?_⟩
      · show (a + (b + (c + ((2 * (a + (b + (c + (d + 0))) - d) - d) + 0)))) * (a + (b + (c + ((2 * (a + (b + (c + (d + 0))) - d) - d) + 0)))) = 2 * (a * a + (b * b + (c * c + ((2 * (a + (b + (c + (d + 0))) - d) - d) * (2 * (a + (b + (c + (d + 0))) - d) - d) + 0))))
        grind
      · have h1 := hg a (by show a ∈ [a, b, c, _]; simp)
        have h2 := hg b (by show b ∈ [a, b, c, _]; simp)
        have h3 := hg c (by show c ∈ [a, b, c, _]; simp)
        have h4 := hg (2 * (a + (b + (c + (d + 0))) - d) - d) (by show _ ∈ [a, b, c, 2 * (a + (b + (c + (d + 0))) - d) - d]; simp)
        exact gg g h1 h2 h3 (dv g d a b c (by rwa [show 2 * (d + (a + (b + (c + 0))) - d) - d = 2 * (a + (b + (c + (d + 0))) - d) - d by omega]) h1 h2 h3)
      · have hx : x ∈ [a, b, c, 2 * (a + (b + (c + (d + 0))) - d) - d] := hx
        simp only [List.mem_cons, List.not_mem_nil, or_false] at hx
        rcases hx with rfl | rfl | rfl | rfl <;> omega
theorem Pk.along {M : Int} {l : List Int} (h : Pk M l) {ks : List Nat} (hk : ∀ k ∈ ks, k < 4) : Pk (7 ^ ks.length * M) (alongL l ks) := by
  induction ks generalizing l M with
  | nil => simpa [alongL] using h
  | cons k r ih =>
    have h1 := h.swap (hk k List.mem_cons_self)
    have h2 := ih h1 fun x hx => hk x (List.mem_cons_of_mem _ hx)
    refine (show Pk _ (alongL l (k :: r)) from h2).more ?_
    rw [List.length_cons, Int.pow_succ, Int.mul_assoc]
    omega
def cn_shuffled : Con (List PyData) := { args := fun ds => [.pen, .ro ds], pre := fun ds => ds.length < 1000, post := fun ds r => ∃ es, es.Perm ds ∧ r = .ls es }
theorem ok__law_shuffled (T : Txt K mg A) : FnOk P w K mg base CX0 2 A.a__law_shuffled A.d__law_shuffled ["pen", "some"] (spC K cn_shuffled) := by
  have G__law_draw : FnOk P w K mg base CX0 1 A.a__law_draw A.d__law_draw ["pen", "many"] (spC K cn_draw) := ok__law_draw T
  refine fn_ok cn_shuffled T.F__law_shuffled sc__law_shuffled (fun _ => rfl) fun cdv A' outer s H hr => ⟨_, (pss_cons (ps_par (i := 2) (j := 3) (by rfl) sc__law_shuffled.nd rfl rfl (by decide) rfl rfl (pa_cons (pe_callTy call_list_of (by rfl) T.m_list b_list (pa_cons (pv 1) pa_nil)) (pa_cons (pe_lst pa_nil) pa_nil)) (by rfl))
  (pss_cons (ps_for PassesOwn.never rfl (pi_range1 (by rfl) T.m_range (pa_cons (pe_callB call_len_seq (by rfl) T.m_len b_len (pa_cons (pv 1) pa_nil)) pa_nil)) (pg_name (i := 4) sc__law_shuffled.nd rfl (Or.inl rfl))
  (pss_one (ps_expr (pe_bm PySem.F.plainAttrs_list PySem.F.slot_list_append PySem.F.type_list_append mt_append (pv 3) (pa_cons (pe_bm PySem.F.plainAttrs_list PySem.F.slot_list_pop PySem.F.type_list_pop mt_popAt (pv 2) (pa_cons (pe_call G__law_draw (hr.mono (by first | decide | omega)) (by rfl) T.g__law_draw T.k__law_draw T.b__law_draw .nil pass0 (pa_cons (pv 0) (pa_cons (pe_callB call_len_seq (by rfl) T.m_len b_len (pa_cons (pv 2) pa_nil)) pa_nil))) pa_nil)) pa_nil)))))
  (pss_one (ps_ret (pv 3))))), fun p ds hl => ?_⟩
  have hl : ds.length < 1000 := hl
  refine ws_seq (s_par (a_cons (v_cb n_listL (a_cons v_ro a_nil)) (a_cons (v_lst (ds := []) a_nil) a_nil)) ?_)
  refine ws_seq (ws_for (i_r1 (a_cons (v_cb n_lenL (a_cons v_ro a_nil)) a_nil) (by omega) (by omega)) (fun i Γ => ∃ (lf fd : List PyData) (e : Ent), Γ = [.pen, .ro ds, .ls lf, .ls fd, e] ∧ (fd ++ lf).Perm ds ∧ fd.length = i) (up_of ⟨ds, [], .no, rfl, .refl _, rfl⟩) ?_ ?_)
  · rintro i d Γ hd ⟨lf, fd, e, rfl, hp, hf⟩
    have hi : i < ds.length := by
      have := (List.getElem?_eq_some_iff.mp hd).1
      unfold rangeD at this
      simpa using this
    have ll := hp.length_eq
    rw [List.length_append, hf] at ll
    refine g_name ?_
    refine ws_appPop (ds := fd) (es := lf) rfl rfl (by decide) (by omega) (by omega) (w_call (lf.length : Int) (a_cons v_pen (a_cons (v_cb n_lenL (a_cons v_ls a_nil)) a_nil)) rfl ⟨by omega, small_lt (by omega)⟩ ?_ (fun _ h => h))
    rintro r ⟨n, n0, n1, rfl⟩
    obtain ⟨k, rfl⟩ := Int.eq_ofNat_of_zero_le n0
    have hk : k < lf.length := by omega
    refine ⟨k, rfl, lf[k], List.getElem?_eq_getElem hk, up_of ⟨lf.eraseIdx k, fd ++ [lf[k]], _, rfl, ?_, by rw [List.length_append, hf]; rfl⟩⟩
    refine List.Perm.trans ?_ hp
    rw [List.append_assoc]
    exact List.Perm.append_left fd (erase_perm (List.getElem?_eq_getElem hk))
  · rintro Γ ⟨lf, fd, e, rfl, hp, hf⟩
    have hlen : (rangeD 0 ((ds.length : Int)).toNat).length = ds.length := by unfold rangeD; simp
    rw [hlen] at hf
    have ll := hp.length_eq
    rw [List.length_append, hf] at ll
    have : lf = [] := List.length_eq_zero_iff.mp (by omega)
    subst this
    rw [List.append_nil] at hp
    exact ws_retV ⟨fd, hp, rfl⟩ rfl
def lastK (ws : List Nat) : PyData → Bool
  | .int x => decide (ws = []) || !decide (x = ((ws.getLast?.getD 0 : Nat) : Int))
  | _ => false
def cn_normal_word : Con Nat := { args := fun m => [.pen, I m], pre := fun m => m < 100000, post := fun m r => ∃ ws : List Nat, (∀ k ∈ ws, k < 4) ∧ ws.length ≤ m ∧ r = .im (.tuple (natsI ws)) }
theorem four_left (x : Int) : ∃ k : Nat, k < 4 ∧ (k : Int) ≠ x := by
  by_cases h : x = 0
  · exact ⟨1, by decide, by rw [h]; decide⟩
  · exact ⟨0, by decide, fun z => h z.symm⟩
theorem ok__law_normal_word (T : Txt K mg A) : FnOk P w K mg base CX0 3 A.a__law_normal_word A.d__law_normal_word ["pen", "most"] (spC K cn_normal_word) := by
  have G__law_draw : FnOk P w K mg base CX0 1 A.a__law_draw A.d__law_draw ["pen", "many"] (spC K cn_draw) := ok__law_draw T
  have G__law_pick : FnOk P w K mg base CX0 2 A.a__law_pick A.d__law_pick ["pen", "some"] (spC K cn_pick) := ok__law_pick T
  refine fn_ok cn_normal_word T.F__law_normal_word sc__law_normal_word (fun _ => rfl) fun cdv A' outer s H hr => ⟨_, (pss_cons (ps_set (i := 2) sc__law_normal_word.nd rfl (Or.inr rfl) (pe_lst pa_nil))
  (pss_cons (ps_for PassesOwn.never rfl (pi_range1 (by rfl) T.m_range (pa_cons (pe_call G__law_draw (hr.mono (by first | decide | omega)) (by rfl) T.g__law_draw T.k__law_draw T.b__law_draw .nil pass0 (pa_cons (pv 0) (pa_cons (pe_op op_add (pv 1) pe_int) pa_nil))) pa_nil)) (pg_name (i := 3) sc__law_normal_word.nd rfl (Or.inl rfl))
  (pss_one (ps_expr (pe_bm PySem.F.plainAttrs_list PySem.F.slot_list_append PySem.F.type_list_append mt_append (pv 2) (pa_cons (pe_call G__law_pick (hr.mono (by first | decide | omega)) (by rfl) T.g__law_pick T.k__law_pick T.b__law_pick .nil pass0 (pa_cons (pv 0) (pa_cons (pe_lc (own := [("one", 4)]) (g := (gName 4)) (by rfl) sc__law_normal_word.nd (pi_tup (pe_tup (pa_cons pe_int (pa_cons pe_int (pa_cons pe_int (pa_cons pe_int pa_nil)))))) (blkOk_by (own := [("one", 4)]) (N := ["pen", "most", "found", "lap", "one"]) (sc := defScope s__law_normal_word) (by decide +kernel)) (fun _ _ _ _ _ => (pg_name (i := 4) sc__law_normal_word.nd rfl (Or.inl rfl))) (fun _ _ _ _ _ => (pts_one (PW.pt (pw_or (pt_cmpR (r := rEqD K) (op_eqD hr.units) (pv 2) (pe_lst pa_nil) (nomark _)) (pw_or1 (pt_cmpR op_ne (pv 4) (pe_ix (r := rIxL K) ix_list (pv 2) (pe_un un_neg pe_int) (fun _ _ => rfl)) (nomark _))))))) (fun _ _ _ _ _ => (pv 4))) pa_nil))) pa_nil)))))
  (pss_one (ps_ret (pe_callTy call_tuple_of (by rfl) T.m_tuple b_tuple (pa_cons (pv 2) pa_nil)))))), fun p m hm => ?_⟩
  have hm : m < 100000 := hm
  refine ws_seq (ws_asg (we_v (v_lst (ds := []) a_nil) ?_))
  refine ws_seq (ws_forW (Qd := fun ds => ∃ n : Nat, n ≤ m ∧ ds = rangeD 0 n) ?_ ?_)
  · refine i_r1W (wa_cons (w_call ((m : Int) + 1) (a_cons v_pen (a_cons (v_op o_add v_im v_int) a_nil)) rfl ⟨by omega, small_lt (by omega)⟩ ?_ (fun _ h => h)))
    rintro r ⟨n, n0, n1, rfl⟩
    exact wa_nil ⟨n, rfl, by omega, by omega, n.toNat, by omega, rfl⟩
  rintro ds ⟨n, hn, rfl⟩
  refine ⟨fun i Γ => ∃ (ws : List Nat) (e : Ent), Γ = [.pen, I m, .ls (natsI ws), e, .no] ∧ (∀ k ∈ ws, k < 4) ∧ ws.length = i, up_of ⟨[], .no, rfl, (fun _ h => by cases h), rfl⟩, ?_, ?_⟩
  · rintro i d Γ hd ⟨ws, e, rfl, hw, hl⟩
    have hi : i < n := by
      have := (List.getElem?_eq_some_iff.mp hd).1
      unfold rangeD at this
      simpa using this
    have hlen : (natsI ws).length = ws.length := by unfold natsI; rw [List.length_map]
    have shp : SeqAt.shaped (.list (natsI ws)) = true := by
      have := shaped_ints (ws.map fun (k : Nat) => (k : Int))
      rw [List.map_map] at this
      exact this
    refine g_name ?_
    show WS _ _ [.pen, I m, .ls (natsI ws), .im d, .no] _
    refine ws_app rfl (by omega) (w_call ([PyData.int 0, .int 1, .int 2, .int 3].filter (lastK ws)) (a_cons v_pen (a_cons (ve_is (v_lc (i_tup (v_tup (ds := [.int 0, .int 1, .int 2, .int 3]) (a_cons v_int (a_cons v_int (a_cons v_int (a_cons v_int a_nil)))))) (lastK ws) id (by decide) (Nat.le_of_ble_eq_true rfl) rfl (fun x hx => ?_) fun x hx hk => v_im) (by rw [List.map_id])) a_nil)) rfl ⟨?_, ?_⟩ ?_ (fun _ h => h))
    · obtain ⟨z, rfl⟩ : ∃ z, x = .int z := by
        simp only [List.mem_cons, List.not_mem_nil, or_false] at hx
        rcases hx with rfl | rfl | rfl | rfl <;> exact ⟨_, rfl⟩
      refine vt_is (t_or (a := decide (natsI ws = [])) (b := !decide (z = ((ws.getLast?.getD 0 : Nat) : Int))) (vt_is (t_test (v_op (o_eqD (ra := .ro (natsI ws)) (rb := .ls []) rfl rfl shp rfl) v_ls (v_lst (ds := []) a_nil))) (eqv_listnil _)) fun h => ?_) ?_
      · have h : ¬ natsI ws = [] := of_decide_eq_false h
        have at_ : atI (natsI ws) (-1) = some (.int ((ws.getLast?.getD 0 : Nat) : Int)) := by
          unfold atI
          have h0 : 0 < (natsI ws).length := List.length_pos_iff.mpr h
          rw [show ixN (natsI ws).length (-1) = some ((natsI ws).length - 1) by unfold ixN; rw [if_neg (by decide), if_pos (by omega)]; congr 1; omega]
          show (natsI ws)[(natsI ws).length - 1]? = _
          unfold natsI
          rw [List.length_map, List.getElem?_map, ← List.getLast?_eq_getElem?]
          cases hq : ws.getLast? with
          | none =>
            rw [List.getLast?_eq_none_iff] at hq
            subst hq
            exact absurd rfl h
          | some y => rfl
        exact t_test (v_op o_neI v_im (v_op (o_ixL at_) v_ls (v_un o_neg v_int)))
      · show _ = (decide (ws = []) || _)
        congr 1
        unfold natsI
        cases ws <;> simp
    · obtain ⟨k, hk, hne⟩ := four_left ((ws.getLast?.getD 0 : Nat) : Int)
      refine List.length_pos_of_mem (a := PyData.int (k : Int)) (List.mem_filter.2 ⟨?_, ?_⟩)
      · have : k = 0 ∨ k = 1 ∨ k = 2 ∨ k = 3 := by omega
        rcases this with rfl | rfl | rfl | rfl <;> simp
      · show (decide (ws = []) || !decide ((k : Int) = _)) = true
        rw [decide_eq_false hne]; simp
    · exact Nat.lt_of_le_of_lt (List.length_filter_le _ _) (by decide)
    · rintro r ⟨d3, hd3, rfl⟩
      have hm3 := (List.mem_filter.1 hd3).1
      obtain ⟨k, hk, rfl⟩ : ∃ k : Nat, k < 4 ∧ d3 = .int (k : Int) := by
        simp only [List.mem_cons, List.not_mem_nil, or_false] at hm3
        rcases hm3 with rfl | rfl | rfl | rfl
        · exact ⟨0, by decide, rfl⟩
        · exact ⟨1, by decide, rfl⟩
        · exact ⟨2, by decide, rfl⟩
        · exact ⟨3, by decide, rfl⟩
      refine ⟨_, rfl, up_of ⟨ws ++ [k], .im d, ?_, fun x hx => ?_, by rw [List.length_append, hl]; rfl⟩⟩
      · show [.pen, I m, .ls (natsI ws ++ [.int (k : Int)]), .im d, .no] = _
        unfold natsI
        rw [List.map_append]; rfl
      · rcases List.mem_append.mp hx with h | h
        · exact hw x h
        · rw [List.mem_singleton.mp h]; exact hk
  · rintro Γ ⟨ws, e, rfl, hw, hl⟩
    have hlen : (rangeD 0 n).length = n := by unfold rangeD; simp
    rw [hlen] at hl
    exact ws_ret (we_v (v_cb n_tupL (a_cons v_ls a_nil)) ⟨ws, hw, by omega, rfl⟩)
/-! ### packings: roots -/
def RootL (l : List Int) : Prop := ∃ a b c d : Int, l = [a, b, c, d] ∧ rootB a b c d = true
def cn_small_roots : Con Unit := { args := fun _ => [], pre := fun _ => True, post := fun _ r => ∃ ls : List (List Int), r = .ls (ls.map tupI) ∧ 0 < ls.length ∧ ls.length < 100000 ∧ ∀ l ∈ ls, Pk 1000 l ∧ RootL l }
theorem pk_of_root {n m f o : Int} (e : f * o = n * n + m * m) (hg : gcdN 0 [-n, n + f, n + o, n + f + o - 2 * m] = 1) (hn : 0 ≤ n ∧ n ≤ 12) (hm : 0 ≤ m ∧ m ≤ 12) (hf : 0 ≤ f ∧ f ≤ 24) (ho : 0 ≤ o ∧ o ≤ 288) : Pk 1000 [-n, n + f, n + o, n + f + o - 2 * m] := by
  refine ⟨rfl, ?_, hg, fun x hx => ?_⟩
  · show (-n + (n + f + (n + o + (n + f + o - 2 * m + 0)))) * (-n + (n + f + (n + o + (n + f + o - 2 * m + 0)))) = 2 * (-n * -n + ((n + f) * (n + f) + ((n + o) * (n + o) + ((n + f + o - 2 * m) * (n + f + o - 2 * m) + 0))))
    grind
  · simp only [List.mem_cons, List.not_mem_nil, or_false] at hx
    rcases hx with rfl | rfl | rfl | rfl <;> omega
theorem ok__law_small_roots (T : Txt K mg A) : FnOk P w K mg base CX0 2 A.a__law_small_roots A.d__law_small_roots [] (spC K cn_small_roots) := by
  have G__law_is_root : FnOk P w K mg base CX0 1 A.a__law_is_root A.d__law_is_root ["four"] (spC K cn_is_root) := ok__law_is_root T
  have G__law_common : FnOk P w K mg base CX0 1 A.a__law_common A.d__law_common ["four"] (spC K cn_common) := ok__law_common T
  refine fn_ok cn_small_roots T.F__law_small_roots sc__law_small_roots (fun _ => rfl) fun cdv A' outer s H hr => ⟨_, (pss_cons (ps_set (i := 0) sc__law_small_roots.nd rfl (Or.inl rfl) (pe_lst (pa_cons (pe_tup (pa_cons pe_int (pa_cons pe_int (pa_cons pe_int (pa_cons pe_int pa_nil))))) pa_nil)))
  (pss_cons (ps_for PassesOwn.never rfl (pi_range2 (by rfl) T.m_range (pa_cons pe_int (pa_cons pe_int pa_nil))) (pg_name (i := 1) sc__law_small_roots.nd rfl (Or.inl rfl))
  (pss_one (ps_for PassesOwn.never rfl (pi_range2 (by rfl) T.m_range (pa_cons pe_int (pa_cons (pv 1) pa_nil))) (pg_name (i := 2) sc__law_small_roots.nd rfl (Or.inl rfl))
  (pss_one (ps_for PassesOwn.never rfl (pi_range2 (by rfl) T.m_range (pa_cons (pe_callB (call_max2 rfl) (by rfl) T.m_max b_max (pa_cons pe_int (pa_cons (pe_op op_mul pe_int (pv 2)) pa_nil))) (pa_cons (pe_op op_add (pe_op op_mul pe_int (pv 1)) pe_int) pa_nil))) (pg_name (i := 3) sc__law_small_roots.nd rfl (Or.inl rfl))
  (pss_one (ps_if (PW.pt (pw_and (pt_cmpR op_eq (pe_op op_mod (pe_callTy call_int1 (by rfl) T.m_int b_int (pa_cons (pe_op op_add (pe_op op_mul (pv 1) (pv 1)) (pe_op op_mul (pv 2) (pv 2))) pa_nil)) (pv 3)) pe_int (nomark _)) (pw_and1 (pt_cmpR op_le (pe_op op_mul (pv 3) (pv 3)) (pe_op op_add (pe_op op_mul (pv 1) (pv 1)) (pe_op op_mul (pv 2) (pv 2))) (nomark _)))))
  (pss_cons (ps_set (i := 4) sc__law_small_roots.nd rfl (Or.inl rfl) (pe_op op_fdiv (pe_op op_add (pe_op op_mul (pv 1) (pv 1)) (pe_op op_mul (pv 2) (pv 2))) (pv 3)))
  (pss_cons (ps_set (i := 5) sc__law_small_roots.nd rfl (Or.inl rfl) (pe_tup (pa_cons (pe_un un_neg (pv 1)) (pa_cons (pe_op op_add (pv 1) (pv 3)) (pa_cons (pe_op op_add (pv 1) (pv 4)) (pa_cons (pe_op op_sub (pe_op op_add (pe_op op_add (pv 1) (pv 3)) (pv 4)) (pe_op op_mul pe_int (pv 2))) pa_nil))))))
  (pss_one (ps_if (PW.pt (pw_and (pt_val (pe_call G__law_is_root (hr.mono (by first | decide | omega)) (by rfl) T.g__law_is_root T.k__law_is_root T.b__law_is_root .nil pass0 (pa_cons (pe_callTy call_tuple_of (by rfl) T.m_tuple b_tuple (pa_cons (pe_callB cr_sortT (by rfl) T.m_sorted b_sorted (pa_cons (pv 5) pa_nil)) pa_nil)) pa_nil))) (pw_and1 (pt_cmpR op_eq (pe_call G__law_common (hr.mono (by first | decide | omega)) (by rfl) T.g__law_common T.k__law_common T.b__law_common .nil pass0 (pa_cons (pv 5) pa_nil)) pe_int (nomark _)))))
  (pss_one (ps_expr (pe_bm PySem.F.plainAttrs_list PySem.F.slot_list_append PySem.F.type_list_append mt_append (pv 0) (pa_cons (pe_callTy call_tuple_of (by rfl) T.m_tuple b_tuple (pa_cons (pe_callB cr_sortT (by rfl) T.m_sorted b_sorted (pa_cons (pv 5) pa_nil)) pa_nil)) pa_nil))))
  pss_nil))))
  pss_nil)))))))
  (pss_one (ps_ret (pv 0))))), fun p _ _ => ?_⟩
  refine ws_seq (ws_asg (we_v (v_lst (ds := [tupI [0, 0, 1, 1]]) (a_cons (v_tup (ds := [.int 0, .int 0, .int 1, .int 1]) (a_cons v_int (a_cons v_int (a_cons v_int (a_cons v_int a_nil))))) a_nil)) ?_))
  refine ws_seq (ws_for (i_r2 (a_cons v_int (a_cons v_int a_nil)) ⟨by decide, by decide, by decide, by decide⟩) (fun i Γ => ∃ (ls : List (List Int)) (e1 e2 e3 e4 e5 : Ent), Γ = [.ls (ls.map tupI), e1, e2, e3, e4, e5] ∧ 0 < ls.length ∧ ls.length ≤ 1 + 400 * i ∧ ∀ l ∈ ls, Pk 1000 l ∧ RootL l) (up_of ⟨[[0, 0, 1, 1]], .no, .no, .no, .no, .no, rfl, by decide, by decide, fun l hl => ?_⟩) ?_ ?_)
  · rw [List.mem_singleton.mp hl]
    refine ⟨⟨rfl, by decide, by decide, fun x hx => ?_⟩, 0, 0, 1, 1, rfl, by decide⟩
    simp only [List.mem_cons, List.not_mem_nil, or_false] at hx
    rcases hx with rfl | rfl | rfl | rfl <;> decide
  · rintro i d Γ hd ⟨ls, e1, e2, e3, e4, e5, rfl, h0, hl, hg⟩
    obtain ⟨i', hi', rfl⟩ := range_ints (List.mem_of_getElem? hd)
    have hii : i < 12 := by
      have := (List.getElem?_eq_some_iff.mp hd).1
      unfold rangeD at this
      simpa using this
    have hi' : i' < 12 := hi'
    generalize hn : 1 + (i' : Int) = n
    have n1 : 1 ≤ n ∧ n ≤ 12 := by omega
    refine g_name ?_
    refine ws_for (i_r2 (a_cons v_int (a_cons v_im a_nil)) ⟨by decide, by decide, by omega, by omega⟩) (fun j Γ => ∃ (ls : List (List Int)) (e2 e3 e4 e5 : Ent), Γ = [.ls (ls.map tupI), I n, e2, e3, e4, e5] ∧ 0 < ls.length ∧ ls.length ≤ 1 + 400 * i + 30 * j ∧ ∀ l ∈ ls, Pk 1000 l ∧ RootL l) (up_of ⟨ls, e2, e3, e4, e5, rfl, h0, by omega, hg⟩) ?_ ?_
    · clear h0 hl hg
      rintro j d Γ hd ⟨ls, e2, e3, e4, e5, rfl, h0, hl, hg⟩
      obtain ⟨j', hj', rfl⟩ := range_ints (List.mem_of_getElem? hd)
      have hjj : j < 12 := by
        have := (List.getElem?_eq_some_iff.mp hd).1
        unfold rangeD at this
        have : j < (n - 0).toNat := by simpa using this
        omega
      generalize hm : 0 + (j' : Int) = m
      have m1 : 0 ≤ m ∧ m < n := by omega
      refine g_name ?_
      have c2m : CMul 2 m := .inl ⟨by decide, by decide⟩
      have c2n : CMul 2 n := .inl ⟨by decide, by decide⟩
      refine ws_for (i_r2 (a_cons (v_cb n_max2 (a_cons v_int (a_cons (v_op (o_mul c2m) v_int v_im) a_nil))) (a_cons (v_op o_add (v_op (o_mul c2n) v_int v_im) v_int) a_nil)) ⟨by split <;> omega, by split <;> omega, by omega, by omega⟩) (fun k Γ => ∃ (ls : List (List Int)) (e3 e4 e5 : Ent), Γ = [.ls (ls.map tupI), I n, I m, e3, e4, e5] ∧ 0 < ls.length ∧ ls.length ≤ 1 + 400 * i + 30 * j + k ∧ ∀ l ∈ ls, Pk 1000 l ∧ RootL l) (up_of ⟨ls, e3, e4, e5, rfl, h0, by omega, hg⟩) ?_ ?_
      · clear h0 hl hg
        rintro k d Γ hd ⟨ls, e3, e4, e5, rfl, h0, hl, hg⟩
        obtain ⟨k', hk', rfl⟩ := range_ints (List.mem_of_getElem? hd)
        have hkk : k < 26 := by
          have := (List.getElem?_eq_some_iff.mp hd).1
          unfold rangeD at this
          have : k < (2 * n + 1 - if 2 * m > 1 then 2 * m else 1).toNat := by simpa using this
          split at this <;> omega
        generalize hf : (if 2 * m > 1 then 2 * m else 1) + (k' : Int) = f
        have f1 : 1 ≤ f ∧ f ≤ 24 := by split at hf <;> split at hk' <;> omega
        refine g_name ?_
        show WS _ _ [.ls (ls.map tupI), I n, I m, I f, e4, e5] _
        have cnn : CMul n n := .inl ⟨by omega, by omega⟩
        have cmm : CMul m m := .inl ⟨by omega, by omega⟩
        have cff : CMul f f := .inl ⟨by omega, by omega⟩
        have f0 : (0 : Int) < f := by omega
        have keep : ∀ e4 e5 : Ent, Up (fun Γ => ∃ (ls : List (List Int)) (e3 e4 e5 : Ent), Γ = [.ls (ls.map tupI), I n, I m, e3, e4, e5] ∧ 0 < ls.length ∧ ls.length ≤ 1 + 400 * i + 30 * j + (k + 1) ∧ ∀ l ∈ ls, Pk 1000 l ∧ RootL l) [.ls (ls.map tupI), I n, I m, I f, e4, e5] := fun e4 e5 => up_of ⟨ls, I f, e4, e5, rfl, h0, by omega, hg⟩
        refine s_if (t_and (t_test (v_op o_eqI (v_op (o_mod f0) (v_cb n_int (a_cons (v_op o_add (v_op (o_mul cnn) v_im v_im) (v_op (o_mul cmm) v_im v_im)) a_nil)) v_im) v_int)) fun _ => t_test (v_op o_le (v_op (o_mul cff) v_im v_im) (v_op o_add (v_op (o_mul cnn) v_im v_im) (v_op (o_mul cmm) v_im v_im)))) (fun h => ?_) fun h => ws_next (keep e4 e5)
        have h : (n * n + m * m) % f = 0 ∧ f * f ≤ n * n + m * m := by simpa using h
        have cdf : CDiv (n * n + m * m) f := ⟨f0, by omega⟩
        refine ws_seq (ws_asg (we_v (v_op (o_fdiv cdf) (v_op o_add (v_op (o_mul cnn) v_im v_im) (v_op (o_mul cmm) v_im v_im)) v_im) ?_))
        show WS _ _ [.ls (ls.map tupI), I n, I m, I f, I ((n * n + m * m) / f), e5] _
        have ex : f * ((n * n + m * m) / f) = n * n + m * m := Int.mul_ediv_cancel' (Int.dvd_of_emod_eq_zero h.1)
        have hnn : n * n ≤ 144 := by
          have := Int.mul_le_mul n1.2 n1.2 (by omega) (by omega)
          omega
        have hmm : m * m ≤ 144 := by
          have := Int.mul_le_mul (show m ≤ 12 by omega) (show m ≤ 12 by omega) m1.1 (by omega)
          omega
        have ho : 0 ≤ (n * n + m * m) / f ∧ (n * n + m * m) / f ≤ 288 := by
          have h0 : 0 ≤ n * n + m * m := by have := Int.mul_nonneg (show 0 ≤ n by omega) (show 0 ≤ n by omega); have := Int.mul_nonneg m1.1 m1.1; omega
          refine ⟨Int.ediv_nonneg h0 (by omega), Int.le_trans (Int.ediv_le_self f h0) (by omega)⟩
        generalize (n * n + m * m) / f = o at ex ho
        have c2m' : CMul 2 m := .inl ⟨by decide, by decide⟩
        refine ws_seq (ws_asg (we_v (v_tup (ds := [.int (-n), .int (n + f), .int (n + o), .int (n + f + o - 2 * m)]) (a_cons (v_un o_neg v_im) (a_cons (v_op o_add v_im v_im) (a_cons (v_op o_add v_im v_im) (a_cons (v_op o_sub (v_op o_add (v_op o_add v_im v_im) v_im) (v_op (o_mul c2m') v_int v_im)) a_nil)))) (by show 4 ≤ 1000000; decide)) ?_))
        show WS _ _ [.ls (ls.map tupI), I n, I m, I f, I o, .im (tupI [-n, n + f, n + o, n + f + o - 2 * m])] _
        refine ws_if (wt_and (wt_B (we_call (wa_cons (we_cb (wa_cons (we_sortT (ns := [-n, n + f, n + o, n + f + o - 2 * m]) (a_cons v_im a_nil) (by show 4 ≤ 1000; decide) fun ns' hp hs => ?_)))))))
        obtain ⟨a, b, c, d, rfl⟩ : ∃ a b c d, ns' = [a, b, c, d] := by
          have := hp.length_eq
          match ns', this with
          | [a, b, c, d], _ => exact ⟨a, b, c, d, rfl⟩
        refine wa_nil ⟨_, n_tupN, wa_nil ⟨(a, b, c, d), rfl, trivial, ?_, fun _ h => h.elim⟩⟩
        rintro r rfl
        refine ⟨_, rfl, fun hroot => ?_, fun _ => ⟨(fun z => by cases z), fun _ => ws_next (keep _ _)⟩⟩
        refine wt_v (t_test (v_op o_eqI (v_call [-n, n + f, n + o, n + f + o - 2 * m] (a_cons v_im a_nil) rfl (by show 4 ≤ 1000; decide) (fun r h => h) (fun _ h => h)) v_int)) ⟨fun hgc => ?_, fun _ => ws_next (keep _ _)⟩
        have hgc : ((gcdN 0 [-n, n + f, n + o, n + f + o - 2 * m] : Nat) : Int) = 1 := of_decide_eq_true hgc
        refine ws_app rfl (by rw [List.length_map]; omega) (we_cb (wa_cons (we_sortT (ns := [-n, n + f, n + o, n + f + o - 2 * m]) (a_cons v_im a_nil) (by show 4 ≤ 1000; decide) fun ns'' hp2 hs2 => ?_)))
        have e2 : ns'' = [a, b, c, d] := List.Perm.eq_of_pairwise (fun x y _ _ h1 h2 => Int.le_antisymm h1 h2) hs2 hs (hp2.trans hp.symm)
        subst e2
        refine wa_nil ⟨_, n_tupN, _, rfl, up_of ⟨ls ++ [[a, b, c, d]], I f, I o, .im (tupI [-n, n + f, n + o, n + f + o - 2 * m]), ?_, by rw [List.length_append]; omega, by rw [List.length_append]; show ls.length + 1 ≤ _; omega, fun l hl => ?_⟩⟩
        · show [.ls (ls.map tupI ++ [tupI [a, b, c, d]]), I n, I m, I f, I o, .im (tupI [-n, n + f, n + o, n + f + o - 2 * m])] = _
          rw [List.map_append]; rfl
        · rcases List.mem_append.mp hl with hh | hh
          · exact hg l hh
          · rw [List.mem_singleton.mp hh]
            exact ⟨(pk_of_root ex (by omega) ⟨by omega, by omega⟩ ⟨by omega, by omega⟩ ⟨by omega, by omega⟩ ho).perm hp, a, b, c, d, rfl, hroot⟩
      · rintro Γ ⟨ls, e3, e4, e5, rfl, h0, hl, hg⟩
        refine up_of ⟨ls, I m, e3, e4, e5, rfl, h0, ?_, hg⟩
        have : (rangeD (if 2 * m > 1 then 2 * m else 1) (2 * n + 1 - if 2 * m > 1 then 2 * m else 1).toNat).length ≤ 26 := by
          unfold rangeD
          rw [List.length_map, List.length_range]
          split <;> omega
        omega
    · rintro Γ ⟨ls, e2, e3, e4, e5, rfl, h0, hl, hg⟩
      refine up_of ⟨ls, I n, e2, e3, e4, e5, rfl, h0, ?_, hg⟩
      have : (rangeD 0 (n - 0).toNat).length ≤ 12 := by
        unfold rangeD
        rw [List.length_map, List.length_range]
        omega
      omega
  · rintro Γ ⟨ls, e1, e2, e3, e4, e5, rfl, h0, hl, hg⟩
    refine ws_retV ⟨ls, rfl, h0, ?_, hg⟩ rfl
    have : (rangeD 1 ((13 : Int) - 1).toNat).length = 12 := by decide
    omega
def toI : PyData → Int
  | .int x => x
  | _ => 0
theorem perm_ints {es : List PyData} {l : List Int} (h : es.Perm (l.map PyData.int)) : ∃ m : List Int, es = m.map PyData.int ∧ m.Perm l := by
  refine ⟨es.map toI, ?_, ?_⟩
  · rw [List.map_map]
    have : es.map id = es.map (PyData.int ∘ toI) := List.map_congr_left fun x hx => by
      obtain ⟨z, _, rfl⟩ := List.mem_map.mp (h.mem_iff.mp hx)
      rfl
    rw [← this, List.map_id]
  · have := h.map toI
    rw [List.map_map] at this
    have e : l.map (toI ∘ PyData.int) = l := by
      have : l.map (toI ∘ PyData.int) = l.map id := List.map_congr_left fun x _ => rfl
      rw [this, List.map_id]
    rwa [e] at this
def cn_packing : Con Nat := { args := fun m => [.pen, I m], pre := fun m => m < 1000, post := fun m r => ∃ l : List Int, Pk (7 ^ m * 1000) l ∧ r = .im (tupI l) }
theorem pow7 {a b : Nat} (h : a ≤ b) : (7 : Int) ^ a ≤ 7 ^ b := by
  obtain ⟨k, rfl⟩ := Nat.exists_eq_add_of_le h
  rw [Int.pow_add]
  have h1 : (0 : Int) < 7 ^ a := Int.pow_pos (by decide)
  have h2 : (0 : Int) < 7 ^ k := Int.pow_pos (by decide)
  have := Int.mul_le_mul_of_nonneg_left (show (1 : Int) ≤ 7 ^ k by omega) (Int.le_of_lt h1)
  omega
theorem ok__law_packing (T : Txt K mg A) : FnOk P w K mg base CX0 4 A.a__law_packing A.d__law_packing ["pen", "most"] (spC K cn_packing) := by
  have G__law_small_roots : FnOk P w K mg base CX0 2 A.a__law_small_roots A.d__law_small_roots [] (spC K cn_small_roots) := ok__law_small_roots T
  have G__law_pick : FnOk P w K mg base CX0 2 A.a__law_pick A.d__law_pick ["pen", "some"] (spC K cn_pick) := ok__law_pick T
  have G__law_along : FnOk P w K mg base CX0 2 A.a__law_along A.d__law_along ["four", "word"] (spC K cn_along) := ok__law_along T
  have G__law_shuffled : FnOk P w K mg base CX0 2 A.a__law_shuffled A.d__law_shuffled ["pen", "some"] (spC K cn_shuffled) := ok__law_shuffled T
  have G__law_normal_word : FnOk P w K mg base CX0 3 A.a__law_normal_word A.d__law_normal_word ["pen", "most"] (spC K cn_normal_word) := ok__law_normal_word T
  refine fn_ok cn_packing T.F__law_packing sc__law_packing (fun _ => rfl) fun cdv A' outer s H hr => ⟨_, (pss_cons (ps_set (i := 2) sc__law_packing.nd rfl (Or.inl rfl) (pe_call G__law_pick (hr.mono (by first | decide | omega)) (by rfl) T.g__law_pick T.k__law_pick T.b__law_pick .nil pass0 (pa_cons (pv 0) (pa_cons (pe_call0 G__law_small_roots (hr.mono (by first | decide | omega)) (by rfl) T.g__law_small_roots T.k__law_small_roots T.b__law_small_roots .nil pass0) pa_nil))))
  (pss_one (ps_ret (pe_call G__law_along (hr.mono (by first | decide | omega)) (by rfl) T.g__law_along T.k__law_along T.b__law_along .nil pass0 (pa_cons (pe_callTy call_tuple_of (by rfl) T.m_tuple b_tuple (pa_cons (pe_call G__law_shuffled (hr.mono (by first | decide | omega)) (by rfl) T.g__law_shuffled T.k__law_shuffled T.b__law_shuffled .nil pass0 (pa_cons (pv 0) (pa_cons (pe_callTy call_list_of (by rfl) T.m_list b_list (pa_cons (pv 2) pa_nil)) pa_nil))) pa_nil)) (pa_cons (pe_call G__law_normal_word (hr.mono (by first | decide | omega)) (by rfl) T.g__law_normal_word T.k__law_normal_word T.b__law_normal_word .nil pass0 (pa_cons (pv 0) (pa_cons (pv 1) pa_nil))) pa_nil)))))), fun p most hm => ?_⟩
  have hm : most < 1000 := hm
  refine ws_seq (ws_asg (we_call (wa_cons (we_v v_pen (wa_cons (w_call () a_nil rfl trivial ?_ (fun _ h => h)))))))
  rintro r ⟨ls, rfl, h0, h1, hg⟩
  refine wa_nil ⟨ls.map tupI, rfl, ⟨by rw [List.length_map]; exact h0, by rw [List.length_map]; omega⟩, ?_, fun _ h => h.elim⟩
  rintro r ⟨d, hd, rfl⟩
  obtain ⟨l, hl, rfl⟩ := List.mem_map.mp hd
  have pk := (hg l hl).1
  refine ws_ret (we_call (wa_cons (we_cb (wa_cons (w_call (l.map PyData.int) (a_cons v_pen (a_cons (v_cb n_listT (a_cons v_im a_nil)) a_nil)) rfl (by show (l.map PyData.int).length < 1000; rw [List.length_map, pk.len]; decide) ?_ (fun _ h => h))))))
  rintro r ⟨es, hp, rfl⟩
  obtain ⟨m, rfl, hpm⟩ := perm_ints hp
  refine wa_nil ⟨_, n_tupN, wa_cons (w_call most (a_cons v_pen (a_cons v_im a_nil)) rfl (by show most < 100000; omega) ?_ (fun _ h => h))⟩
  rintro r ⟨ws, hw, hlen, rfl⟩
  have pkm := pk.perm hpm
  refine wa_nil ⟨(m, ws), rfl, ⟨pkm.len, hw⟩, fun r h => ⟨alongL m ws, (pkm.along hw).more ?_, h⟩, fun _ h => h.elim⟩
  exact Int.mul_le_mul_of_nonneg_right (pow7 hlen) (by decide)
/-! ### packings: great ones -/
theorem mul_bd {x y A B : Int} (hx : -A ≤ x ∧ x ≤ A) (hy : -B ≤ y ∧ y ≤ B) : -(A * B) ≤ x * y ∧ x * y ≤ A * B := by
  have h : (x * y).natAbs ≤ (A * B).natAbs := by
    rw [Int.natAbs_mul, Int.natAbs_mul]
    exact Nat.mul_le_mul (by omega) (by omega)
  have h0 : 0 ≤ A * B := Int.mul_nonneg (by omega) (by omega)
  omega
theorem wide_of {x y : Int} {a b : Nat} (hx : -(10 ^ a) ≤ x ∧ x ≤ 10 ^ a) (hy : -(10 ^ b) ≤ y ∧ y ≤ 10 ^ b) (h : a ≤ 200 ∧ b ≤ 200) : CMulW x y := by
  have k : ∀ (z : Int) (c : Nat), c ≤ 200 → -(10 ^ c) ≤ z ∧ z ≤ 10 ^ c → z.natAbs < 2 ^ 701 := fun z c hc hz => by
    have e : ((10 ^ c : Nat) : Int) = (10 : Int) ^ c := by simp
    have h1 : (10 : Nat) ^ c ≤ 10 ^ 200 := Nat.pow_le_pow_right (by decide) hc
    have h2 := t200
    have h3 : (2 : Nat) ^ 701 = 2 ^ 700 + 2 ^ 700 := by rw [Nat.pow_succ]; omega
    have h4 : (0 : Nat) < 2 ^ 700 := Nat.pow_pos (by decide)
    have : (z.natAbs : Int) ≤ ((10 ^ c : Nat) : Int) := by rw [e]; omega
    omega
  exact wide_mul (k x a h.1 hx) (k y b h.2 hy) (by decide) (by decide) (by decide)
theorem pk_div {M : Int} {l : List Int} (len : l.length = 4) (cone : l.sum * l.sum = 2 * sqL l) (hg : 0 < gcdN 0 l) (bd : ∀ x ∈ l, -M ≤ x ∧ x ≤ M) : Pk M (l.map fun x => x / ((gcdN 0 l : Nat) : Int)) := by
  generalize hG : gcdN 0 l = g at hg
  have dv := ((dvd_gcdN l 0).1 (by rw [hG]; exact Nat.dvd_refl g)).2
  have ex : ∀ x ∈ l, (g : Int) * (x / (g : Int)) = x := fun x hx => Int.mul_ediv_cancel' (dv x hx)
  have g0 : (0 : Int) < (g : Int) := by omega
  have smaller : ∀ x ∈ l, -M ≤ x / (g : Int) ∧ x / (g : Int) ≤ M := fun x hx => by
    have b := bd x hx
    have e := ex x hx
    generalize x / (g : Int) = y at e
    have h1 : y.natAbs ≤ x.natAbs := by
      rw [← e, Int.natAbs_mul]
      exact Nat.le_mul_of_pos_left _ (by omega)
    omega
  refine ⟨by rw [List.length_map]; exact len, ?_, gcd1_iff.2 fun h hh => ?_, fun y hy => ?_⟩
  · match l, len with
    | [a, b, c, d], _ =>
      have ea := ex a (by simp)
      have eb := ex b (by simp)
      have ec := ex c (by simp)
      have ed := ex d (by simp)
      have cone : (a + (b + (c + (d + 0)))) * (a + (b + (c + (d + 0)))) = 2 * (a * a + (b * b + (c * c + (d * d + 0)))) := cone
      show (a / (g : Int) + (b / (g : Int) + (c / (g : Int) + (d / (g : Int) + 0)))) * (a / (g : Int) + (b / (g : Int) + (c / (g : Int) + (d / (g : Int) + 0)))) = 2 * (a / (g : Int) * (a / (g : Int)) + (b / (g : Int) * (b / (g : Int)) + (c / (g : Int) * (c / (g : Int)) + (d / (g : Int) * (d / (g : Int)) + 0))))
      generalize a / (g : Int) = a' at ea ⊢
      generalize b / (g : Int) = b' at eb ⊢
      generalize c / (g : Int) = c' at ec ⊢
      generalize d / (g : Int) = d' at ed ⊢
      generalize (g : Int) = G at *
      subst ea eb ec ed
      have gg : G * G ≠ 0 := Int.mul_ne_zero (by omega) (by omega)
      apply Int.eq_of_mul_eq_mul_left gg
      grind
  · have all : ∀ x ∈ l, ((g * h : Nat) : Int) ∣ x := fun x hx => by
      have := hh (x / (g : Int)) (List.mem_map.mpr ⟨x, hx, rfl⟩)
      rw [← ex x hx, Int.natCast_mul]
      exact Int.mul_dvd_mul_left _ this
    have := (dvd_gcdN l 0).2 ⟨Nat.dvd_zero _, all⟩
    rw [hG] at this
    have := Nat.le_of_dvd hg this
    rcases Nat.lt_or_ge h 2 with z | z
    · have : h = 0 ∨ h = 1 := by omega
      rcases this with rfl | rfl
      · have := (dvd_gcdN l 0).2 ⟨Nat.dvd_zero _, all⟩
        rw [hG, Nat.mul_zero] at this
        have := Nat.eq_zero_of_zero_dvd this
        omega
      · rfl
    · have := Nat.mul_le_mul_left g z
      omega
  · obtain ⟨x, hx, rfl⟩ := List.mem_map.mp hy
    exact smaller x hx
def cn_great_four : Con Unit := { args := fun _ => [.pen], pre := fun _ => True, post := fun _ r => ∃ l : List Int, Pk (7 ^ 5 * 10 ^ 63) l ∧ r = .im (tupI l) }
theorem cone_great {n m f o : Int} (e : f * o = n * n + m * m) : ([0 - n, n + f, n + o, n + f + o - 2 * m] : List Int).sum * ([0 - n, n + f, n + o, n + f + o - 2 * m] : List Int).sum = 2 * sqL [0 - n, n + f, n + o, n + f + o - 2 * m] := by
  show (0 - n + (n + f + (n + o + (n + f + o - 2 * m + 0)))) * (0 - n + (n + f + (n + o + (n + f + o - 2 * m + 0)))) = 2 * ((0 - n) * (0 - n) + ((n + f) * (n + f) + ((n + o) * (n + o) + ((n + f + o - 2 * m) * (n + f + o - 2 * m) + 0))))
  grind
theorem gcd_size {l : List Int} {x : Int} (hx : x ∈ l) (h : 0 < x) : 0 < gcdN 0 l ∧ ((gcdN 0 l : Nat) : Int) ≤ x := by
  have dv := ((dvd_gcdN l 0).1 (Nat.dvd_refl _)).2 x hx
  have := Int.le_of_dvd h dv
  refine ⟨?_, this⟩
  rcases Nat.eq_zero_or_pos (gcdN 0 l) with z | z
  · rw [z] at dv
    have := Int.zero_dvd.mp dv
    omega
  · exact z
theorem ok__law_great_four (T : Txt K mg A) : FnOk P w K mg base CX0 4 A.a__law_great_four A.d__law_great_four ["pen"] (spC K cn_great_four) := by
  have G__law_draw : FnOk P w K mg base CX0 1 A.a__law_draw A.d__law_draw ["pen", "many"] (spC K cn_draw) := ok__law_draw T
  have G__law_pick : FnOk P w K mg base CX0 2 A.a__law_pick A.d__law_pick ["pen", "some"] (spC K cn_pick) := ok__law_pick T
  have G__law_common : FnOk P w K mg base CX0 1 A.a__law_common A.d__law_common ["four"] (spC K cn_common) := ok__law_common T
  have G__law_along : FnOk P w K mg base CX0 2 A.a__law_along A.d__law_along ["four", "word"] (spC K cn_along) := ok__law_along T
  have G__law_shuffled : FnOk P w K mg base CX0 2 A.a__law_shuffled A.d__law_shuffled ["pen", "some"] (spC K cn_shuffled) := ok__law_shuffled T
  have G__law_normal_word : FnOk P w K mg base CX0 3 A.a__law_normal_word A.d__law_normal_word ["pen", "most"] (spC K cn_normal_word) := ok__law_normal_word T
  refine fn_ok cn_great_four T.F__law_great_four sc__law_great_four (fun _ => rfl) fun cdv A' outer s H hr => ⟨_, (pss_cons (ps_set (i := 1) sc__law_great_four.nd rfl (Or.inl rfl) (pe_call G__law_pick (hr.mono (by first | decide | omega)) (by rfl) T.g__law_pick T.k__law_pick T.b__law_pick .nil pass0 (pa_cons (pv 0) (pa_cons (pe_lst (pa_cons pe_int (pa_cons (pe_op op_pow pe_int pe_int) (pa_cons (pe_op op_pow pe_int pe_int) pa_nil)))) pa_nil))))
  (pss_cons (ps_par (i := 2) (j := 3) (by rfl) sc__law_great_four.nd rfl rfl (by decide) rfl rfl (pa_cons (pe_op op_add pe_int (pe_call G__law_draw (hr.mono (by first | decide | omega)) (by rfl) T.g__law_draw T.k__law_draw T.b__law_draw .nil pass0 (pa_cons (pv 0) (pa_cons (pv 1) pa_nil)))) (pa_cons (pe_op op_add pe_int (pe_call G__law_draw (hr.mono (by first | decide | omega)) (by rfl) T.g__law_draw T.k__law_draw T.b__law_draw .nil pass0 (pa_cons (pv 0) (pa_cons (pv 1) pa_nil)))) pa_nil)) (by rfl))
  (pss_cons (ps_par (i := 4) (j := 5) (by rfl) sc__law_great_four.nd rfl rfl (by decide) rfl rfl (pa_cons (pe_op op_sub (pe_call G__law_draw (hr.mono (by first | decide | omega)) (by rfl) T.g__law_draw T.k__law_draw T.b__law_draw .nil pass0 (pa_cons (pv 0) (pa_cons pe_int pa_nil))) pe_int) (pa_cons (pe_op op_sub (pe_call G__law_draw (hr.mono (by first | decide | omega)) (by rfl) T.g__law_draw T.k__law_draw T.b__law_draw .nil pass0 (pa_cons (pv 0) (pa_cons pe_int pa_nil))) pe_int) pa_nil)) (by rfl))
  (pss_cons (ps_par (i := 6) (j := 7) (by rfl) sc__law_great_four.nd rfl rfl (by decide) rfl rfl (pa_cons (pe_op op_add (pv 3) (pv 4)) (pa_cons (pe_op op_add (pv 2) (pv 5)) pa_nil)) (by rfl))
  (pss_cons (ps_par (i := 8) (j := 9) (by rfl) sc__law_great_four.nd rfl rfl (by decide) rfl rfl (pa_cons (pe_callB call_abs (by rfl) T.m_abs b_abs (pa_cons (pe_op op_sub (pe_op op_mulW (pv 2) (pv 6)) (pe_op op_mulW (pv 3) (pv 7))) pa_nil)) (pa_cons (pe_op op_add (pe_op op_mulW (pv 2) (pv 7)) (pe_op op_mulW (pv 3) (pv 6))) pa_nil)) (by rfl))
  (pss_cons (ps_par (i := 10) (j := 11) (by rfl) sc__law_great_four.nd rfl rfl (by decide) rfl rfl (pa_cons (pe_op op_add (pe_op op_mulW (pv 2) (pv 2)) (pe_op op_mulW (pv 3) (pv 3))) (pa_cons (pe_op op_add (pe_op op_mulW (pv 6) (pv 6)) (pe_op op_mulW (pv 7) (pv 7))) pa_nil)) (by rfl))
  (pss_cons (ps_set (i := 12) sc__law_great_four.nd rfl (Or.inl rfl) (pe_tup (pa_cons (pe_op op_sub pe_int (pv 9)) (pa_cons (pe_op op_add (pv 9) (pv 10)) (pa_cons (pe_op op_add (pv 9) (pv 11)) (pa_cons (pe_op op_sub (pe_op op_add (pe_op op_add (pv 9) (pv 10)) (pv 11)) (pe_op op_mul pe_int (pv 8))) pa_nil))))))
  (pss_cons (ps_set (i := 13) sc__law_great_four.nd rfl (Or.inr rfl) (pe_call G__law_common (hr.mono (by first | decide | omega)) (by rfl) T.g__law_common T.k__law_common T.b__law_common .nil pass0 (pa_cons (pv 12) pa_nil)))
  (pss_cons (ps_set (i := 14) sc__law_great_four.nd rfl (Or.inl rfl) (pe_callTy call_tuple_of (by rfl) T.m_tuple b_tuple (pa_cons (pe_lc (own := [("one", 15)]) (g := (gName 15)) (by rfl) sc__law_great_four.nd (pi_tup (pv 12)) (blkOk_by (own := [("one", 15)]) (N := ["pen", "size", "p", "q", "a", "b", "r", "s", "m", "n", "first", "other", "four", "by", "root", "one"]) (sc := defScope s__law_great_four) (by decide +kernel)) (fun _ _ _ _ _ => (pg_name (i := 15) sc__law_great_four.nd rfl (Or.inl rfl))) (fun _ _ _ _ _ => pts_nil) (fun _ _ _ _ _ => (pe_op op_fdivW (pv 15) (pv 13)))) pa_nil)))
  (pss_one (ps_ret (pe_call G__law_along (hr.mono (by first | decide | omega)) (by rfl) T.g__law_along T.k__law_along T.b__law_along .nil pass0 (pa_cons (pe_callTy call_tuple_of (by rfl) T.m_tuple b_tuple (pa_cons (pe_call G__law_shuffled (hr.mono (by first | decide | omega)) (by rfl) T.g__law_shuffled T.k__law_shuffled T.b__law_shuffled .nil pass0 (pa_cons (pv 0) (pa_cons (pe_callTy call_list_of (by rfl) T.m_list b_list (pa_cons (pv 14) pa_nil)) pa_nil))) pa_nil)) (pa_cons (pe_call G__law_normal_word (hr.mono (by first | decide | omega)) (by rfl) T.g__law_normal_word T.k__law_normal_word T.b__law_normal_word .nil pass0 (pa_cons (pv 0) (pa_cons pe_int pa_nil))) pa_nil)))))))))))))), fun pn _ _ => ?_⟩
  refine ws_seq (ws_asg (w_call [.int 100, .int ((10 : Int) ^ (9 : Int).toNat), .int ((10 : Int) ^ (30 : Int).toNat)] (a_cons v_pen (a_cons (v_lst (ds := [.int 100, .int ((10 : Int) ^ (9 : Int).toNat), .int ((10 : Int) ^ (30 : Int).toNat)]) (a_cons v_int (a_cons (v_op (o_pow ⟨by decide, by decide, by decide⟩) v_int v_int) (a_cons (v_op (o_pow ⟨by decide, by decide, by decide⟩) v_int v_int) a_nil)))) a_nil)) rfl ⟨by decide, by decide⟩ ?_ (fun _ h => h)))
  rintro r ⟨d, hd, rfl⟩
  obtain ⟨z, rfl, hz0, hz1⟩ : ∃ z : Int, d = .int z ∧ 0 < z ∧ z ≤ 10 ^ 30 := by
    simp only [List.mem_cons, List.not_mem_nil, or_false] at hd
    rcases hd with rfl | rfl | rfl <;> exact ⟨_, rfl, by decide, by decide⟩
  have hzb : z.natAbs < 2 ^ 2000 := by
    have h1 : (10 : Nat) ^ 30 < 2 ^ 2000 := by decide +kernel
    have e : ((10 ^ 30 : Nat) : Int) = (10 : Int) ^ 30 := by simp
    have : (z.natAbs : Int) ≤ ((10 ^ 30 : Nat) : Int) := by rw [e]; omega
    omega
  refine ws_seq (ws_par (wa_cons (we_op (we_v v_int (w_call z (a_cons v_pen (a_cons v_im a_nil)) rfl ⟨hz0, hzb⟩ ?_ (fun _ h => h))))))
  rintro r ⟨x1, a0, a1, rfl⟩
  refine ⟨_, o_add, wa_cons (we_op (we_v v_int (w_call z (a_cons v_pen (a_cons v_im a_nil)) rfl ⟨hz0, hzb⟩ ?_ (fun _ h => h))))⟩
  rintro r ⟨x2, b0, b1, rfl⟩
  refine ⟨_, o_add, wa_nil ⟨_, _, rfl, ?_⟩⟩
  show WS _ _ [.pen, I z, I (50 + x1), I (50 + x2), .no, .no, .no, .no, .no, .no, .no, .no, .no, .no, .no, .no] _
  generalize hp : 50 + x1 = p
  generalize hq : 50 + x2 = q
  refine ws_seq (ws_par (wa_cons (we_op (w_call 7 (a_cons v_pen (a_cons v_int a_nil)) rfl ⟨by decide, small_lt (by decide)⟩ ?_ (fun _ h => h)))))
  rintro r ⟨x3, c0, c1, rfl⟩
  refine we_v v_int ⟨_, o_sub, wa_cons (we_op (w_call 7 (a_cons v_pen (a_cons v_int a_nil)) rfl ⟨by decide, small_lt (by decide)⟩ ?_ (fun _ h => h)))⟩
  rintro r ⟨x4, d0, d1, rfl⟩
  refine we_v v_int ⟨_, o_sub, wa_nil ⟨_, _, rfl, ?_⟩⟩
  show WS _ _ [.pen, I z, I p, I q, I (x3 - 3), I (x4 - 3), .no, .no, .no, .no, .no, .no, .no, .no, .no, .no] _
  refine ws_seq (s_par (a_cons (v_op o_add v_im v_im) (a_cons (v_op o_add v_im v_im) a_nil)) ?_)
  show WS _ _ [.pen, I z, I p, I q, I (x3 - 3), I (x4 - 3), I (q + (x3 - 3)), I (p + (x4 - 3)), .no, .no, .no, .no, .no, .no, .no, .no] _
  generalize hr' : q + (x3 - 3) = r
  generalize hs' : p + (x4 - 3) = s'
  have t30' : (10 : Int) ^ 31 = 10 * 10 ^ 30 := by decide
  have big : (1000 : Int) ≤ 10 ^ 30 := by decide
  have hP : 1 ≤ p ∧ p ≤ 10 ^ 31 := by omega
  have hQ : 1 ≤ q ∧ q ≤ 10 ^ 31 := by omega
  have hR : 1 ≤ r ∧ r ≤ 10 ^ 31 := by omega
  have hS : 1 ≤ s' ∧ s' ≤ 10 ^ 31 := by omega
  have W : ∀ x y : Int, 1 ≤ x ∧ x ≤ 10 ^ 31 → 1 ≤ y ∧ y ≤ 10 ^ 31 → CMulW x y := fun x y hx hy => wide_of (a := 31) (b := 31) ⟨by omega, by omega⟩ ⟨by omega, by omega⟩ ⟨by decide, by decide⟩
  have e62 : (10 : Int) ^ 31 * 10 ^ 31 = 10 ^ 62 := by decide
  have Bd : ∀ x y : Int, 1 ≤ x ∧ x ≤ 10 ^ 31 → 1 ≤ y ∧ y ≤ 10 ^ 31 → 1 ≤ x * y ∧ x * y ≤ 10 ^ 62 := fun x y hx hy => by
    have h1 := Int.mul_le_mul hx.1 hy.1 (by decide) (by omega)
    have h2 := Int.mul_le_mul hx.2 hy.2 (by omega) (by decide)
    rw [e62] at h2
    omega
  clear hp hq hr' hs' a0 a1 b0 b1 c0 c1 d0 d1 hz0 hz1 hzb
  refine ws_seq (s_par (a_cons (v_cb n_abs (a_cons (v_op o_sub (v_op (o_mulW (W p r hP hR)) v_im v_im) (v_op (o_mulW (W q s' hQ hS)) v_im v_im)) a_nil)) (a_cons (v_op o_add (v_op (o_mulW (W p s' hP hS)) v_im v_im) (v_op (o_mulW (W q r hQ hR)) v_im v_im)) a_nil)) ?_)
  show WS _ _ [.pen, I z, I p, I q, I (x3 - 3), I (x4 - 3), I r, I s', I (if p * r - q * s' < 0 then -(p * r - q * s') else p * r - q * s'), I (p * s' + q * r), .no, .no, .no, .no, .no, .no] _
  rw [abs_nat]
  refine ws_seq (s_par (a_cons (v_op o_add (v_op (o_mulW (W p p hP hP)) v_im v_im) (v_op (o_mulW (W q q hQ hQ)) v_im v_im)) (a_cons (v_op o_add (v_op (o_mulW (W r r hR hR)) v_im v_im) (v_op (o_mulW (W s' s' hS hS)) v_im v_im)) a_nil)) ?_)
  show WS _ _ [.pen, I z, I p, I q, I (x3 - 3), I (x4 - 3), I r, I s', I ((p * r - q * s').natAbs : Int), I (p * s' + q * r), I (p * p + q * q), I (r * r + s' * s'), .no, .no, .no, .no] _
  have b1 := Bd p r hP hR
  have b2 := Bd q s' hQ hS
  have b3 := Bd p s' hP hS
  have b4 := Bd q r hQ hR
  have b5 := Bd p p hP hP
  have b6 := Bd q q hQ hQ
  have b7 := Bd r r hR hR
  have b8 := Bd s' s' hS hS
  have ee : (p * p + q * q) * (r * r + s' * s') = (p * s' + q * r) * (p * s' + q * r) + ((p * r - q * s').natAbs : Int) * ((p * r - q * s').natAbs : Int) := by
    have : ((p * r - q * s').natAbs : Int) * ((p * r - q * s').natAbs : Int) = (p * r - q * s') * (p * r - q * s') := Int.natAbs_mul_self
    rw [this]
    grind
  have hm1 : 0 ≤ ((p * r - q * s').natAbs : Int) ∧ ((p * r - q * s').natAbs : Int) ≤ 10 ^ 62 := by omega
  have hn1 : 1 ≤ p * s' + q * r ∧ p * s' + q * r ≤ 2 * 10 ^ 62 := by omega
  have hf1 : 1 ≤ p * p + q * q ∧ p * p + q * q ≤ 2 * 10 ^ 62 := by omega
  have ho1 : 1 ≤ r * r + s' * s' ∧ r * r + s' * s' ≤ 2 * 10 ^ 62 := by omega
  clear b1 b2 b3 b4 b5 b6 b7 b8
  generalize ((p * r - q * s').natAbs : Int) = m at ee hm1 ⊢
  generalize p * s' + q * r = n at ee hn1 ⊢
  generalize p * p + q * q = f at ee hf1 ⊢
  generalize r * r + s' * s' = o at ee ho1 ⊢
  have c2m : CMul 2 m := .inl ⟨by decide, by decide⟩
  refine ws_seq (ws_asg (we_v (v_tup (ds := [.int (0 - n), .int (n + f), .int (n + o), .int (n + f + o - 2 * m)]) (a_cons (v_op o_sub v_int v_im) (a_cons (v_op o_add v_im v_im) (a_cons (v_op o_add v_im v_im) (a_cons (v_op o_sub (v_op o_add (v_op o_add v_im v_im) v_im) (v_op (o_mul c2m) v_int v_im)) a_nil)))) (by show 4 ≤ 1000000; decide)) ?_))
  show WS _ _ [.pen, I z, I p, I q, I (x3 - 3), I (x4 - 3), I r, I s', I m, I n, I f, I o, .im (tupI [0 - n, n + f, n + o, n + f + o - 2 * m]), .no, .no, .no] _
  have cone := cone_great ee
  obtain ⟨g0, g1⟩ := gcd_size (l := [0 - n, n + f, n + o, n + f + o - 2 * m]) (x := n + f) (by simp) (by omega)
  have e63 : (10 : Int) ^ 63 = 10 * 10 ^ 62 := by decide
  have bd : ∀ x ∈ ([0 - n, n + f, n + o, n + f + o - 2 * m] : List Int), -(10 ^ 63) ≤ x ∧ x ≤ 10 ^ 63 := fun x hx => by
    simp only [List.mem_cons, List.not_mem_nil, or_false] at hx
    rcases hx with rfl | rfl | rfl | rfl <;> omega
  have pk := pk_div rfl cone g0 bd
  generalize hl : ([0 - n, n + f, n + o, n + f + o - 2 * m] : List Int) = l at pk g0 g1 ⊢
  have l4 : l.length = 4 := by rw [← hl]; rfl
  refine ws_seq (ws_asg (we_v (v_call l (a_cons v_im a_nil) rfl (by show l.length ≤ 1000; omega) (fun r h => h) (fun _ h => h)) ?_))
  show WS _ _ [.pen, I z, I p, I q, I (x3 - 3), I (x4 - 3), I r, I s', I m, I n, I f, I o, .im (tupI l), I ((gcdN 0 l : Nat) : Int), .no, .no] _
  have cdw : ∀ x : Int, CDivW x ((gcdN 0 l : Nat) : Int) := fun x => by
    refine wide_div (b := 701) (by omega) ?_ (by decide) (by decide)
    have h2 := t200
    have h3 : (2 : Nat) ^ 701 = 2 ^ 700 + 2 ^ 700 := by rw [Nat.pow_succ]; omega
    have h5 : (10 : Nat) ^ 63 ≤ 10 ^ 200 := Nat.pow_le_pow_right (by decide) (by decide)
    have e : ((10 ^ 63 : Nat) : Int) = (10 : Int) ^ 63 := by simp
    have h4 : (0 : Nat) < 2 ^ 700 := Nat.pow_pos (by decide)
    have : (((gcdN 0 l : Nat) : Int).natAbs : Int) ≤ ((10 ^ 63 : Nat) : Int) := by rw [e]; omega
    omega
  refine ws_seq (ws_asg (we_cb (wa_cons (we_v (ve_is (v_lcm (i_tup v_im) (fun d => match d with | .int x => PyData.int (x / ((gcdN 0 l : Nat) : Int)) | z => z) (by rw [List.length_map]; omega) (Nat.le_of_ble_eq_true rfl) fun d hd => ?_) (show Ent.ls _ = Ent.ls ((l.map fun x => x / ((gcdN 0 l : Nat) : Int)).map PyData.int) from ?_)) (wa_nil ⟨_, n_tupN, ?_⟩)))))
  · obtain ⟨x, _, rfl⟩ := List.mem_map.mp hd
    exact v_op (o_fdivW (cdw x)) v_im v_im
  · rw [List.map_map, List.map_map]; rfl
  generalize (l.map fun x => x / ((gcdN 0 l : Nat) : Int)) = k at pk ⊢
  refine ws_ret (we_call (wa_cons (we_cb (wa_cons (w_call (k.map PyData.int) (a_cons v_pen (a_cons (v_cb n_listT (a_cons v_im a_nil)) a_nil)) rfl (by show (k.map PyData.int).length < 1000; rw [List.length_map, pk.len]; decide) ?_ (fun _ h => h))))))
  rintro r ⟨es, hp, rfl⟩
  obtain ⟨mm, rfl, hpm⟩ := perm_ints hp
  refine wa_nil ⟨_, n_tupN, wa_cons (w_call 5 (a_cons v_pen (a_cons v_int a_nil)) rfl (by show 5 < 100000; decide) ?_ (fun _ h => h))⟩
  rintro r ⟨ws, hw, hlen, rfl⟩
  have pkm := pk.perm hpm
  refine wa_nil ⟨(mm, ws), rfl, ⟨pkm.len, hw⟩, fun r h => ⟨alongL mm ws, (pkm.along hw).more ?_, h⟩, fun _ h => h.elim⟩
  exact Int.mul_le_mul_of_nonneg_right (pow7 hlen) (by decide)
/-! ### whole roots -/
def cn_whole_root : Con Nat := { args := fun n => [I n], pre := fun n => n < 2 ^ 1000, post := fun n r => ∃ t : Nat, t * t ≤ n ∧ n < (t + 1) * (t + 1) ∧ r = I t }
theorem wide_sq {h n : Nat} (hn : n < 2 ^ 1000) (hh : h ≤ 2 * n + 1) : CMulW (h : Int) (h : Int) := by
  have e : (2 : Nat) ^ 1002 = 4 * 2 ^ 1000 := by rw [Nat.pow_succ, Nat.pow_succ]; omega
  have b : ((h : Int)).natAbs < 2 ^ 1002 := by
    have : ((h : Int)).natAbs = h := Int.natAbs_natCast h
    omega
  exact wide_mul b b (by decide) (by decide) (by decide)
theorem ok_whole_root (T : Txt K mg A) : FnOk P w K mg base CX0 1 A.a_whole_root A.d_whole_root ["number"] (spC K cn_whole_root) := by
  refine fn_ok cn_whole_root T.F_whole_root sc_whole_root (fun _ => rfl) fun cdv A' outer s H hr => ⟨_, (pss_cons (ps_asg (pe_tup (pa_cons pe_int (pa_cons pe_int pa_nil))) (pg_tup (by rfl) (pgs_cons (pg_name (i := 1) sc_whole_root.nd rfl (Or.inl rfl)) (pgs_cons (pg_name (i := 2) sc_whole_root.nd rfl (Or.inl rfl)) pgs_nil))))
  (pss_cons (ps_while PassesOwn.never (pt_cmpR op_le (pe_op op_mulW (pv 2) (pv 2)) (pv 0) (nomark _))
  (pss_one (ps_aug (i := 2) sc_whole_root.nd rfl (Or.inl rfl) pe_int iop_mul)))
  (pss_cons (ps_while PassesOwn.never (pt_cmpR op_gt (pe_op op_sub (pv 2) (pv 1)) pe_int (nomark _))
  (pss_cons (ps_set (i := 3) sc_whole_root.nd rfl (Or.inl rfl) (pe_op op_fdiv (pe_op op_add (pv 1) (pv 2)) pe_int))
  (pss_one (ps_if (pt_cmpR op_le (pe_op op_mulW (pv 3) (pv 3)) (pv 0) (nomark _))
  (pss_one (ps_set (i := 1) sc_whole_root.nd rfl (Or.inl rfl) (pv 3)))
  (pss_one (ps_set (i := 2) sc_whole_root.nd rfl (Or.inl rfl) (pv 3)))))))
  (pss_one (ps_ret (pv 1)))))), fun p n hn => ?_⟩
  have hn : n < 2 ^ 1000 := hn
  refine ws_seq (ws_asgT (we_v (v_tup (ds := [.int 0, .int 1]) (a_cons v_int (a_cons v_int a_nil))) ⟨_, rfl, rfl, wg_name (wg_name (wg_nil ?_))⟩))
  refine ws_seq (ws_while (fun m Γ => ∃ h : Nat, n + 1 - h = m ∧ 1 ≤ h ∧ h ≤ 2 * n + 1 ∧ Γ = [I n, I 0, I h, .no]) n (up_of ⟨1, by omega, Nat.le_refl _, by omega, rfl⟩) ?_)
  rintro m Γ ⟨h, rfl, h1, h2, rfl⟩
  refine wt_v (t_test (v_op o_le (v_op (o_mulW (wide_sq hn h2)) v_im v_im) v_im)) ⟨fun hh => ?_, fun hh => ?_⟩
  · have hh : (h : Int) * h ≤ n := of_decide_eq_true hh
    have hh : h * h ≤ n := by exact_mod_cast hh
    have hle : h ≤ h * h := Nat.le_mul_self h
    refine ws_aug rfl (we_v v_int ⟨_, o_mul (.inr ⟨by decide, by decide⟩), ?_⟩)
    refine ⟨n + 1 - 2 * h, by omega, up_of ⟨2 * h, rfl, by omega, by omega, ?_⟩⟩
    show [I n, I 0, I ((h : Int) * 2), .no] = _
    rw [show (h : Int) * 2 = ((2 * h : Nat) : Int) by omega]
  · have hh : ¬ (h : Int) * h ≤ n := of_decide_eq_false hh
    have hh : n < h * h := by
      have : ¬ h * h ≤ n := fun z => hh (by exact_mod_cast z)
      omega
    refine ws_seq (ws_while (fun m Γ => ∃ (l h : Nat) (e : Ent), h - l = m ∧ l < h ∧ h ≤ 2 * n + 1 ∧ l * l ≤ n ∧ n < h * h ∧ Γ = [I n, I l, I h, e]) (h - 0) (up_of ⟨0, h, .no, rfl, by omega, h2, by omega, hh, rfl⟩) ?_)
    clear h1 h2 hh
    rintro m Γ ⟨l, h, e, rfl, h1, h2, h3, h4, rfl⟩
    refine wt_v (t_test (v_op o_gt (v_op o_sub v_im v_im) v_int)) ⟨fun hh => ?_, fun hh => ?_⟩
    · have hh : (1 : Int) < (h : Int) - l := of_decide_eq_true hh
      refine ws_seq (ws_asg (we_v (v_op (o_fdiv ⟨by decide, by decide⟩) (v_op o_add v_im v_im) v_int) ?_))
      show WS _ _ [I n, I l, I h, I (((l : Int) + h) / 2)] _
      obtain ⟨q, hq⟩ : ∃ q : Nat, ((l : Int) + h) / 2 = (q : Int) := ⟨(l + h) / 2, by omega⟩
      have hq2 : q = (l + h) / 2 := by omega
      rw [hq]
      refine s_if (t_test (v_op o_le (v_op (o_mulW (wide_sq (h := q) hn (by omega))) v_im v_im) v_im)) (fun h5 => ?_) fun h5 => ?_
      · have h5 : (q : Int) * q ≤ n := of_decide_eq_true h5
        have h5 : q * q ≤ n := by exact_mod_cast h5
        exact ws_asg (we_v v_im ⟨h - q, by omega, up_of ⟨q, h, _, rfl, by omega, h2, h5, h4, rfl⟩⟩)
      · have h5 : ¬ (q : Int) * q ≤ n := of_decide_eq_false h5
        have h5 : n < q * q := by
          have : ¬ q * q ≤ n := fun z => h5 (by exact_mod_cast z)
          omega
        exact ws_asg (we_v v_im ⟨q - l, by omega, up_of ⟨l, q, _, rfl, by omega, by omega, h3, h5, rfl⟩⟩)
    · have hh : ¬ (1 : Int) < (h : Int) - l := of_decide_eq_false hh
      have : h = l + 1 := by omega
      subst this
      exact ws_ret (we_v v_im ⟨l, h3, h4, rfl⟩)
def cn_root_square : Con Nat := { args := fun n => [I n], pre := fun n => n < 2 ^ 1000, post := fun n r => (∃ t : Nat, t * t = n ∧ r = I t) ∨ ((∀ t : Nat, t * t ≠ n) ∧ r = .im .none) }
theorem root_uniq {n t u : Nat} (h1 : t * t ≤ n) (h2 : n < (t + 1) * (t + 1)) (h3 : u * u = n) : u = t := by
  rcases Nat.lt_or_ge u t with z | z
  · have := Nat.mul_le_mul (show u + 1 ≤ t from z) (show u + 1 ≤ t from z)
    have : u * u < (u + 1) * (u + 1) := Nat.mul_lt_mul'' (by omega) (by omega)
    omega
  · rcases Nat.lt_or_ge t u with z' | z'
    · have := Nat.mul_le_mul (show t + 1 ≤ u from z') (show t + 1 ≤ u from z')
      omega
    · omega
theorem ok__law_root_square (T : Txt K mg A) : FnOk P w K mg base CX0 1 A.a__law_root_square A.d__law_root_square ["number"] (spC K cn_root_square) := by
  refine fn_ok cn_root_square T.F__law_root_square sc__law_root_square (fun _ => rfl) fun cdv A' outer s H hr => ⟨_, (pss_cons (ps_asg (pe_tup (pa_cons pe_int (pa_cons pe_int pa_nil))) (pg_tup (by rfl) (pgs_cons (pg_name (i := 1) sc__law_root_square.nd rfl (Or.inl rfl)) (pgs_cons (pg_name (i := 2) sc__law_root_square.nd rfl (Or.inl rfl)) pgs_nil))))
  (pss_cons (ps_while PassesOwn.never (pt_cmpR op_le (pe_op op_mulW (pv 2) (pv 2)) (pv 0) (nomark _))
  (pss_one (ps_set (i := 2) sc__law_root_square.nd rfl (Or.inl rfl) (pe_op op_mul pe_int (pv 2)))))
  (pss_cons (ps_while PassesOwn.never (pt_cmpR op_gt (pe_op op_sub (pv 2) (pv 1)) pe_int (nomark _))
  (pss_cons (ps_set (i := 3) sc__law_root_square.nd rfl (Or.inl rfl) (pe_op op_fdiv (pe_op op_add (pv 1) (pv 2)) pe_int))
  (pss_one (ps_if (pt_cmpR op_le (pe_op op_mulW (pv 3) (pv 3)) (pv 0) (nomark _))
  (pss_one (ps_set (i := 1) sc__law_root_square.nd rfl (Or.inl rfl) (pv 3)))
  (pss_one (ps_set (i := 2) sc__law_root_square.nd rfl (Or.inl rfl) (pv 3)))))))
  (pss_one (ps_ret (pe_ifExp (pt_cmpR op_eq (pe_op op_mulW (pv 1) (pv 1)) (pv 0) (nomark _)) (pv 1) pe_non)))))), fun p n hn => ?_⟩
  have hn : n < 2 ^ 1000 := hn
  refine ws_seq (ws_asgT (we_v (v_tup (ds := [.int 0, .int 1]) (a_cons v_int (a_cons v_int a_nil))) ⟨_, rfl, rfl, wg_name (wg_name (wg_nil ?_))⟩))
  refine ws_seq (ws_while (fun m Γ => ∃ h : Nat, n + 1 - h = m ∧ 1 ≤ h ∧ h ≤ 2 * n + 1 ∧ Γ = [I n, I 0, I h, .no]) n (up_of ⟨1, by omega, Nat.le_refl _, by omega, rfl⟩) ?_)
  rintro m Γ ⟨h, rfl, h1, h2, rfl⟩
  refine wt_v (t_test (v_op o_le (v_op (o_mulW (wide_sq hn h2)) v_im v_im) v_im)) ⟨fun hh => ?_, fun hh => ?_⟩
  · have hh : (h : Int) * h ≤ n := of_decide_eq_true hh
    have hh : h * h ≤ n := by exact_mod_cast hh
    have hle : h ≤ h * h := Nat.le_mul_self h
    refine ws_asg (we_v (v_op (o_mul (.inl ⟨by decide, by decide⟩)) v_int v_im) ?_)
    refine ⟨n + 1 - 2 * h, by omega, up_of ⟨2 * h, rfl, by omega, by omega, ?_⟩⟩
    show [I n, I 0, I (2 * (h : Int)), .no] = _
    rw [show 2 * (h : Int) = ((2 * h : Nat) : Int) by omega]
  · have hh : ¬ (h : Int) * h ≤ n := of_decide_eq_false hh
    have hh : n < h * h := by
      have : ¬ h * h ≤ n := fun z => hh (by exact_mod_cast z)
      omega
    refine ws_seq (ws_while (fun m Γ => ∃ (l h : Nat) (e : Ent), h - l = m ∧ l < h ∧ h ≤ 2 * n + 1 ∧ l * l ≤ n ∧ n < h * h ∧ Γ = [I n, I l, I h, e]) (h - 0) (up_of ⟨0, h, .no, rfl, by omega, h2, by omega, hh, rfl⟩) ?_)
    clear h1 h2 hh
    rintro m Γ ⟨l, h, e, rfl, h1, h2, h3, h4, rfl⟩
    refine wt_v (t_test (v_op o_gt (v_op o_sub v_im v_im) v_int)) ⟨fun hh => ?_, fun hh => ?_⟩
    · have hh : (1 : Int) < (h : Int) - l := of_decide_eq_true hh
      refine ws_seq (ws_asg (we_v (v_op (o_fdiv ⟨by decide, by decide⟩) (v_op o_add v_im v_im) v_int) ?_))
      show WS _ _ [I n, I l, I h, I (((l : Int) + h) / 2)] _
      obtain ⟨q, hq⟩ : ∃ q : Nat, ((l : Int) + h) / 2 = (q : Int) := ⟨(l + h) / 2, by omega⟩
      have hq2 : q = (l + h) / 2 := by omega
      rw [hq]
      refine s_if (t_test (v_op o_le (v_op (o_mulW (wide_sq (h := q) hn (by omega))) v_im v_im) v_im)) (fun h5 => ?_) fun h5 => ?_
      · have h5 : (q : Int) * q ≤ n := of_decide_eq_true h5
        have h5 : q * q ≤ n := by exact_mod_cast h5
        exact ws_asg (we_v v_im ⟨h - q, by omega, up_of ⟨q, h, _, rfl, by omega, h2, h5, h4, rfl⟩⟩)
      · have h5 : ¬ (q : Int) * q ≤ n := of_decide_eq_false h5
        have h5 : n < q * q := by
          have : ¬ q * q ≤ n := fun z => h5 (by exact_mod_cast z)
          omega
        exact ws_asg (we_v v_im ⟨q - l, by omega, up_of ⟨l, q, _, rfl, by omega, by omega, h3, h5, rfl⟩⟩)
    · have hh : ¬ (1 : Int) < (h : Int) - l := of_decide_eq_false hh
      have : h = l + 1 := by omega
      subst this
      refine ws_ret (we_if (wt_v (t_test (v_op o_eqI (v_op (o_mulW (wide_sq (h := l) hn (by omega))) v_im v_im) v_im)) ⟨fun h5 => we_v v_im (.inl ⟨l, ?_, rfl⟩), fun h5 => we_v v_non (.inr ⟨fun t ht => ?_, rfl⟩)⟩))
      · have h5 : (l : Int) * l = n := of_decide_eq_true h5
        exact_mod_cast h5
      · have h5 : ¬ (l : Int) * l = n := of_decide_eq_false h5
        have := root_uniq h3 h4 ht
        subst this
        exact h5 (by exact_mod_cast ht)
/-! ### triples -/
def kk (a b c : Int) : Int := a * b + b * c + c * a
def SqOk (a b c : Int) : Prop := ¬ (a = 0 ∧ b = 0 ∧ c = 0) ∧ ∃ t : Nat, ((t * t : Nat) : Int) = kk a b c
def FitP (a b c : Int) : Prop := SqOk a b c ∧ Int.gcd (Int.gcd a b) c = 1
def Sm (x : Int) : Prop := -(10 ^ 70) ≤ x ∧ x ≤ 10 ^ 70
theorem sm_w {x y : Int} (hx : Sm x) (hy : Sm y) : CMulW x y := wide_of (a := 70) (b := 70) hx hy ⟨by decide, by decide⟩
theorem kk_bd {a b c : Int} (ha : Sm a) (hb : Sm b) (hc : Sm c) {n : Nat} (h : kk a b c = (n : Int)) : n < 2 ^ 1000 := by
  have h1 := mul_bd ha hb
  have h2 := mul_bd hb hc
  have h3 := mul_bd hc ha
  have e : (10 : Int) ^ 70 * 10 ^ 70 = 10 ^ 140 := by decide
  rw [e] at h1 h2 h3
  have e2 : ((10 ^ 140 : Nat) : Int) = (10 : Int) ^ 140 := by simp
  have e3 : 3 * (10 : Nat) ^ 140 < 2 ^ 1000 := by decide +kernel
  unfold kk at h
  have : (n : Int) ≤ 3 * ((10 ^ 140 : Nat) : Int) := by rw [e2]; omega
  omega
theorem eqv3 (a b c : Int) : PyData.eqv (.tuple [.int a, .int b, .int c]) (.tuple [.int 0, .int 0, .int 0]) = decide (a = 0 ∧ b = 0 ∧ c = 0) := by
  have e : ∀ x : Int, (x == 0) = decide (x = 0) := fun x => by by_cases h : x = 0 <;> simp [h]
  simp [PyData.eqv, PyData.eqvAll, e]
theorem eqvT0 (ds : List PyData) : PyData.eqv (.tuple ds) (.tuple []) = decide (ds = []) := by
  cases ds <;> simp [PyData.eqv, PyData.eqvAll]
def cn_fourths : Con (Int × Int × Int) := { args := fun d => [I d.1, I d.2.1, I d.2.2], pre := fun d => Sm d.1 ∧ Sm d.2.1 ∧ Sm d.2.2, post := fun d r => ∃ l : List Int, r = .im (tupI l) ∧ (l = [] ↔ ¬ SqOk d.1 d.2.1 d.2.2) }
theorem ok_fourths_of (T : Txt K mg A) : FnOk P w K mg base CX0 2 A.a_fourths_of A.d_fourths_of ["a", "b", "c"] (spC K cn_fourths) := by
  have G_whole_root : FnOk P w K mg base CX0 1 A.a_whole_root A.d_whole_root ["number"] (spC K cn_whole_root) := ok_whole_root T
  refine fn_ok cn_fourths T.F_fourths_of sc_fourths_of (fun _ => rfl) fun cdv A' outer s H hr => ⟨_, (pss_cons (ps_set (i := 3) sc_fourths_of.nd rfl (Or.inl rfl) (pe_op op_add (pe_op op_add (pe_op op_mulW (pv 0) (pv 1)) (pe_op op_mulW (pv 1) (pv 2))) (pe_op op_mulW (pv 2) (pv 0))))
  (pss_cons (ps_if (PW.pt (pw_or (pt_cmpR op_lt (pv 3) pe_int (nomark _)) (pw_or1 (pt_cmpR (op_eqD hr.units) (pe_tup (pa_cons (pv 0) (pa_cons (pv 1) (pa_cons (pv 2) pa_nil)))) (pe_tup (pa_cons pe_int (pa_cons pe_int (pa_cons pe_int pa_nil)))) (nomark _)))))
  (pss_one (ps_ret (pe_tup pa_nil)))
  pss_nil)
  (pss_cons (ps_set (i := 4) sc_fourths_of.nd rfl (Or.inl rfl) (pe_call G_whole_root (hr.mono (by first | decide | omega)) (by rfl) T.g_whole_root T.k_whole_root T.b_whole_root .nil pass0 (pa_cons (pv 3) pa_nil)))
  (pss_cons (ps_if (pt_cmpR op_ne (pe_op op_mulW (pv 4) (pv 4)) (pv 3) (nomark _))
  (pss_one (ps_ret (pe_tup pa_nil)))
  pss_nil)
  (pss_one (ps_ret (pe_ifExp (pt_cmpR op_eq (pv 4) pe_int (nomark _)) (pe_tup (pa_cons (pe_op op_add (pe_op op_add (pv 0) (pv 1)) (pv 2)) pa_nil)) (pe_tup (pa_cons (pe_op op_sub (pe_op op_add (pe_op op_add (pv 0) (pv 1)) (pv 2)) (pe_op op_mul pe_int (pv 4))) (pa_cons (pe_op op_add (pe_op op_add (pe_op op_add (pv 0) (pv 1)) (pv 2)) (pe_op op_mul pe_int (pv 4))) pa_nil)))))))))), fun p ⟨a, b, c⟩ ⟨ha, hb, hc⟩ => ?_⟩
  have ha : Sm a := ha
  have hb : Sm b := hb
  have hc : Sm c := hc
  refine ws_seq (ws_asg (we_v (v_op o_add (v_op o_add (v_op (o_mulW (sm_w ha hb)) v_im v_im) (v_op (o_mulW (sm_w hb hc)) v_im v_im)) (v_op (o_mulW (sm_w hc ha)) v_im v_im)) ?_))
  show WS _ _ [I a, I b, I c, I (kk a b c), .no] _
  refine ws_seq (s_if (t_or (t_test (v_op o_lt v_im v_int)) fun _ => t_test (v_op (o_eqD (d := .tuple [.int a, .int b, .int c]) (e := .tuple [.int 0, .int 0, .int 0]) rfl rfl (shaped_intsT [a, b, c]) rfl) (v_tup (ds := [.int a, .int b, .int c]) (a_cons v_im (a_cons v_im (a_cons v_im a_nil))) (by show 3 ≤ 1000000; decide)) (v_tup (ds := [.int 0, .int 0, .int 0]) (a_cons v_int (a_cons v_int (a_cons v_int a_nil)))))) (fun h => ?_) fun h => ?_)
  · rw [eqv3] at h
    refine ws_ret (we_v (v_tup (ds := []) a_nil) ⟨[], rfl, ⟨fun _ => ?_, fun _ => rfl⟩⟩)
    rintro ⟨hz, t, ht⟩
    have h : kk a b c < 0 ∨ (a = 0 ∧ b = 0 ∧ c = 0) := by simpa using h
    rcases h with h | h
    · have ht : ((t * t : Nat) : Int) = kk a b c := ht
      omega
    · exact hz h
  · rw [eqv3] at h
    have h : 0 ≤ kk a b c ∧ ¬ (a = 0 ∧ b = 0 ∧ c = 0) := by
      have h : ¬ (kk a b c < 0 ∨ (a = 0 ∧ b = 0 ∧ c = 0)) := by
        intro z
        rcases z with z | z
        · rw [decide_eq_true z] at h; cases h
        · rw [decide_eq_true z, Bool.or_true] at h; cases h
      omega
    obtain ⟨n, hn⟩ := Int.eq_ofNat_of_zero_le h.1
    have nb := kk_bd ha hb hc hn
    rw [hn]
    refine ws_next (ws_seq (ws_asg (w_call n (a_cons v_im a_nil) rfl nb ?_ (fun _ h => h))))
    rintro r ⟨t, h1, h2, rfl⟩
    have tb : t ≤ 2 * n + 1 := by have := Nat.le_mul_self t; omega
    show WS _ _ [I a, I b, I c, I n, I t] _
    refine ws_seq (s_if (t_test (v_op o_neI (v_op (o_mulW (wide_sq nb tb)) v_im v_im) v_im)) (fun h3 => ?_) fun h3 => ?_)
    · have h3 : ¬ (t : Int) * t = n := by simpa using h3
      refine ws_ret (we_v (v_tup (ds := []) a_nil) ⟨[], rfl, ⟨fun _ => ?_, fun _ => rfl⟩⟩)
      rintro ⟨_, u, hu⟩
      have hu : ((u * u : Nat) : Int) = kk a b c := hu
      rw [hn] at hu
      have := root_uniq h1 h2 (by exact_mod_cast hu)
      subst this
      exact h3 (by exact_mod_cast hu)
    · have h3 : (t : Int) * t = n := by simpa using h3
      have sq : SqOk a b c := ⟨h.2, t, by rw [hn, Int.natCast_mul]; exact h3⟩
      have c2 : CMul 2 (t : Int) := .inl ⟨by decide, by decide⟩
      refine ws_next (ws_ret (we_if (wt_v (t_test (v_op o_eqI v_im v_int)) ⟨fun _ => we_v (v_tup (ds := [.int (a + b + c)]) (a_cons (v_op o_add (v_op o_add v_im v_im) v_im) a_nil) (by show 1 ≤ 1000000; decide)) ⟨[a + b + c], rfl, ⟨(fun z => by cases z), fun z => absurd sq z⟩⟩,
        fun _ => we_v (v_tup (ds := [.int (a + b + c - 2 * t), .int (a + b + c + 2 * t)]) (a_cons (v_op o_sub (v_op o_add (v_op o_add v_im v_im) v_im) (v_op (o_mul c2) v_int v_im)) (a_cons (v_op o_add (v_op o_add (v_op o_add v_im v_im) v_im) (v_op (o_mul c2) v_int v_im)) a_nil)) (by show 2 ≤ 1000000; decide)) ⟨[a + b + c - 2 * t, a + b + c + 2 * t], rfl, ⟨(fun z => by cases z), fun z => absurd sq z⟩⟩⟩)))
def cn_need_integer (A : Adr) : Con (PyData × Str) := { args := fun d => [.im d.1, .im (.str d.2)], pre := fun _ => True, post := fun d r => isInt d.1 = true ∧ r = .im .none, exc := fun d e => isInt d.1 = false ∧ e = errN A d.2 d.1 }
theorem ok_need_integer (T : Txt K mg A) : FnOk P w K mg base (L2.CX P w) 3 A.a_need_integer A.d_need_integer ["number", "what"] (spC K (cn_need_integer A)) := by
  have G_is_integer : FnOk P w K mg base CX0 1 A.a_is_integer A.d_is_integer ["value"] (spC K cn_is_integer) := ok_is_integer T
  have G_BadNumber : FnOk P w K mg base CX0 1 A.ai_BadNumber A.di_BadNumber ["self", "what", "number"] (spInit A.c_BadNumber ["what", "number"]) := ok_BadNumber T
  refine fn_okX (cn_need_integer A) T.F_need_integer sc_need_integer (fun _ => rfl) fun cdv A' outer s H E hr => ⟨_, (pss_one (ps_if (pt_not (pt_val (pe_call G_is_integer (hr.mono (by first | decide | omega)) (by rfl) T.g_is_integer T.k_is_integer T.b_is_integer .nil pass0 (pa_cons (pv 0) pa_nil))))
  (pss_one (ps_raise rfl (takes_of rfl rfl rfl rfl) (pmk_oex T.x_BadNumber T.xi_BadNumber T.xt_BadNumber G_BadNumber (hr.mono (by first | decide | omega)) T.xb_BadNumber .nil pass0 (by rfl) T.g_BadNumber (pa_cons (pv 1) (pa_cons (pv 0) pa_nil)))))
  pss_nil)), fun p ⟨d, wh⟩ _ => ?_⟩
  refine s_if (t_not (t_B (v_call d (a_cons v_im a_nil) rfl trivial (fun r h => h) (fun _ h => h)))) (fun h => ?_) fun h => ?_
  · have h : isInt d = false := by simpa using h
    exact ws_raise (ds := [.str wh, d]) (a_cons v_im (a_cons v_im a_nil)) rfl (by show 2 ≤ 1000; decide) ⟨h, rfl⟩
  · have h : isInt d = true := by simpa using h
    exact ws_next ⟨h, rfl⟩
def smD : PyData → Prop
  | .int i => Sm i
  | _ => True
def excT (A : Adr) (d : PyData × PyData × PyData) (e : Err) : Prop :=
  (isInt d.1 = false ∧ e = errN A "a" d.1) ∨ (isInt d.1 = true ∧ isInt d.2.1 = false ∧ e = errN A "b" d.2.1) ∨ (isInt d.1 = true ∧ isInt d.2.1 = true ∧ isInt d.2.2 = false ∧ e = errN A "c" d.2.2)
def cn_triple_fits (A : Adr) : Con (PyData × PyData × PyData) :=
  { args := fun d => [.im d.1, .im d.2.1, .im d.2.2], pre := fun d => smD d.1 ∧ smD d.2.1 ∧ smD d.2.2
    post := fun d r => ∃ (a b c : Int) (bl : Bool), d = (.int a, .int b, .int c) ∧ (bl = true ↔ FitP a b c) ∧ r = B bl
    exc := excT A }
theorem ok_triple_fits (T : Txt K mg A) : FnOk P w K mg base (L2.CX P w) 4 A.a_triple_fits A.d_triple_fits ["a", "b", "c"] (spC K (cn_triple_fits A)) := by
  have G_need_integer : FnOk P w K mg base (L2.CX P w) 3 A.a_need_integer A.d_need_integer ["number", "what"] (spC K (cn_need_integer A)) := ok_need_integer T
  have G_fourths_of : FnOk P w K mg base CX0 2 A.a_fourths_of A.d_fourths_of ["a", "b", "c"] (spC K cn_fourths) := ok_fourths_of T
  refine fn_okX (cn_triple_fits A) T.F_triple_fits sc_triple_fits (fun _ => rfl) fun cdv A' outer s H E hr => ⟨_, (pss_cons (ps_for (passes_of rfl) rfl (pi_tup (pe_tup (pa_cons (pe_tup (pa_cons (pv 0) (pa_cons pe_str pa_nil))) (pa_cons (pe_tup (pa_cons (pv 1) (pa_cons pe_str pa_nil))) (pa_cons (pe_tup (pa_cons (pv 2) (pa_cons pe_str pa_nil))) pa_nil))))) (pg_tup (by rfl) (pgs_cons (pg_name (i := 3) sc_triple_fits.nd rfl (Or.inl rfl)) (pgs_cons (pg_name (i := 4) sc_triple_fits.nd rfl (Or.inl rfl)) pgs_nil)))
  (pss_one (ps_expr (pe_call G_need_integer (hr.mono (by first | decide | omega)) (by rfl) T.g_need_integer T.k_need_integer T.b_need_integer .nil (passes_call (takes_of rfl rfl rfl rfl) (fun _ _ _ _ h => h)) (pa_cons (pv 3) (pa_cons (pv 4) pa_nil))))))
  (pss_one (ps_ret (pe_and (pe_cmpR (op_neD hr.units) (pe_call G_fourths_of (hr.mono (by first | decide | omega)) (by rfl) T.g_fourths_of T.k_fourths_of T.b_fourths_of .nil pass0 (pa_cons (pv 0) (pa_cons (pv 1) (pa_cons (pv 2) pa_nil)))) (pe_tup pa_nil) (nomark _)) (pe_one (pe_cmpR op_eq (pe_callBfun cr_gcd (by rfl) T.g_gcd (pa_cons (pe_callBfun cr_gcd (by rfl) T.g_gcd (pa_cons (pv 0) (pa_cons (pv 1) pa_nil))) (pa_cons (pv 2) pa_nil))) pe_int (nomark _))))))), fun p ⟨d1, d2, d3⟩ ⟨s1, s2, s3⟩ => ?_⟩
  refine ws_seq (ws_for (i_tup (v_tup (ds := [.tuple [d1, .str "a"], .tuple [d2, .str "b"], .tuple [d3, .str "c"]]) (a_cons (v_tup (ds := [d1, .str "a"]) (a_cons v_im (a_cons v_str a_nil)) (by show 2 ≤ 1000000; decide)) (a_cons (v_tup (ds := [d2, .str "b"]) (a_cons v_im (a_cons v_str a_nil)) (by show 2 ≤ 1000000; decide)) (a_cons (v_tup (ds := [d3, .str "c"]) (a_cons v_im (a_cons v_str a_nil)) (by show 2 ≤ 1000000; decide)) a_nil))) (by show 3 ≤ 1000000; decide)))
    (fun i Γ => ∃ e4 e5 : Ent, Γ = [.im d1, .im d2, .im d3, e4, e5] ∧ (0 < i → isInt d1 = true) ∧ (1 < i → isInt d2 = true) ∧ (2 < i → isInt d3 = true)) (up_of ⟨.no, .no, rfl, (fun h => by omega), (fun h => by omega), (fun h => by omega)⟩) ?_ ?_)
  · rintro i d Γ hd ⟨e4, e5, rfl, h1, h2, h3⟩
    have hi : i < 3 := (List.getElem?_eq_some_iff.mp hd).1
    match i, hi, hd with
    | 0, _, hd =>
      obtain rfl : PyData.tuple [d1, .str "a"] = d := Option.some.inj hd
      refine g_tup rfl (wg_name (wg_name (wg_nil ?_)))
      refine ws_drop (we_call (wa_v (a_cons v_im (a_cons v_im a_nil)) ⟨(d1, "a"), rfl, trivial, ?_, fun e he => ⟨rfl, .inl he⟩⟩))
      rintro r ⟨hi1, rfl⟩
      exact up_of ⟨_, _, rfl, (fun _ => hi1), (fun h => by omega), (fun h => by omega)⟩
    | 1, _, hd =>
      obtain rfl : PyData.tuple [d2, .str "b"] = d := Option.some.inj hd
      refine g_tup rfl (wg_name (wg_name (wg_nil ?_)))
      refine ws_drop (we_call (wa_v (a_cons v_im (a_cons v_im a_nil)) ⟨(d2, "b"), rfl, trivial, ?_, fun e he => ⟨rfl, .inr (.inl ⟨h1 (by decide), he⟩)⟩⟩))
      rintro r ⟨hi1, rfl⟩
      exact up_of ⟨_, _, rfl, (fun _ => h1 (by decide)), (fun _ => hi1), (fun h => by omega)⟩
    | 2, _, hd =>
      obtain rfl : PyData.tuple [d3, .str "c"] = d := Option.some.inj hd
      refine g_tup rfl (wg_name (wg_name (wg_nil ?_)))
      refine ws_drop (we_call (wa_v (a_cons v_im (a_cons v_im a_nil)) ⟨(d3, "c"), rfl, trivial, ?_, fun e he => ⟨rfl, .inr (.inr ⟨h1 (by decide), h2 (by decide), he⟩)⟩⟩))
      rintro r ⟨hi1, rfl⟩
      exact up_of ⟨_, _, rfl, (fun _ => h1 (by decide)), (fun _ => h2 (by decide)), (fun _ => hi1)⟩
  · rintro Γ ⟨e4, e5, rfl, h1, h2, h3⟩
    obtain ⟨a, rfl⟩ := isInt_of (h1 (by show 0 < 3; decide))
    obtain ⟨b, rfl⟩ := isInt_of (h2 (by show 1 < 3; decide))
    obtain ⟨c, rfl⟩ := isInt_of (h3 (by show 2 < 3; decide))
    refine ws_ret (we_and (we_op (w_call (a, b, c) (a_cons v_im (a_cons v_im (a_cons v_im a_nil))) rfl ⟨s1, s2, s3⟩ ?_ (fun _ h => h))))
    rintro r ⟨l, rfl, hl⟩
    refine we_v (v_tup (ds := []) a_nil) ⟨_, o_neD (d := tupI l) (e := .tuple []) rfl rfl (shaped_intsT l) rfl, _, rfl, fun h => ?_, fun h => ?_⟩
    · have hne : ¬ l = [] := by
        unfold tupI at h
        rw [eqvT0] at h
        intro z
        subst z
        cases h
      have sq : SqOk a b c := Classical.byContradiction fun z => hne (hl.2 z)
      refine we_v (v_op o_eqI (v_cb n_gcd (a_cons (v_cb n_gcd (a_cons v_im (a_cons v_im a_nil))) (a_cons v_im a_nil))) v_int) ⟨a, b, c, _, rfl, ?_, rfl⟩
      rw [decide_eq_true_eq]
      constructor
      · intro z
        exact ⟨sq, by omega⟩
      · rintro ⟨_, z⟩
        rw [z]; rfl
    · have hne : l = [] := by
        unfold tupI at h
        rw [eqvT0] at h
        by_cases z : l = []
        · exact z
        · have : l.map PyData.int ≠ [] := fun y => z (List.map_eq_nil_iff.mp y)
          rw [decide_eq_false this] at h
          cases h
      refine ⟨a, b, c, false, rfl, ⟨(fun z => by cases z), fun z => absurd z.1 (hl.1 hne)⟩, rfl⟩
theorem c_fit {c : Cd} {tA : TA} {Γ : List Ent} {E : XK} {Q : Ent → Prop} (x y z : Int) (hx : Sm x) (hy : Sm y) (hz : Sm z) (h : VA c tA Γ [I x, I y, I z]) (k : ∀ bl : Bool, (bl = true ↔ FitP x y z) → Q (B bl)) : WE c (tCall (spC c.K (cn_triple_fits A)) [] E tA) Γ Q := by
  refine w_call (.int x, .int y, .int z) h rfl ⟨hx, hy, hz⟩ (fun r ⟨a', b', c', bl, e, hb, er⟩ => ?_) fun e he => ?_
  · cases e
    subst er
    exact k bl hb
  · rcases he with ⟨h, _⟩ | ⟨_, h, _⟩ | ⟨_, _, h, _⟩ <;> exact absurd h (by simp [isInt, isK])
theorem gcd3 {a b c : Int} : Int.gcd (Int.gcd a b) c = gcdN 0 [a, b, c] := by
  show Nat.gcd (Int.natAbs ((Nat.gcd a.natAbs b.natAbs : Nat) : Int)) c.natAbs = Nat.gcd (Nat.gcd (Nat.gcd 0 a.natAbs) b.natAbs) c.natAbs
  rw [Int.natAbs_natCast, Nat.gcd_zero_left]
theorem fit_rot {a b c : Int} : FitP c a b ↔ FitP a b c := by
  have k : kk c a b = kk a b c := by unfold kk; grind
  have g : Int.gcd (Int.gcd c a) b = 1 ↔ Int.gcd (Int.gcd a b) c = 1 := by
    rw [gcd3, gcd3, gcd1_iff, gcd1_iff]
    constructor <;> intro h g hg <;> refine h g fun x hx => hg x ?_ <;> (simp only [List.mem_cons, List.not_mem_nil, or_false] at hx ⊢; rcases hx with h | h | h <;> simp [h])
  unfold FitP SqOk
  rw [k, g]
  constructor
  · rintro ⟨⟨h, t⟩, u⟩; exact ⟨⟨fun z => h ⟨z.2.2, z.1, z.2.1⟩, t⟩, u⟩
  · rintro ⟨⟨h, t⟩, u⟩; exact ⟨⟨fun z => h ⟨z.2.1, z.2.2, z.1⟩, t⟩, u⟩
def cn_says : Con (PyData × Bool) := { args := fun d => [.im d.1, B d.2], pre := fun _ => True, post := fun d r => r = B (isBo d.2 d.1) }
theorem ok__law_says (T : Txt K mg A) : FnOk P w K mg base CX0 1 A.a__law_says A.d__law_says ["told", "due"] (spC K cn_says) := by
  refine fn_ok cn_says T.F__law_says sc__law_says (fun _ => rfl) fun cdv A' outer s H hr => ⟨_, (pss_one (ps_ret (pe_ifExp (pt_val (pv 1)) (pe_cmpR op_isD (pv 0) pe_bl (nomark _)) (pe_cmpR op_isD (pv 0) pe_bl (nomark _))))), fun p ⟨d, b⟩ _ => ?_⟩
  refine ws_ret (we_v (v_if (r := B (isBo b d)) (t_B v_im) (fun h => ?_) fun h => ?_) rfl)
  · have h : b = true := h
    subst h
    exact v_op o_isD v_im v_bl
  · have h : b = false := h
    subst h
    exact v_op o_isD v_im v_bl
def cn_due : Con (Int × Int × Int) := { args := fun d => [I d.1, I d.2.1, I d.2.2], pre := fun d => Sm d.1 ∧ Sm d.2.1 ∧ Sm d.2.2, post := fun d r => ∃ bl : Bool, r = B bl ∧ (bl = true ↔ FitP d.1 d.2.1 d.2.2) }
theorem gcd4 {a b c : Int} {t : Nat} (ht : ((t * t : Nat) : Int) = kk a b c) : gcdN 0 [a, b, c, a + b + c + 2 * t] = 1 ↔ Int.gcd (Int.gcd a b) c = 1 := by
  rw [gcd3, gcd1_iff, gcd1_iff]
  constructor
  · intro h g hg
    refine h g fun x hx => ?_
    have h1 := hg a (by simp)
    have h2 := hg b (by simp)
    have h3 := hg c (by simp)
    simp only [List.mem_cons, List.not_mem_nil, or_false] at hx
    rcases hx with rfl | rfl | rfl | rfl
    · exact h1
    · exact h2
    · exact h3
    · have hgt : g ∣ t := by
        have : ((g * g : Nat) : Int) ∣ ((t * t : Nat) : Int) := by
          rw [ht, Int.natCast_mul]
          unfold kk
          exact Int.dvd_add (Int.dvd_add (Int.mul_dvd_mul h1 h2) (Int.mul_dvd_mul h2 h3)) (Int.mul_dvd_mul h3 h1)
        have : g * g ∣ t * t := by exact_mod_cast this
        rw [← Nat.pow_two, ← Nat.pow_two] at this
        exact (Nat.pow_dvd_pow_iff (by decide)).1 this
      have hgt : (g : Int) ∣ (t : Int) := by exact_mod_cast hgt
      exact Int.dvd_add (Int.dvd_add (Int.dvd_add h1 h2) h3) (Int.dvd_mul_of_dvd_right hgt)
  · intro h g hg
    exact h g fun x hx => hg x (by
      simp only [List.mem_cons, List.not_mem_nil, or_false] at hx ⊢
      rcases hx with h | h | h <;> simp [h])
theorem ok__law_due (T : Txt K mg A) : FnOk P w K mg base CX0 2 A.a__law_due A.d__law_due ["a", "b", "c"] (spC K cn_due) := by
  have G__law_root_square : FnOk P w K mg base CX0 1 A.a__law_root_square A.d__law_root_square ["number"] (spC K cn_root_square) := ok__law_root_square T
  have G__law_common : FnOk P w K mg base CX0 1 A.a__law_common A.d__law_common ["four"] (spC K cn_common) := ok__law_common T
  refine fn_ok cn_due T.F__law_due sc__law_due (fun _ => rfl) fun cdv A' outer s H hr => ⟨_, (pss_cons (ps_set (i := 3) sc__law_due.nd rfl (Or.inl rfl) (pe_op op_add (pe_op op_add (pe_op op_mulW (pv 0) (pv 1)) (pe_op op_mulW (pv 1) (pv 2))) (pe_op op_mulW (pv 2) (pv 0))))
  (pss_cons (ps_if (PW.pt (pw_or (pt_cmpR op_lt (pv 3) pe_int (nomark _)) (pw_or (pt_cmpR (op_eqD hr.units) (pe_tup (pa_cons (pv 0) (pa_cons (pv 1) (pa_cons (pv 2) pa_nil)))) (pe_tup (pa_cons pe_int (pa_cons pe_int (pa_cons pe_int pa_nil)))) (nomark _)) (pw_or1 (pt_cmpR op_isN (pe_call G__law_root_square (hr.mono (by first | decide | omega)) (by rfl) T.g__law_root_square T.k__law_root_square T.b__law_root_square .nil pass0 (pa_cons (pv 3) pa_nil)) pe_non (nomark _))))))
  (pss_one (ps_ret pe_bl))
  pss_nil)
  (pss_one (ps_ret (pe_cmpR op_eq (pe_call G__law_common (hr.mono (by first | decide | omega)) (by rfl) T.g__law_common T.k__law_common T.b__law_common .nil pass0 (pa_cons (pe_tup (pa_cons (pv 0) (pa_cons (pv 1) (pa_cons (pv 2) (pa_cons (pe_op op_add (pe_op op_add (pe_op op_add (pv 0) (pv 1)) (pv 2)) (pe_op op_mul pe_int (pe_call G__law_root_square (hr.mono (by first | decide | omega)) (by rfl) T.g__law_root_square T.k__law_root_square T.b__law_root_square .nil pass0 (pa_cons (pv 3) pa_nil)))) pa_nil))))) pa_nil)) pe_int (nomark _)))))), fun p ⟨a, b, c⟩ ⟨ha, hb, hc⟩ => ?_⟩
  have ha : Sm a := ha
  have hb : Sm b := hb
  have hc : Sm c := hc
  refine ws_seq (ws_asg (we_v (v_op o_add (v_op o_add (v_op (o_mulW (sm_w ha hb)) v_im v_im) (v_op (o_mulW (sm_w hb hc)) v_im v_im)) (v_op (o_mulW (sm_w hc ha)) v_im v_im)) ?_))
  show WS _ _ [I a, I b, I c, I (kk a b c)] _
  have no : (kk a b c < 0 ∨ (a = 0 ∧ b = 0 ∧ c = 0)) → ¬ FitP a b c := by
    rintro h ⟨⟨hz, t, ht⟩, _⟩
    rcases h with h | h
    · omega
    · exact hz h
  by_cases h0 : kk a b c < 0
  · refine ws_seq (ws_if (wt_or (wt_v (t_test (v_op o_lt v_im v_int)) ⟨fun h => ?_, fun _ => ⟨fun _ => ?_, fun z => by cases z⟩⟩)))
    · exact absurd h0 (of_decide_eq_false h)
    · exact ws_ret (we_v v_bl ⟨false, rfl, ⟨(fun z => by cases z), fun z => absurd z (no (.inl h0))⟩⟩)
  · obtain ⟨n, hn⟩ := Int.eq_ofNat_of_zero_le (show 0 ≤ kk a b c by omega)
    have nb := kk_bd ha hb hc hn
    rw [hn]
    refine ws_seq (ws_if (wt_or (wt_v (t_test (v_op o_lt v_im v_int)) ⟨fun _ => ?_, fun h => absurd (of_decide_eq_true h) (by omega)⟩)))
    refine wt_or (wt_v (t_test (v_op (o_eqD (d := .tuple [.int a, .int b, .int c]) (e := .tuple [.int 0, .int 0, .int 0]) rfl rfl (shaped_intsT [a, b, c]) rfl) (v_tup (ds := [.int a, .int b, .int c]) (a_cons v_im (a_cons v_im (a_cons v_im a_nil))) (by show 3 ≤ 1000000; decide)) (v_tup (ds := [.int 0, .int 0, .int 0]) (a_cons v_int (a_cons v_int (a_cons v_int a_nil)))))) ⟨fun h => ?_, fun h => ⟨fun _ => ?_, fun z => by cases z⟩⟩)
    · rw [eqv3] at h
      have hz : ¬ (a = 0 ∧ b = 0 ∧ c = 0) := of_decide_eq_false h
      refine wt_test (we_op (w_call n (a_cons v_im a_nil) rfl nb ?_ (fun _ h => h)))
      rintro r (⟨t, ht, rfl⟩ | ⟨hno, rfl⟩)
      · refine we_v v_non ⟨_, o_isN, _, rfl, ⟨(fun z => by cases z), fun _ => ws_next ?_⟩⟩
        have sq : SqOk a b c := ⟨hz, t, by rw [hn, ht]⟩
        refine ws_ret (we_op (we_call (wa_cons (we_tup (wa_cons (we_v v_im (wa_cons (we_v v_im (wa_cons (we_v v_im (wa_cons (we_op (we_v (v_op o_add (v_op o_add v_im v_im) v_im) (we_op (we_v v_int (w_call n (a_cons v_im a_nil) rfl nb ?_ (fun _ h => h)))))))))))))))))
        rintro r (⟨u, hu, rfl⟩ | ⟨hno, rfl⟩)
        · have e : u = t := root_uniq (n := n) (by omega) (by rw [← ht]; exact Nat.mul_lt_mul'' (by omega) (by omega)) hu
          subst e
          have c2 : CMul 2 (u : Int) := .inl ⟨by decide, by decide⟩
          refine ⟨_, o_mul c2, _, o_add, wa_nil ⟨[.int a, .int b, .int c, .int (a + b + c + 2 * u)], rfl, (by show 4 ≤ 1000000; decide), wa_nil ⟨[a, b, c, a + b + c + 2 * u], rfl, (by show 4 ≤ 1000; decide), ?_, fun _ h => h.elim⟩⟩⟩
          rintro r rfl
          refine we_v v_int ⟨_, o_eqI, _, rfl, ?_⟩
          have g4 := gcd4 (a := a) (b := b) (c := c) (t := u) (by rw [hn, ht])
          rw [decide_eq_true_eq]
          constructor
          · intro z
            exact ⟨sq, g4.1 (by omega)⟩
          · rintro ⟨_, z⟩
            rw [g4.2 z]; rfl
        · exact absurd ht (hno t)
      · refine we_v v_non ⟨_, o_isN, _, rfl, ⟨fun _ => ?_, fun z => by cases z⟩⟩
        refine ws_ret (we_v v_bl ⟨false, rfl, ⟨(fun z => by cases z), ?_⟩⟩)
        rintro ⟨⟨_, t, ht⟩, _⟩
        have ht : ((t * t : Nat) : Int) = kk a b c := ht
        rw [hn] at ht
        exact absurd (by exact_mod_cast ht) (hno t)
    · rw [eqv3] at h
      exact ws_ret (we_v v_bl ⟨false, rfl, ⟨(fun z => by cases z), fun z => absurd z (no (.inr (of_decide_eq_true h)))⟩⟩)
def wrongs : List PyData := [.none, .bool true, .str "2"]
def odds : List PyData := [.none, .bool true, .tuple [.int 3]]
theorem bad_facts2 (w : Str) (hw : w = "a" ∨ w = "b" ∨ w = "c") : ∀ d ∈ bads ++ (wrongs ++ odds), isInt d = false ∧ Shw d ∧ SeqAt.shaped (kdN (w, d)) = true ∧ smD d := by
  intro d hd
  unfold bads wrongs odds at hd
  simp only [List.mem_cons, List.mem_append, List.not_mem_nil, or_false] at hd
  rcases hw with rfl | rfl | rfl <;> rcases hd with (rfl | rfl | rfl | rfl) | (rfl | rfl | rfl) | (rfl | rfl | rfl) <;> exact ⟨by decide +kernel, shw_by (by decide +kernel), by decide +kernel, trivial⟩
theorem shaped_kd3 {p q r : Str × PyData} (h1 : SeqAt.shaped (kdN p) = true) (h2 : SeqAt.shaped (kdN q) = true) (h3 : SeqAt.shaped (kdN r) = true) : SeqAt.shaped (.list [kdN p, kdN q, kdN r]) = true := by
  have a1 := SeqAt.canLay_of_shaped h1
  have a2 := SeqAt.canLay_of_shaped h2
  have a3 := SeqAt.canLay_of_shaped h3
  show ((PyData.canLay0 (kdN p) && (PyData.canLay0 (kdN q) && (PyData.canLay0 (kdN r) && true))) && true) = true
  rw [a1, a2, a3]; rfl
theorem wk_no : ∀ l : List Ent, Wk l (List.replicate l.length .no)
  | [] => .nil
  | _ :: l => .cons (.inr (.inl rfl)) (wk_no l)
theorem fit_of_pk {M a b c d : Int} (h : Pk M [a, b, c, d]) : FitP a b c := by
  have cone : (a + (b + (c + (d + 0)))) * (a + (b + (c + (d + 0)))) = 2 * (a * a + (b * b + (c * c + (d * d + 0)))) := h.cone
  have key : (d - (a + b + c)) * (d - (a + b + c)) = 4 * kk a b c := by unfold kk; grind
  generalize hu : d - (a + b + c) = u at key
  have ev : ∃ w : Int, u = 2 * w := by
    rcases (by omega : u % 2 = 0 ∨ u % 2 = 1) with z | z
    · exact ⟨u / 2, by omega⟩
    · obtain ⟨w, hw⟩ : ∃ w, u = 2 * w + 1 := ⟨u / 2, by omega⟩
      subst hw
      have : (2 * w + 1) * (2 * w + 1) = 4 * (w * w + w) + 1 := by grind
      omega
  obtain ⟨w, rfl⟩ := ev
  have kw : kk a b c = w * w := by
    have : 2 * w * (2 * w) = 4 * (w * w) := by grind
    omega
  have ht : ((w.natAbs * w.natAbs : Nat) : Int) = kk a b c := by rw [kw, Int.natCast_mul]; exact Int.natAbs_mul_self
  have g1 := gcd1_iff.1 h.gcd
  refine ⟨⟨?_, w.natAbs, ht⟩, ?_⟩
  · rintro ⟨rfl, rfl, rfl⟩
    have hw0 : w = 0 := by
      have : w * w = 0 := by rw [← kw]; rfl
      rcases Int.mul_eq_zero.mp this with z | z <;> exact z
    have : d = 0 := by omega
    subst this
    have := g1 2 (fun x hx => by
      simp only [List.mem_cons, List.not_mem_nil, or_false] at hx
      rcases hx with rfl | rfl | rfl | rfl <;> exact Int.dvd_zero _)
    cases this
  · rw [gcd3, gcd1_iff]
    intro g hg
    have h1 := hg a (by simp)
    have h2 := hg b (by simp)
    have h3 := hg c (by simp)
    refine g1 g fun x hx => ?_
    simp only [List.mem_cons, List.not_mem_nil, or_false] at hx
    rcases hx with rfl | rfl | rfl | rfl
    · exact h1
    · exact h2
    · exact h3
    · have hgt : g ∣ w.natAbs := by
        have : ((g * g : Nat) : Int) ∣ ((w.natAbs * w.natAbs : Nat) : Int) := by
          rw [ht, Int.natCast_mul]
          unfold kk
          exact Int.dvd_add (Int.dvd_add (Int.mul_dvd_mul h1 h2) (Int.mul_dvd_mul h2 h3)) (Int.mul_dvd_mul h3 h1)
        have : g * g ∣ w.natAbs * w.natAbs := by exact_mod_cast this
        rw [← Nat.pow_two, ← Nat.pow_two] at this
        exact (Nat.pow_dvd_pow_iff (by decide)).1 this
      have hw : (g : Int) ∣ w := ndvd.2 hgt
      have : x = 2 * w + (a + b + c) := by omega
      rw [this]
      exact Int.dvd_add (Int.dvd_mul_of_dvd_right hw) (Int.dvd_add (Int.dvd_add h1 h2) h3)
theorem pk_sm {l : List Int} (h : Pk (7 ^ 5 * 10 ^ 63) l) : ∀ x ∈ l, -(10 ^ 69) ≤ x ∧ x ≤ 10 ^ 69 := fun x hx => by
  have := h.bd x hx
  have e : (7 : Int) ^ 5 * 10 ^ 63 ≤ 10 ^ 69 := by decide
  omega
/-- three small ints -/
def Tr (d : PyData) : Prop := ∃ x y z : Int, d = tupI [x, y, z] ∧ Sm x ∧ Sm y ∧ Sm z
theorem ok_law (T : Txt K mg A) {s : Shared} {H : Hp} {c Pt : Addr} (TB : LamX.TabB base mg c Pt) : ∃ t, PSs (cxOf CX0 P w K mg base ["script", "pen", "lap", "four", "a", "b", "c", "by", "some", "one", "two", "three", "due", "bad", "wrong", "odd", "told", "k"] "law" (defScope s_law) A.a_law (.ref c) callerA [] s H E0).nox (defBody s_law) t ∧
    ∀ ns : List Int, ns.length ≤ 63 → WM K none [(Pt, (PyProof.Rows.envOfC "law" (defScope s_law) s.heap.objs.size A.a_law (.ref c)).qual ++ "<lambda>")] t (.ro (ns.map PyData.int) :: List.replicate 17 .no) := by
  have hr0 : Room 8 callerA := ⟨rfl, by decide, by decide⟩
  have hr := hr0.deeper (k := 7) (PyProof.Rows.envOfC "law" (defScope s_law) s.heap.objs.size A.a_law (.ref c))
  have gd : (callerA.deeper (PyProof.Rows.envOfC "law" (defScope s_law) s.heap.objs.size A.a_law (.ref c))).guards = some [] := rfl
  have hu64 := hr.units
  have G__law_pen : FnOk P w K mg base CX0 1 A.a__law_pen A.d__law_pen ["script"] (spC K cn_pen) := ok__law_pen T
  have G__law_draw : FnOk P w K mg base CX0 1 A.a__law_draw A.d__law_draw ["pen", "many"] (spC K cn_draw) := ok__law_draw T
  have G__law_pick : FnOk P w K mg base CX0 2 A.a__law_pick A.d__law_pick ["pen", "some"] (spC K cn_pick) := ok__law_pick T
  have G__law_shuffled : FnOk P w K mg base CX0 2 A.a__law_shuffled A.d__law_shuffled ["pen", "some"] (spC K cn_shuffled) := ok__law_shuffled T
  have G__law_packing : FnOk P w K mg base CX0 4 A.a__law_packing A.d__law_packing ["pen", "most"] (spC K cn_packing) := ok__law_packing T
  have G__law_great_four : FnOk P w K mg base CX0 4 A.a__law_great_four A.d__law_great_four ["pen"] (spC K cn_great_four) := ok__law_great_four T
  have G_triple_fits : FnOk P w K mg base (L2.CX P w) 4 A.a_triple_fits A.d_triple_fits ["a", "b", "c"] (spC K (cn_triple_fits A)) := ok_triple_fits T
  have G__law_due : FnOk P w K mg base CX0 2 A.a__law_due A.d__law_due ["a", "b", "c"] (spC K cn_due) := ok__law_due T
  have G__law_says : FnOk P w K mg base CX0 1 A.a__law_says A.d__law_says ["told", "due"] (spC K cn_says) := ok__law_says T
  have G__law_kinds : FnE P w K mg base 2 A.a__law_kinds A.d__law_kinds ["e"] (spE K (ce_kinds A)) := ok__law_kinds T
  obtain ⟨oc, od, kV, doc, pm, an, cdv, ct, osl, hfd, lkF, hcF⟩ := T.F__law_fault.ex
  have bF := T.b__law_fault
  rw [hfd] at lkF bF
  let X : Cx := (cxOf CX0 P w K mg base ["script", "pen", "lap", "four", "a", "b", "c", "by", "some", "one", "two", "three", "due", "bad", "wrong", "odd", "told", "k"] "law" (defScope s_law) A.a_law (.ref c) callerA [] s H E0).nox
  have lamF : ∀ {params : Arguments} {body : Expr} {scope : Scope} {t : XK → TE} {p lpos pos : Pos} (L : LamX.LamS X.env.scope scope) (hdef : defaultsOf params X.env = ([], []))
      (hbind : ∀ (q : Str) (cl : List (Str × Addr)) (pm cv ctv : Value), bindArgs (PySem.W.kla_fn "<lambda>" q params body scope cl pm cv ctv) ⟨[], []⟩ = pure [])
      (hbody : ∀ (A' : Around) (outer : List Env) (s' : Shared) (H' : Hp) (E : XK) (f c' : Addr), Room 5 (A'.deeper (LamX.lamEnv X scope s'.heap.objs.size f c')) → PE (LamX.lamCx X A' outer s' H' E scope f c') body (t E)),
      PE X (.Call (.Name "_law_fault" p) [.Lambda params body scope lpos] [] pos) (LamX.tLam [(Pt, X.env.qual ++ "<lambda>")] (TFault K (ce_kinds A) kdN) t) := fun {params body scope t p lpos pos} L hdef hbind hbody =>
    LamX.pe_lamcall (X := X) (k := 5) (by rfl) T.g__law_fault T.k__law_fault lkF hcF bF sc__law_fault rfl (Or.inl rfl) (fault_gives (X := X) T G__law_kinds gd (hr.mono (by decide))) TB rfl (List.mem_singleton.mpr rfl) (fun p hp _ => by rw [List.mem_singleton.mp hp]) (hr.mono (by decide)) L hdef hbind hbody
  refine ⟨_, (pss_cons (ps_set (i := 1) sc_law.nd rfl (Or.inr rfl) (pe_call G__law_pen (hr.mono (by first | decide | omega)) (by rfl) T.g__law_pen T.k__law_pen T.b__law_pen .nil pass0 (pa_cons (pv 0) pa_nil)))
  (pss_cons (ps_for PassesOwn.never rfl (pi_range1 (by rfl) T.m_range (pa_cons pe_int pa_nil)) (pg_name (i := 2) sc_law.nd rfl (Or.inl rfl))
  (pss_cons (ps_set (i := 3) sc_law.nd rfl (Or.inl rfl) (pe_call G__law_shuffled (hr.mono (by first | decide | omega)) (by rfl) T.g__law_shuffled T.k__law_shuffled T.b__law_shuffled .nil pass0 (pa_cons (pv 1) (pa_cons (pe_callTy call_list_of (by rfl) T.m_list b_list (pa_cons (pe_call G__law_pick (hr.mono (by first | decide | omega)) (by rfl) T.g__law_pick T.k__law_pick T.b__law_pick .nil pass0 (pa_cons (pv 1) (pa_cons (pe_lst (pa_cons (pe_call G__law_packing (hr.mono (by first | decide | omega)) (by rfl) T.g__law_packing T.k__law_packing T.b__law_packing .nil pass0 (pa_cons (pv 1) (pa_cons pe_int pa_nil))) (pa_cons (pe_call G__law_great_four (hr.mono (by first | decide | omega)) (by rfl) T.g__law_great_four T.k__law_great_four T.b__law_great_four .nil pass0 (pa_cons (pv 1) pa_nil)) pa_nil))) pa_nil))) pa_nil)) pa_nil))))
  (pss_cons (ps_asg (pe_slice sl_list (pv 3) po_none (po_some pe_int)) (pg_lst (by rfl) (pgs_cons (pg_name (i := 4) sc_law.nd rfl (Or.inl rfl)) (pgs_cons (pg_name (i := 5) sc_law.nd rfl (Or.inl rfl)) (pgs_cons (pg_name (i := 6) sc_law.nd rfl (Or.inl rfl)) pgs_nil)))))
  (pss_cons (ps_set (i := 7) sc_law.nd rfl (Or.inl rfl) (pe_call G__law_pick (hr.mono (by first | decide | omega)) (by rfl) T.g__law_pick T.k__law_pick T.b__law_pick .nil pass0 (pa_cons (pv 1) (pa_cons (pe_lst (pa_cons pe_int (pa_cons pe_int (pa_cons pe_int (pa_cons (pe_un un_neg pe_int) pa_nil))))) pa_nil))))
  (pss_cons (ps_set (i := 8) sc_law.nd rfl (Or.inl rfl) (pe_lst (pa_cons (pe_tup (pa_cons (pv 4) (pa_cons (pv 5) (pa_cons (pv 6) pa_nil)))) (pa_cons (pe_tup (pa_cons (pe_op op_mul (pv 7) (pv 4)) (pa_cons (pe_op op_mul (pv 7) (pv 5)) (pa_cons (pe_op op_mul (pv 7) (pv 6)) pa_nil)))) (pa_cons (pe_tup (pa_cons (pv 4) (pa_cons (pv 5) (pa_cons (pe_op op_add (pv 6) pe_int) pa_nil)))) (pa_cons (pe_tup (pa_cons (pe_op op_add (pv 4) pe_int) (pa_cons (pv 5) (pa_cons (pv 6) pa_nil)))) (pa_cons (pe_callTy call_tuple_of (by rfl) T.m_tuple b_tuple (pa_cons (pe_lc (own := [("k", 17)]) (g := (gName 17)) (by rfl) sc_law.nd (pi_range1 (by rfl) T.m_range (pa_cons pe_int pa_nil)) (blkOk_by (own := [("k", 17)]) (N := ["script", "pen", "lap", "four", "a", "b", "c", "by", "some", "one", "two", "three", "due", "bad", "wrong", "odd", "told", "k"]) (sc := defScope s_law) (by decide +kernel)) (fun _ _ _ _ _ => (pg_name (i := 17) sc_law.nd rfl (Or.inl rfl))) (fun _ _ _ _ _ => pts_nil) (fun _ _ _ _ _ => (pe_op op_sub (pe_call G__law_draw (hr.mono (by first | decide | omega)) (by rfl) T.g__law_draw T.k__law_draw T.b__law_draw .nil pass0 (pa_cons (pv 1) (pa_cons pe_int pa_nil))) pe_int))) pa_nil)) (pa_cons (pe_tup (pa_cons pe_int (pa_cons (pv 4) (pa_cons (pv 5) pa_nil)))) pa_nil))))))))
  (pss_cons (ps_for PassesOwn.never rfl (pi_list (pv 8)) (pg_tup (by rfl) (pgs_cons (pg_name (i := 9) sc_law.nd rfl (Or.inl rfl)) (pgs_cons (pg_name (i := 10) sc_law.nd rfl (Or.inl rfl)) (pgs_cons (pg_name (i := 11) sc_law.nd rfl (Or.inl rfl)) pgs_nil))))
  (pss_cons (ps_set (i := 12) sc_law.nd rfl (Or.inl rfl) (pe_call G__law_due (hr.mono (by first | decide | omega)) (by rfl) T.g__law_due T.k__law_due T.b__law_due .nil pass0 (pa_cons (pv 9) (pa_cons (pv 10) (pa_cons (pv 11) pa_nil)))))
  (pss_one (ps_if (PW.pt (pw_or (pt_not (pt_val (pe_call G__law_says (hr.mono (by first | decide | omega)) (by rfl) T.g__law_says T.k__law_says T.b__law_says .nil pass0 (pa_cons (pe_call G_triple_fits (hr.mono (by first | decide | omega)) (by rfl) T.g_triple_fits T.k_triple_fits T.b_triple_fits .nil (passes_call LamX.takes0 (fun _ _ _ _ h => h)) (pa_cons (pv 9) (pa_cons (pv 10) (pa_cons (pv 11) pa_nil)))) (pa_cons (pv 12) pa_nil))))) (pw_or1 (pt_cmpR op_ne (pe_call G_triple_fits (hr.mono (by first | decide | omega)) (by rfl) T.g_triple_fits T.k_triple_fits T.b_triple_fits .nil (passes_call LamX.takes0 (fun _ _ _ _ h => h)) (pa_cons (pv 11) (pa_cons (pv 9) (pa_cons (pv 10) pa_nil)))) (pv 12) (nomark _)))))
  (pss_one (ps_ret pe_bl))
  pss_nil))))
  (pss_one (ps_if (pt_cmpR op_notD (pe_call G_triple_fits (hr.mono (by first | decide | omega)) (by rfl) T.g_triple_fits T.k_triple_fits T.b_triple_fits .nil (passes_call LamX.takes0 (fun _ _ _ _ h => h)) (pa_cons (pv 4) (pa_cons (pv 5) (pa_cons (pv 6) pa_nil)))) pe_bl (nomark _))
  (pss_one (ps_ret pe_bl))
  pss_nil))))))))
  (pss_cons (ps_asg (pe_tup (pa_cons (pe_call G__law_pick (hr.mono (by first | decide | omega)) (by rfl) T.g__law_pick T.k__law_pick T.b__law_pick .nil pass0 (pa_cons (pv 1) (pa_cons (pe_lst (pa_cons pe_non (pa_cons pe_bl (pa_cons pe_str (pa_cons (pe_tup (pa_cons pe_int (pa_cons pe_int pa_nil))) pa_nil))))) pa_nil))) (pa_cons (pe_call G__law_pick (hr.mono (by first | decide | omega)) (by rfl) T.g__law_pick T.k__law_pick T.b__law_pick .nil pass0 (pa_cons (pv 1) (pa_cons (pe_lst (pa_cons pe_non (pa_cons pe_bl (pa_cons pe_str pa_nil)))) pa_nil))) (pa_cons (pe_call G__law_pick (hr.mono (by first | decide | omega)) (by rfl) T.g__law_pick T.k__law_pick T.b__law_pick .nil pass0 (pa_cons (pv 1) (pa_cons (pe_lst (pa_cons pe_non (pa_cons pe_bl (pa_cons (pe_tup (pa_cons pe_int pa_nil)) pa_nil)))) pa_nil))) pa_nil)))) (pg_tup (by rfl) (pgs_cons (pg_name (i := 13) sc_law.nd rfl (Or.inr rfl)) (pgs_cons (pg_name (i := 14) sc_law.nd rfl (Or.inr rfl)) (pgs_cons (pg_name (i := 15) sc_law.nd rfl (Or.inr rfl)) pgs_nil)))))
  (pss_cons (ps_set (i := 16) sc_law.nd rfl (Or.inl rfl) (pe_lst (pa_cons (lamF (LamX.lamS_by (sc := defScope s_law) (by decide +kernel)) (by rfl) (by intro _ _ _ _ _; rfl) (fun _ _ _ _ _ _ _ hr => (pe_call G_triple_fits (hr.mono (by first | decide | omega)) (by rfl) T.g_triple_fits T.k_triple_fits T.b_triple_fits .nil (passes_call (takes_of rfl rfl rfl rfl) (fun _ _ _ _ h => h)) (pa_cons (pv 13) (pa_cons (pv 14) (pa_cons (pv 15) pa_nil)))))) pa_nil)))
  (pss_cons (ps_expr (pe_bm PySem.F.plainAttrs_list PySem.F.slot_list_append PySem.F.type_list_append mt_append (pv 16) (pa_cons (lamF (LamX.lamS_by (sc := defScope s_law) (by decide +kernel)) (by rfl) (by intro _ _ _ _ _; rfl) (fun _ _ _ _ _ _ _ hr => (pe_call G_triple_fits (hr.mono (by first | decide | omega)) (by rfl) T.g_triple_fits T.k_triple_fits T.b_triple_fits .nil (passes_call (takes_of rfl rfl rfl rfl) (fun _ _ _ _ h => h)) (pa_cons pe_int (pa_cons (pv 14) (pa_cons (pv 15) pa_nil)))))) pa_nil)))
  (pss_cons (ps_expr (pe_bm PySem.F.plainAttrs_list PySem.F.slot_list_append PySem.F.type_list_append mt_append (pv 16) (pa_cons (lamF (LamX.lamS_by (sc := defScope s_law) (by decide +kernel)) (by rfl) (by intro _ _ _ _ _; rfl) (fun _ _ _ _ _ _ _ hr => (pe_call G_triple_fits (hr.mono (by first | decide | omega)) (by rfl) T.g_triple_fits T.k_triple_fits T.b_triple_fits .nil (passes_call (takes_of rfl rfl rfl rfl) (fun _ _ _ _ h => h)) (pa_cons pe_int (pa_cons pe_int (pa_cons (pv 15) pa_nil)))))) pa_nil)))
  (pss_cons (ps_if (pt_cmpR (op_neD hr.units) (pv 16) (pe_lst (pa_cons (pe_tup (pa_cons pe_str (pa_cons pe_str (pa_cons (pe_callB (call_reprD gd hu64) (by rfl) T.m_repr b_repr (pa_cons (pv 13) pa_nil)) pa_nil)))) (pa_cons (pe_tup (pa_cons pe_str (pa_cons pe_str (pa_cons (pe_callB (call_reprD gd hu64) (by rfl) T.m_repr b_repr (pa_cons (pv 14) pa_nil)) pa_nil)))) (pa_cons (pe_tup (pa_cons pe_str (pa_cons pe_str (pa_cons (pe_callB (call_reprD gd hu64) (by rfl) T.m_repr b_repr (pa_cons (pv 15) pa_nil)) pa_nil)))) pa_nil)))) (nomark _))
  (pss_one (ps_ret pe_bl))
  pss_nil)
  (pss_one (ps_ret (pe_and (pe_cmpR op_isD (pe_call G_triple_fits (hr.mono (by first | decide | omega)) (by rfl) T.g_triple_fits T.k_triple_fits T.b_triple_fits .nil (passes_call LamX.takes0 (fun _ _ _ _ h => h)) (pa_cons pe_int (pa_cons pe_int (pa_cons pe_int pa_nil)))) pe_bl (nomark _)) (pe_and (pe_cmpR op_isD (pe_call G_triple_fits (hr.mono (by first | decide | omega)) (by rfl) T.g_triple_fits T.k_triple_fits T.b_triple_fits .nil (passes_call LamX.takes0 (fun _ _ _ _ h => h)) (pa_cons pe_int (pa_cons pe_int (pa_cons pe_int pa_nil)))) pe_bl (nomark _)) (pe_and (pe_cmpR op_isD (pe_call G_triple_fits (hr.mono (by first | decide | omega)) (by rfl) T.g_triple_fits T.k_triple_fits T.b_triple_fits .nil (passes_call LamX.takes0 (fun _ _ _ _ h => h)) (pa_cons pe_int (pa_cons pe_int (pa_cons pe_int pa_nil)))) pe_bl (nomark _)) (pe_one (pe_cmpR op_isD (pe_call G_triple_fits (hr.mono (by first | decide | omega)) (by rfl) T.g_triple_fits T.k_triple_fits T.b_triple_fits .nil (passes_call LamX.takes0 (fun _ _ _ _ h => h)) (pa_cons pe_int (pa_cons pe_int (pa_cons pe_int pa_nil)))) pe_bl (nomark _))))))))))))))), fun ns hl => ?_⟩
  refine wm_pen (i := 1) (flat_of rfl) (Nat.le_of_ble_eq_true rfl) (v_call ns (a_cons v_ro a_nil) rfl hl (fun r h => h) (fun _ h => h)) (fun q => ?_) (fun j z => ?_)
  · -- the six laps
    refine wm_seq (ws_for (i_r1 (a_cons v_int a_nil) (by decide) (by decide)) (fun _ Γ => Γ = .ro (ns.map PyData.int) :: .pen :: List.replicate 16 .no) (up_of rfl) ?_ ?_)
    · rintro i dd Γ hd rfl
      refine g_name ?_
      show WS _ _ [.ro (ns.map PyData.int), .pen, .im dd, .no, .no, .no, .no, .no, .no, .no, .no, .no, .no, .no, .no, .no, .no, .no] _
      refine ws_seq (ws_asg (we_call (wa_cons (we_v v_pen (wa_cons (we_cb (wa_cons (we_call (wa_cons (we_v v_pen (wa_cons (we_lst (wa_cons (w_call 5 (a_cons v_pen (a_cons v_int a_nil)) rfl (by show 5 < 1000; decide) ?_ (fun _ h => h)))))))))))))))
      rintro r ⟨l1, p1, rfl⟩
      refine wa_cons (w_call () (a_cons v_pen a_nil) rfl trivial ?_ (fun _ h => h))
      rintro r ⟨l2, p2, rfl⟩
      refine wa_nil ⟨[tupI l1, tupI l2], rfl, (by show 2 ≤ 1000000; decide), wa_nil ⟨[tupI l1, tupI l2], rfl, ⟨(by show 0 < 2; decide), (by show 2 < 1000000; decide)⟩, ?_, fun _ h => h.elim⟩⟩
      rintro r ⟨d, hd2, rfl⟩
      obtain ⟨l, rfl, pk⟩ : ∃ l, d = tupI l ∧ Pk (7 ^ 5 * 10 ^ 63) l := by
        simp only [List.mem_cons, List.not_mem_nil, or_false] at hd2
        rcases hd2 with rfl | rfl
        · exact ⟨l1, rfl, p1.more (Int.mul_le_mul_of_nonneg_left (by decide) (by decide))⟩
        · exact ⟨l2, rfl, p2⟩
      refine wa_nil ⟨_, n_listT, wa_nil ⟨l.map PyData.int, rfl, (by show (l.map PyData.int).length < 1000; rw [List.length_map, pk.len]; decide), ?_, fun _ h => h.elim⟩⟩
      rintro r ⟨es, hp, rfl⟩
      obtain ⟨m, rfl, hpm⟩ := perm_ints hp
      have pkm := pk.perm hpm
      obtain ⟨a, b, c, d, rfl⟩ : ∃ a b c d, m = [a, b, c, d] := by
        have := pkm.len
        match m, this with
        | [a, b, c, d], _ => exact ⟨a, b, c, d, rfl⟩
      have fit := fit_of_pk pkm
      have ba := pk_sm pkm a (by simp)
      have bb := pk_sm pkm b (by simp)
      have bc := pk_sm pkm c (by simp)
      have e70 : (10 : Int) ^ 70 = 10 * 10 ^ 69 := by decide
      have big : (1000 : Int) ≤ 10 ^ 69 := by decide
      show WS _ _ [.ro (ns.map PyData.int), .pen, .im dd, .ls [.int a, .int b, .int c, .int d], .no, .no, .no, .no, .no, .no, .no, .no, .no, .no, .no, .no, .no, .no] _
      refine ws_seq (ws_asgG (we_v (ve_is (v_slL v_ls p_no (p_so v_int)) (show Ent.ls (DL.cutD [.int a, .int b, .int c, .int d] none (some 3)) = .ls [.int a, .int b, .int c] from rfl)) ⟨_, .inr rfl, rfl, wg_name (wg_name (wg_name (wg_nil ?_)))⟩))
      show WS _ _ [.ro (ns.map PyData.int), .pen, .im dd, .ls [.int a, .int b, .int c, .int d], I a, I b, I c, .no, .no, .no, .no, .no, .no, .no, .no, .no, .no, .no] _
      refine ws_seq (ws_asg (w_call [.int 1, .int 2, .int 3, .int (-1)] (a_cons v_pen (a_cons (v_lst (ds := [.int 1, .int 2, .int 3, .int (-1)]) (a_cons v_int (a_cons v_int (a_cons v_int (a_cons (v_un o_neg v_int) a_nil))))) a_nil)) rfl ⟨by decide, by decide⟩ ?_ (fun _ h => h)))
      rintro r ⟨dy, hdy, rfl⟩
      obtain ⟨y, rfl, hy1, hy2⟩ : ∃ y : Int, dy = .int y ∧ -3 ≤ y ∧ y ≤ 3 := by
        simp only [List.mem_cons, List.not_mem_nil, or_false] at hdy
        rcases hdy with rfl | rfl | rfl | rfl <;> exact ⟨_, rfl, by decide, by decide⟩
      have cy : ∀ z : Int, CMul y z := fun z => .inl ⟨by omega, by omega⟩
      have sby : ∀ z : Int, -(10 ^ 69) ≤ z ∧ z ≤ 10 ^ 69 → Sm (y * z) := fun z hz => by
        have := mul_bd (x := y) (y := z) (A := 3) (B := 10 ^ 69) ⟨by omega, by omega⟩ hz
        unfold Sm
        omega
      have sma : Sm a := by unfold Sm; omega
      have smb : Sm b := by unfold Sm; omega
      have smc : Sm c := by unfold Sm; omega
      show WS _ _ [.ro (ns.map PyData.int), .pen, .im dd, .ls [.int a, .int b, .int c, .int d], I a, I b, I c, I y, .no, .no, .no, .no, .no, .no, .no, .no, .no, .no] _
      refine ws_seq (ws_asg (we_lst (wa_cons (we_v (v_tup (ds := [.int a, .int b, .int c]) (a_cons v_im (a_cons v_im (a_cons v_im a_nil))) (by show 3 ≤ 1000000; decide)) (wa_cons (we_v (v_tup (ds := [.int (y * a), .int (y * b), .int (y * c)]) (a_cons (v_op (o_mul (cy _)) v_im v_im) (a_cons (v_op (o_mul (cy _)) v_im v_im) (a_cons (v_op (o_mul (cy _)) v_im v_im) a_nil))) (by show 3 ≤ 1000000; decide))
        (wa_cons (we_v (v_tup (ds := [.int a, .int b, .int (c + 1)]) (a_cons v_im (a_cons v_im (a_cons (v_op o_add v_im v_int) a_nil))) (by show 3 ≤ 1000000; decide)) (wa_cons (we_v (v_tup (ds := [.int (a + 1), .int b, .int c]) (a_cons (v_op o_add v_im v_int) (a_cons v_im (a_cons v_im a_nil))) (by show 3 ≤ 1000000; decide))
        (wa_cons (we_cb (wa_cons (we_lcn (i_r1 (a_cons v_int a_nil) (by decide) (by decide)) (fun e => ∃ z : Int, e = .int z ∧ Sm z) (by decide) (Nat.le_of_ble_eq_true rfl) (fun e he => we_op (w_call 30 (a_cons v_pen (a_cons v_int a_nil)) rfl ⟨by decide, small_lt (by decide)⟩ ?_ (fun _ h => h))) fun es hes hall => ?_))))))))))))))
      · rintro r ⟨n, n0, n1, rfl⟩
        exact we_v v_int ⟨_, o_sub, _, rfl, n - 8, rfl, by unfold Sm; omega⟩
      obtain ⟨z1, z2, z3, rfl, sz1, sz2, sz3⟩ : ∃ z1 z2 z3 : Int, es = [.int z1, .int z2, .int z3] ∧ Sm z1 ∧ Sm z2 ∧ Sm z3 := by
        have h3 : es.length = 3 := hes
        match es, h3, hall with
        | [u1, u2, u3], _, hall =>
          obtain ⟨z1, rfl, h1⟩ := hall u1 (by simp)
          obtain ⟨z2, rfl, h2⟩ := hall u2 (by simp)
          obtain ⟨z3, rfl, h3⟩ := hall u3 (by simp)
          exact ⟨z1, z2, z3, rfl, h1, h2, h3⟩
      refine wa_nil ⟨_, n_tupN, wa_cons (we_v (v_tup (ds := [.int 0, .int a, .int b]) (a_cons v_int (a_cons v_im (a_cons v_im a_nil))) (by show 3 ≤ 1000000; decide)) (wa_nil ⟨[tupI [a, b, c], tupI [y * a, y * b, y * c], tupI [a, b, c + 1], tupI [a + 1, b, c], tupI [z1, z2, z3], tupI [0, a, b]], rfl, (by show 6 ≤ 1000000; decide), ?_⟩))⟩
      have trs : ∀ e ∈ [tupI [a, b, c], tupI [y * a, y * b, y * c], tupI [a, b, c + 1], tupI [a + 1, b, c], tupI [z1, z2, z3], tupI [0, a, b]], Tr e := fun e he => by
        simp only [List.mem_cons, List.not_mem_nil, or_false] at he
        rcases he with rfl | rfl | rfl | rfl | rfl | rfl
        · exact ⟨_, _, _, rfl, sma, smb, smc⟩
        · exact ⟨_, _, _, rfl, sby a ba, sby b bb, sby c bc⟩
        · exact ⟨_, _, _, rfl, sma, smb, by unfold Sm; omega⟩
        · exact ⟨_, _, _, rfl, by unfold Sm; omega, smb, smc⟩
        · exact ⟨_, _, _, rfl, sz1, sz2, sz3⟩
        · exact ⟨_, _, _, rfl, by unfold Sm; omega, sma, smb⟩
      generalize [tupI [a, b, c], tupI [y * a, y * b, y * c], tupI [a, b, c + 1], tupI [a + 1, b, c], tupI [z1, z2, z3], tupI [0, a, b]] = some at trs
      show WS _ _ [.ro (ns.map PyData.int), .pen, .im dd, .ls [.int a, .int b, .int c, .int d], I a, I b, I c, I y, .ls some, .no, .no, .no, .no, .no, .no, .no, .no, .no] _
      refine ws_la (i := 8) rfl fun la vs => ?_
      show WS _ _ [.ro (ns.map PyData.int), .pen, .im dd, .ls [.int a, .int b, .int c, .int d], I a, I b, I c, I y, .la la vs some, .no, .no, .no, .no, .no, .no, .no, .no, .no] _
      refine ws_seq (ws_forV (j := 8) rfl (fun _ Γ => ∃ e1 e2 e3 e4 : Ent, Γ = [.ro (ns.map PyData.int), .pen, .im dd, .ls [.int a, .int b, .int c, .int d], I a, I b, I c, I y, .la la vs some, e1, e2, e3, e4, .no, .no, .no, .no, .no]) (up_of ⟨_, _, _, _, rfl⟩) (fun i Γ' ⟨_, _, _, _, e⟩ => by subst e; rfl) ?_ ?_)
      · rintro j e Γ he ⟨e1, e2, e3, e4, rfl⟩
        obtain ⟨x1, x2, x3, rfl, s1, s2, s3⟩ := trs e (List.mem_of_getElem? he)
        refine g_tup rfl (wg_name (wg_name (wg_name (wg_nil ?_))))
        show WS _ _ [.ro (ns.map PyData.int), .pen, .im dd, .ls [.int a, .int b, .int c, .int d], I a, I b, I c, I y, .la la vs some, I x1, I x2, I x3, e4, .no, .no, .no, .no, .no] _
        refine ws_seq (ws_asg (w_call (x1, x2, x3) (a_cons v_im (a_cons v_im (a_cons v_im a_nil))) rfl ⟨s1, s2, s3⟩ ?_ (fun _ h => h)))
        rintro r ⟨bl, rfl, hbl⟩
        show WS _ _ [.ro (ns.map PyData.int), .pen, .im dd, .ls [.int a, .int b, .int c, .int d], I a, I b, I c, I y, .la la vs some, I x1, I x2, I x3, B bl, .no, .no, .no, .no, .no] _
        have same : ∀ b2 : Bool, (b2 = true ↔ FitP x1 x2 x3) → b2 = bl := fun b2 h2 => by
          have := h2.trans hbl.symm
          cases b2 <;> cases bl <;> simp_all
        refine ws_if (wt_or (wt_not (wt_B (we_call (wa_cons (c_fit x1 x2 x3 s1 s2 s3 (a_cons v_im (a_cons v_im (a_cons v_im a_nil))) fun b2 h2 => wa_cons (we_v v_im (wa_nil ⟨(.bool b2, bl), rfl, trivial, ?_, fun _ h => h.elim⟩))))))))
        rintro r rfl
        refine ⟨_, rfl, fun _ => ?_, fun z => ?_⟩
        · refine wt_test (we_op (c_fit x3 x1 x2 s3 s1 s2 (a_cons v_im (a_cons v_im (a_cons v_im a_nil))) fun b3 h3 => we_v v_im ⟨_, o_neB, _, rfl, fun z => ?_, fun _ => ws_next (up_of ⟨_, _, _, _, rfl⟩)⟩))
          rw [same b3 (h3.trans fit_rot)] at z
          simp at z
        · rw [same b2 h2] at z
          simp [isBo] at z
      · rintro Γ ⟨e1, e2, e3, e4, rfl⟩
        refine ws_if (wt_test (we_op (c_fit a b c sma smb smc (a_cons v_im (a_cons v_im (a_cons v_im a_nil))) fun b2 h2 => we_v v_bl ⟨_, o_notD, _, rfl, fun z => ?_, fun _ => ws_next ?_⟩)))
        · rw [h2.2 fit] at z
          simp [isBo] at z
        · exact ⟨_, .cons (.inl rfl) (.cons (.inl rfl) (wk_no _)), rfl⟩
    rintro Γ rfl
    show WM _ _ _ _ [.ro (ns.map PyData.int), .pen, .no, .no, .no, .no, .no, .no, .no, .no, .no, .no, .no, .no, .no, .no, .no, .no]
    refine wm_seq (ws_asgT (we_tup (wa_cons (w_call bads (a_cons v_pen (a_cons (v_lst (ds := bads) (a_cons v_non (a_cons v_bl (a_cons v_str (a_cons (v_tup (ds := [.int 1, .int 2]) (a_cons v_int (a_cons v_int a_nil))) a_nil))))) a_nil)) rfl ⟨by decide, by decide⟩ ?_ (fun _ h => h)))))
    rintro r ⟨d, hd, rfl⟩
    refine wa_cons (w_call wrongs (a_cons v_pen (a_cons (v_lst (ds := wrongs) (a_cons v_non (a_cons v_bl (a_cons v_str a_nil)))) a_nil)) rfl ⟨by decide, by decide⟩ ?_ (fun _ h => h))
    rintro r ⟨z, hz, rfl⟩
    refine wa_cons (w_call odds (a_cons v_pen (a_cons (v_lst (ds := odds) (a_cons v_non (a_cons v_bl (a_cons (v_tup (ds := [.int 3]) (a_cons v_int a_nil)) a_nil)))) a_nil)) rfl ⟨by decide, by decide⟩ ?_ (fun _ h => h))
    rintro r ⟨o, ho, rfl⟩
    refine wa_nil ⟨[d, z, o], rfl, (by show 3 ≤ 1000000; decide), _, rfl, rfl, wg_name (wg_name (wg_name (wg_nil ?_)))⟩
    obtain ⟨d1, d2, d3, d4⟩ := bad_facts2 "a" (.inl rfl) d (List.mem_append_left _ hd)
    obtain ⟨z1, z2, z3, z4⟩ := bad_facts2 "b" (.inr (.inl rfl)) z (List.mem_append_right _ (List.mem_append_left _ hz))
    obtain ⟨o1, o2, o3, o4⟩ := bad_facts2 "c" (.inr (.inr rfl)) o (List.mem_append_right _ (List.mem_append_right _ ho))
    have sm1 : smD (.int 1) := by show Sm 1; unfold Sm; decide
    have sm2 : smD (.int 2) := by show Sm 2; unfold Sm; decide
    have no : ∀ {x y u : PyData} {a b c : Int}, (isInt x = false ∨ isInt y = false ∨ isInt u = false) → (x, y, u) = (PyData.int a, PyData.int b, PyData.int c) → False := fun {x y u a b c} h e => by
      cases e
      rcases h with h | h | h <;> exact absurd h (by simp [isInt, isK])
    show WM _ _ _ _ [.ro (ns.map PyData.int), .pen, .no, .no, .no, .no, .no, .no, .no, .no, .no, .no, .no, .im d, .im z, .im o, .no, .no]
    refine wm_lst1 (le_fault (C := ce_kinds A) (kd := kdN) (Γ' := [.ro (ns.map PyData.int), .pen, .no, .no, .no, .no, .no, .no, .no, .no, .no, .no, .no, .im d, .im z, .im o, .no, .no]) ("a", d) (flat2_of rfl) (Wk.refl _) (flat_of rfl) (fun E => we_call (wa_v (a_cons v_im (a_cons v_im (a_cons v_im a_nil))) ⟨(d, z, o), rfl, ⟨d4, z4, o4⟩, ?_, ?_⟩)) d2) (Nat.le_of_ble_eq_true rfl) ?_
    · rintro r ⟨a, b, c, bl, h, _⟩
      exact no (.inl d1) h
    · rintro er (⟨_, h⟩ | ⟨h, _⟩ | ⟨h, _⟩)
      · exact ⟨rfl, h⟩
      · rw [d1] at h; cases h
      · rw [d1] at h; cases h
    show WM _ _ _ _ [.ro (ns.map PyData.int), .pen, .no, .no, .no, .no, .no, .no, .no, .no, .no, .no, .no, .im d, .im z, .im o, .ls [kdN ("a", d)], .no]
    refine wm_app1 (le_fault (C := ce_kinds A) (kd := kdN) (Γ' := [.ro (ns.map PyData.int), .pen, .no, .no, .no, .no, .no, .no, .no, .no, .no, .no, .no, .im d, .im z, .im o, .no, .no]) ("b", z) (flat2_of rfl) (.cons (.inl rfl) (.cons (.inl rfl) (.cons (.inl rfl) (.cons (.inl rfl) (.cons (.inl rfl) (.cons (.inl rfl) (.cons (.inl rfl) (.cons (.inl rfl) (.cons (.inl rfl) (.cons (.inl rfl) (.cons (.inl rfl) (.cons (.inl rfl) (.cons (.inl rfl) (.cons (.inl rfl) (.cons (.inl rfl) (.cons (.inl rfl) (.cons (.inr (.inl rfl)) (.cons (.inl rfl) .nil)))))))))))))))))) (flat_of rfl) (fun E => we_call (wa_v (a_cons v_int (a_cons v_im (a_cons v_im a_nil))) ⟨(.int 1, z, o), rfl, ⟨sm1, z4, o4⟩, ?_, ?_⟩)) z2) rfl (by show 1 < 1000000; decide) ?_
    · rintro r ⟨a, b, c, bl, h, _⟩
      exact no (.inr (.inl z1)) h
    · rintro er (⟨h, _⟩ | ⟨_, _, h⟩ | ⟨_, h, _⟩)
      · exact absurd h (by simp [isInt, isK])
      · exact ⟨rfl, h⟩
      · rw [z1] at h; cases h
    show WM _ _ _ _ [.ro (ns.map PyData.int), .pen, .no, .no, .no, .no, .no, .no, .no, .no, .no, .no, .no, .im d, .im z, .im o, .ls [kdN ("a", d), kdN ("b", z)], .no]
    refine wm_app1 (le_fault (C := ce_kinds A) (kd := kdN) (Γ' := [.ro (ns.map PyData.int), .pen, .no, .no, .no, .no, .no, .no, .no, .no, .no, .no, .no, .im d, .im z, .im o, .no, .no]) ("c", o) (flat2_of rfl) (.cons (.inl rfl) (.cons (.inl rfl) (.cons (.inl rfl) (.cons (.inl rfl) (.cons (.inl rfl) (.cons (.inl rfl) (.cons (.inl rfl) (.cons (.inl rfl) (.cons (.inl rfl) (.cons (.inl rfl) (.cons (.inl rfl) (.cons (.inl rfl) (.cons (.inl rfl) (.cons (.inl rfl) (.cons (.inl rfl) (.cons (.inl rfl) (.cons (.inr (.inl rfl)) (.cons (.inl rfl) .nil)))))))))))))))))) (flat_of rfl) (fun E => we_call (wa_v (a_cons v_int (a_cons v_int (a_cons v_im a_nil))) ⟨(.int 1, .int 2, o), rfl, ⟨sm1, sm2, o4⟩, ?_, ?_⟩)) o2) rfl (by show 2 < 1000000; decide) ?_
    · rintro r ⟨a, b, c, bl, h, _⟩
      exact no (.inr (.inr o1)) h
    · rintro er (⟨h, _⟩ | ⟨_, h, _⟩ | ⟨_, _, _, h⟩)
      · exact absurd h (by simp [isInt, isK])
      · exact absurd h (by simp [isInt, isK])
      · exact ⟨rfl, h⟩
    show WM _ _ _ _ [.ro (ns.map PyData.int), .pen, .no, .no, .no, .no, .no, .no, .no, .no, .no, .no, .no, .im d, .im z, .im o, .ls [kdN ("a", d), kdN ("b", z), kdN ("c", o)], .no]
    have sh3 := shaped_kd3 d3 z3 o3
    refine wm_seq (s_if (k := false) (vt_is (t_test (v_op (o_neD (ra := .ro [kdN ("a", d), kdN ("b", z), kdN ("c", o)]) (rb := .ls [kdN ("a", d), kdN ("b", z), kdN ("c", o)]) rfl rfl sh3 sh3) v_ls (v_lst (ds := [kdN ("a", d), kdN ("b", z), kdN ("c", o)])
      (a_cons (v_tup (ds := [.str "number", .str "a", .str d.shown]) (a_cons v_str (a_cons v_str (a_cons (v_cb (n_repr d2) (a_cons v_im a_nil)) a_nil))) (by show 3 ≤ 1000000; decide)) (a_cons (v_tup (ds := [.str "number", .str "b", .str z.shown]) (a_cons v_str (a_cons v_str (a_cons (v_cb (n_repr z2) (a_cons v_im a_nil)) a_nil))) (by show 3 ≤ 1000000; decide))
      (a_cons (v_tup (ds := [.str "number", .str "c", .str o.shown]) (a_cons v_str (a_cons v_str (a_cons (v_cb (n_repr o2) (a_cons v_im a_nil)) a_nil))) (by show 3 ≤ 1000000; decide)) a_nil))) (by show 3 ≤ 1000000; decide)))) (by rw [eqv_same sh3]; rfl)) (fun h => by cases h) fun _ => ws_next ?_)
    have sm0 : Sm 0 := by unfold Sm; decide
    have smi1 : Sm 1 := sm1
    have smi2 : Sm 2 := sm2
    have smi3 : Sm 3 := by unfold Sm; decide
    have f223 : FitP 2 2 3 := ⟨⟨by decide, 4, by decide⟩, by decide⟩
    have f000 : ¬ FitP 0 0 0 := fun h => h.1.1 ⟨rfl, rfl, rfl⟩
    have f001 : FitP 0 0 1 := ⟨⟨by decide, 0, by decide⟩, by decide⟩
    have f002 : ¬ FitP 0 0 2 := fun h => absurd h.2 (by decide)
    have tr : ∀ {b : Bool} {Q : Prop}, (b = true ↔ Q) → Q → isBo true (.bool b) = true := fun h q => by rw [h.2 q]; rfl
    have fa : ∀ {b : Bool} {Q : Prop}, (b = true ↔ Q) → ¬ Q → isBo false (.bool b) = true := fun {b Q} h q => by
      cases b with
      | false => rfl
      | true => exact absurd (h.1 rfl) q
    refine wm_ws (ws_ret (we_and (we_op (c_fit 2 2 3 smi2 smi2 smi3 (a_cons v_int (a_cons v_int (a_cons v_int a_nil))) fun b1 h1 => we_v v_bl ⟨_, o_isD, _, rfl, fun _ => ?_, fun z => ?_⟩))))
    · refine we_and (we_op (c_fit 0 0 0 sm0 sm0 sm0 (a_cons v_int (a_cons v_int (a_cons v_int a_nil))) fun b2 h2 => we_v v_bl ⟨_, o_isD, _, rfl, fun _ => ?_, fun z => ?_⟩))
      · refine we_and (we_op (c_fit 0 0 1 sm0 sm0 smi1 (a_cons v_int (a_cons v_int (a_cons v_int a_nil))) fun b3 h3 => we_v v_bl ⟨_, o_isD, _, rfl, fun _ => ?_, fun z => ?_⟩))
        · exact we_op (c_fit 0 0 2 sm0 sm0 smi2 (a_cons v_int (a_cons v_int (a_cons v_int a_nil))) fun b4 h4 => we_v v_bl ⟨_, o_isD, by rw [fa h4 f002]⟩)
        · rw [tr h3 f001] at z; cases z
      · rw [fa h2 f000] at z; cases z
    · rw [tr h1 f223] at z; cases z
  · match j, z with
    | 0, z => cases z
    | j + 1, z =>
      have : (List.replicate 17 Ent.no)[j]? = Option.some Ent.pen := z
      rw [List.getElem?_replicate] at this
      split at this <;> cases this
end
end K68

namespace K68
open PySem PySem.Spec PyProof.Rows L2 DL
theorem law_end {P : Program} {w : World} {K : PySem.W.Frag} {h : Heap} {mg : Str → Option Value} {fa c Pt : Addr}
    (M : ∃ A : Adr, A.a_law = fa ∧ Txt K mg A ∧ (∃ (oc : Value) (od : Option Addr) (kV doc pm : Value) (an : Option Addr) (ct : Value) (osl : Array (Option Value)), K.lookup fa = some ⟨oc, od, .func (PySem.W.fnOf "law" "law" (defArgs s_law) (defBody s_law) (defScope s_law) .none kV doc pm an (.ref c) ct), osl⟩) ∧ PySem.W.codeIn K (.ref c) "law" = true)
    (tb : h.get? Pt = some { cls := .none, data := .fields #[] }) (nt : K.lookup Pt = none) (hd : PySem.W.CodeHd h c Pt) :
    ∃ cs : List (Addr × Addr), (∀ q ∈ cs, h.get? q.2 = some { cls := .none, data := .fields #[] }) ∧ (∀ q ∈ cs, K.lookup q.2 = none) ∧ (∀ q ∈ cs, PySem.W.CodeHd h q.1 q.2) ∧
      ∀ (s : Shared) (a : Addr) (ns : List Int), ns.length ≤ 63 → (∀ z ∈ ns, Builtin.Int.intBits z ≤ 1048576) → LawRun P w K mg cs fa a ns s := by
  obtain ⟨A, rfl, T, ⟨oc, od, kV, doc, pm, an, ct, osl, lk⟩, hcd⟩ := M
  refine ⟨[(c, Pt)], fun q hq => by rw [List.mem_singleton.mp hq]; exact tb, fun q hq => by rw [List.mem_singleton.mp hq]; exact nt, fun q hq => by rw [List.mem_singleton.mp hq]; exact hd, fun s a ns hl _ => ⟨fun base H kb gb TB hT hS e0 => ?_⟩⟩
  refine LamX.run_ofS (k := 7) (N := ["script", "pen", "lap", "four", "a", "b", "c", "by", "some", "one", "two", "three", "due", "bad", "wrong", "odd", "told", "k"]) (ps := ["script"]) (us := [.ref a]) (vs := [.ref a]) lk hcd sc_law ⟨rfl, by decide, by decide⟩ e0 (.of_eq rfl) (.cons rfl .nil) rfl fun _ => ?_
  obtain ⟨t, ht, hw⟩ := ok_law (P := P) (w := w) (base := base) T (s := s) (H := H) (TB _ (List.mem_singleton.mpr rfl))
  refine ⟨t, ht.nox, hw ns hl _ H H ?_ (fun q hq => ?_) _ (fun _ => rfl)⟩
  · have ra : ResAll K none H H [.ro (ns.map PyData.int)] [.ref a] := ⟨_, [], rfl, res_ro.2 ⟨a, ns.map V.int, rfl, hS, Ims.of_ints ns⟩, rfl, fun z => by cases z⟩
    exact ev_start (N := ["script", "pen", "lap", "four", "a", "b", "c", "by", "some", "one", "two", "three", "due", "bad", "wrong", "odd", "told", "k"]) (rs := [.ro (ns.map PyData.int)]) (m := 17) (fun _ e => by cases e) ra (Nat.le_of_ble_eq_true rfl)
  · rw [List.mem_singleton.mp hq]
    exact LamX.TabS.nil (hT _ (List.mem_singleton.mpr rfl))
theorem all_mk {K : PySem.W.Frag} {h : Heap} {mg : Str → Option Value} {fa : Addr} (X : K.In h) (G : h.Ns mainGlobals mg) (hfa : mg "law" = some (.ref fa))
    {a__law_pen : Addr} {od__law_pen an__law_pen : Option Addr} {sl__law_pen : Array (Option Value)} {oc__law_pen kV__law_pen dc__law_pen pm__law_pen cd__law_pen ct__law_pen : Value}
    {a__law_draw : Addr} {od__law_draw an__law_draw : Option Addr} {sl__law_draw : Array (Option Value)} {oc__law_draw kV__law_draw dc__law_draw pm__law_draw cd__law_draw ct__law_draw : Value}
    {a__law_shuffled : Addr} {od__law_shuffled an__law_shuffled : Option Addr} {sl__law_shuffled : Array (Option Value)} {oc__law_shuffled kV__law_shuffled dc__law_shuffled pm__law_shuffled cd__law_shuffled ct__law_shuffled : Value}
    {a__law_pick : Addr} {od__law_pick an__law_pick : Option Addr} {sl__law_pick : Array (Option Value)} {oc__law_pick kV__law_pick dc__law_pick pm__law_pick cd__law_pick ct__law_pick : Value}
    {a__law_more_kinds : Addr} {od__law_more_kinds an__law_more_kinds : Option Addr} {sl__law_more_kinds : Array (Option Value)} {oc__law_more_kinds kV__law_more_kinds dc__law_more_kinds pm__law_more_kinds cd__law_more_kinds ct__law_more_kinds : Value}
    {a__law_kinds : Addr} {od__law_kinds an__law_kinds : Option Addr} {sl__law_kinds : Array (Option Value)} {oc__law_kinds kV__law_kinds dc__law_kinds pm__law_kinds cd__law_kinds ct__law_kinds : Value}
    {a__law_fault : Addr} {od__law_fault an__law_fault : Option Addr} {sl__law_fault : Array (Option Value)} {oc__law_fault kV__law_fault dc__law_fault pm__law_fault cd__law_fault ct__law_fault : Value}
    {a__law_common : Addr} {od__law_common an__law_common : Option Addr} {sl__law_common : Array (Option Value)} {oc__law_common kV__law_common dc__law_common pm__law_common cd__law_common ct__law_common : Value}
    {a__law_root_square : Addr} {od__law_root_square an__law_root_square : Option Addr} {sl__law_root_square : Array (Option Value)} {oc__law_root_square kV__law_root_square dc__law_root_square pm__law_root_square cd__law_root_square ct__law_root_square : Value}
    {a__law_due : Addr} {od__law_due an__law_due : Option Addr} {sl__law_due : Array (Option Value)} {oc__law_due kV__law_due dc__law_due pm__law_due cd__law_due ct__law_due : Value}
    {a_is_integer : Addr} {od_is_integer an_is_integer : Option Addr} {sl_is_integer : Array (Option Value)} {oc_is_integer kV_is_integer dc_is_integer pm_is_integer cd_is_integer ct_is_integer : Value}
    {a_need_integer : Addr} {od_need_integer an_need_integer : Option Addr} {sl_need_integer : Array (Option Value)} {oc_need_integer kV_need_integer dc_need_integer pm_need_integer cd_need_integer ct_need_integer : Value}
    {a_whole_root : Addr} {od_whole_root an_whole_root : Option Addr} {sl_whole_root : Array (Option Value)} {oc_whole_root kV_whole_root dc_whole_root pm_whole_root cd_whole_root ct_whole_root : Value}
    {a_fourths_of : Addr} {od_fourths_of an_fourths_of : Option Addr} {sl_fourths_of : Array (Option Value)} {oc_fourths_of kV_fourths_of dc_fourths_of pm_fourths_of cd_fourths_of ct_fourths_of : Value}
    {a_triple_fits : Addr} {od_triple_fits an_triple_fits : Option Addr} {sl_triple_fits : Array (Option Value)} {oc_triple_fits kV_triple_fits dc_triple_fits pm_triple_fits cd_triple_fits ct_triple_fits : Value}
    {a__law_says : Addr} {od__law_says an__law_says : Option Addr} {sl__law_says : Array (Option Value)} {oc__law_says kV__law_says dc__law_says pm__law_says cd__law_says ct__law_says : Value}
    {a__law_swapped : Addr} {od__law_swapped an__law_swapped : Option Addr} {sl__law_swapped : Array (Option Value)} {oc__law_swapped kV__law_swapped dc__law_swapped pm__law_swapped cd__law_swapped ct__law_swapped : Value}
    {a__law_along : Addr} {od__law_along an__law_along : Option Addr} {sl__law_along : Array (Option Value)} {oc__law_along kV__law_along dc__law_along pm__law_along cd__law_along ct__law_along : Value}
    {a__law_is_root : Addr} {od__law_is_root an__law_is_root : Option Addr} {sl__law_is_root : Array (Option Value)} {oc__law_is_root kV__law_is_root dc__law_is_root pm__law_is_root cd__law_is_root ct__law_is_root : Value}
    {a__law_small_roots : Addr} {od__law_small_roots an__law_small_roots : Option Addr} {sl__law_small_roots : Array (Option Value)} {oc__law_small_roots kV__law_small_roots dc__law_small_roots pm__law_small_roots cd__law_small_roots ct__law_small_roots : Value}
    {a__law_normal_word : Addr} {od__law_normal_word an__law_normal_word : Option Addr} {sl__law_normal_word : Array (Option Value)} {oc__law_normal_word kV__law_normal_word dc__law_normal_word pm__law_normal_word cd__law_normal_word ct__law_normal_word : Value}
    {a__law_packing : Addr} {od__law_packing an__law_packing : Option Addr} {sl__law_packing : Array (Option Value)} {oc__law_packing kV__law_packing dc__law_packing pm__law_packing cd__law_packing ct__law_packing : Value}
    {a__law_great_four : Addr} {od__law_great_four an__law_great_four : Option Addr} {sl__law_great_four : Array (Option Value)} {oc__law_great_four kV__law_great_four dc__law_great_four pm__law_great_four cd__law_great_four ct__law_great_four : Value}
    {a_law : Addr} {od_law an_law : Option Addr} {sl_law : Array (Option Value)} {oc_law kV_law dc_law pm_law ct_law : Value} {cd_a : Addr}
    {a_BendError : Addr}
    {a_BadNumber : Addr}
    {a_BadRow : Addr}
    {a_BadTable : Addr}
    {a_BadQuadruple : Addr}
    {a_BadWord : Addr}
    {a_BadName : Addr}
    {a_BadText : Addr}
    {a_NoPlace : Addr}
    {a_NoName : Addr}
    {a_TakenName : Addr}
    {a_Unlike : Addr}
    {a_NotThere : Addr}
    {a_TooMany : Addr}
    {a_NotKept : Addr}
    {a_NothingToUndo : Addr}
    {a_NothingToRedo : Addr}
    {nm_BadNumber q_BadNumber : Str} {N_BadNumber : Addr} {bs_BadNumber bm_BadNumber : List Value} {sn_BadNumber : List Str} {su_BadNumber : List Value} {ab_BadNumber : Bool} {co_BadNumber : Option Bool} {dd_BadNumber : Option Addr} {m0_BadNumber m1_BadNumber m2_BadNumber m3_BadNumber m5_BadNumber : Option Value}
    {ai_BadNumber : Addr} {oI_BadNumber kI_BadNumber dI_BadNumber pI_BadNumber cI_BadNumber tI_BadNumber : Value} {eI_BadNumber nI_BadNumber : Option Addr} {sI_BadNumber : Array (Option Value)}
    (n__law_pen : PySem.W.nsIn K mainGlobals "_law_pen" = some (some (.ref a__law_pen)))
    (l__law_pen : K.lookup a__law_pen = some ⟨oc__law_pen, od__law_pen, .func (PySem.W.fnOf "_law_pen" "_law_pen" (defArgs s__law_pen) (defBody s__law_pen) (defScope s__law_pen) .none kV__law_pen dc__law_pen pm__law_pen an__law_pen cd__law_pen ct__law_pen), sl__law_pen⟩)
    (c__law_pen : PySem.W.codeIn K cd__law_pen "_law_pen" = true)
    (k__law_pen : PySem.W.keepIn K (.ref a__law_pen) = true)
    (n__law_draw : PySem.W.nsIn K mainGlobals "_law_draw" = some (some (.ref a__law_draw)))
    (l__law_draw : K.lookup a__law_draw = some ⟨oc__law_draw, od__law_draw, .func (PySem.W.fnOf "_law_draw" "_law_draw" (defArgs s__law_draw) (defBody s__law_draw) (defScope s__law_draw) .none kV__law_draw dc__law_draw pm__law_draw an__law_draw cd__law_draw ct__law_draw), sl__law_draw⟩)
    (c__law_draw : PySem.W.codeIn K cd__law_draw "_law_draw" = true)
    (k__law_draw : PySem.W.keepIn K (.ref a__law_draw) = true)
    (n__law_shuffled : PySem.W.nsIn K mainGlobals "_law_shuffled" = some (some (.ref a__law_shuffled)))
    (l__law_shuffled : K.lookup a__law_shuffled = some ⟨oc__law_shuffled, od__law_shuffled, .func (PySem.W.fnOf "_law_shuffled" "_law_shuffled" (defArgs s__law_shuffled) (defBody s__law_shuffled) (defScope s__law_shuffled) .none kV__law_shuffled dc__law_shuffled pm__law_shuffled an__law_shuffled cd__law_shuffled ct__law_shuffled), sl__law_shuffled⟩)
    (c__law_shuffled : PySem.W.codeIn K cd__law_shuffled "_law_shuffled" = true)
    (k__law_shuffled : PySem.W.keepIn K (.ref a__law_shuffled) = true)
    (n__law_pick : PySem.W.nsIn K mainGlobals "_law_pick" = some (some (.ref a__law_pick)))
    (l__law_pick : K.lookup a__law_pick = some ⟨oc__law_pick, od__law_pick, .func (PySem.W.fnOf "_law_pick" "_law_pick" (defArgs s__law_pick) (defBody s__law_pick) (defScope s__law_pick) .none kV__law_pick dc__law_pick pm__law_pick an__law_pick cd__law_pick ct__law_pick), sl__law_pick⟩)
    (c__law_pick : PySem.W.codeIn K cd__law_pick "_law_pick" = true)
    (k__law_pick : PySem.W.keepIn K (.ref a__law_pick) = true)
    (n__law_more_kinds : PySem.W.nsIn K mainGlobals "_law_more_kinds" = some (some (.ref a__law_more_kinds)))
    (l__law_more_kinds : K.lookup a__law_more_kinds = some ⟨oc__law_more_kinds, od__law_more_kinds, .func (PySem.W.fnOf "_law_more_kinds" "_law_more_kinds" (defArgs s__law_more_kinds) (defBody s__law_more_kinds) (defScope s__law_more_kinds) .none kV__law_more_kinds dc__law_more_kinds pm__law_more_kinds an__law_more_kinds cd__law_more_kinds ct__law_more_kinds), sl__law_more_kinds⟩)
    (c__law_more_kinds : PySem.W.codeIn K cd__law_more_kinds "_law_more_kinds" = true)
    (k__law_more_kinds : PySem.W.keepIn K (.ref a__law_more_kinds) = true)
    (n__law_kinds : PySem.W.nsIn K mainGlobals "_law_kinds" = some (some (.ref a__law_kinds)))
    (l__law_kinds : K.lookup a__law_kinds = some ⟨oc__law_kinds, od__law_kinds, .func (PySem.W.fnOf "_law_kinds" "_law_kinds" (defArgs s__law_kinds) (defBody s__law_kinds) (defScope s__law_kinds) .none kV__law_kinds dc__law_kinds pm__law_kinds an__law_kinds cd__law_kinds ct__law_kinds), sl__law_kinds⟩)
    (c__law_kinds : PySem.W.codeIn K cd__law_kinds "_law_kinds" = true)
    (k__law_kinds : PySem.W.keepIn K (.ref a__law_kinds) = true)
    (n__law_fault : PySem.W.nsIn K mainGlobals "_law_fault" = some (some (.ref a__law_fault)))
    (l__law_fault : K.lookup a__law_fault = some ⟨oc__law_fault, od__law_fault, .func (PySem.W.fnOf "_law_fault" "_law_fault" (defArgs s__law_fault) (defBody s__law_fault) (defScope s__law_fault) .none kV__law_fault dc__law_fault pm__law_fault an__law_fault cd__law_fault ct__law_fault), sl__law_fault⟩)
    (c__law_fault : PySem.W.codeIn K cd__law_fault "_law_fault" = true)
    (k__law_fault : PySem.W.keepIn K (.ref a__law_fault) = true)
    (n__law_common : PySem.W.nsIn K mainGlobals "_law_common" = some (some (.ref a__law_common)))
    (l__law_common : K.lookup a__law_common = some ⟨oc__law_common, od__law_common, .func (PySem.W.fnOf "_law_common" "_law_common" (defArgs s__law_common) (defBody s__law_common) (defScope s__law_common) .none kV__law_common dc__law_common pm__law_common an__law_common cd__law_common ct__law_common), sl__law_common⟩)
    (c__law_common : PySem.W.codeIn K cd__law_common "_law_common" = true)
    (k__law_common : PySem.W.keepIn K (.ref a__law_common) = true)
    (n__law_root_square : PySem.W.nsIn K mainGlobals "_law_root_square" = some (some (.ref a__law_root_square)))
    (l__law_root_square : K.lookup a__law_root_square = some ⟨oc__law_root_square, od__law_root_square, .func (PySem.W.fnOf "_law_root_square" "_law_root_square" (defArgs s__law_root_square) (defBody s__law_root_square) (defScope s__law_root_square) .none kV__law_root_square dc__law_root_square pm__law_root_square an__law_root_square cd__law_root_square ct__law_root_square), sl__law_root_square⟩)
    (c__law_root_square : PySem.W.codeIn K cd__law_root_square "_law_root_square" = true)
    (k__law_root_square : PySem.W.keepIn K (.ref a__law_root_square) = true)
    (n__law_due : PySem.W.nsIn K mainGlobals "_law_due" = some (some (.ref a__law_due)))
    (l__law_due : K.lookup a__law_due = some ⟨oc__law_due, od__law_due, .func (PySem.W.fnOf "_law_due" "_law_due" (defArgs s__law_due) (defBody s__law_due) (defScope s__law_due) .none kV__law_due dc__law_due pm__law_due an__law_due cd__law_due ct__law_due), sl__law_due⟩)
    (c__law_due : PySem.W.codeIn K cd__law_due "_law_due" = true)
    (k__law_due : PySem.W.keepIn K (.ref a__law_due) = true)
    (n_is_integer : PySem.W.nsIn K mainGlobals "is_integer" = some (some (.ref a_is_integer)))
    (l_is_integer : K.lookup a_is_integer = some ⟨oc_is_integer, od_is_integer, .func (PySem.W.fnOf "is_integer" "is_integer" (defArgs s_is_integer) (defBody s_is_integer) (defScope s_is_integer) .none kV_is_integer dc_is_integer pm_is_integer an_is_integer cd_is_integer ct_is_integer), sl_is_integer⟩)
    (c_is_integer : PySem.W.codeIn K cd_is_integer "is_integer" = true)
    (k_is_integer : PySem.W.keepIn K (.ref a_is_integer) = true)
    (n_need_integer : PySem.W.nsIn K mainGlobals "need_integer" = some (some (.ref a_need_integer)))
    (l_need_integer : K.lookup a_need_integer = some ⟨oc_need_integer, od_need_integer, .func (PySem.W.fnOf "need_integer" "need_integer" (defArgs s_need_integer) (defBody s_need_integer) (defScope s_need_integer) .none kV_need_integer dc_need_integer pm_need_integer an_need_integer cd_need_integer ct_need_integer), sl_need_integer⟩)
    (c_need_integer : PySem.W.codeIn K cd_need_integer "need_integer" = true)
    (k_need_integer : PySem.W.keepIn K (.ref a_need_integer) = true)
    (n_whole_root : PySem.W.nsIn K mainGlobals "whole_root" = some (some (.ref a_whole_root)))
    (l_whole_root : K.lookup a_whole_root = some ⟨oc_whole_root, od_whole_root, .func (PySem.W.fnOf "whole_root" "whole_root" (defArgs s_whole_root) (defBody s_whole_root) (defScope s_whole_root) .none kV_whole_root dc_whole_root pm_whole_root an_whole_root cd_whole_root ct_whole_root), sl_whole_root⟩)
    (c_whole_root : PySem.W.codeIn K cd_whole_root "whole_root" = true)
    (k_whole_root : PySem.W.keepIn K (.ref a_whole_root) = true)
    (n_fourths_of : PySem.W.nsIn K mainGlobals "fourths_of" = some (some (.ref a_fourths_of)))
    (l_fourths_of : K.lookup a_fourths_of = some ⟨oc_fourths_of, od_fourths_of, .func (PySem.W.fnOf "fourths_of" "fourths_of" (defArgs s_fourths_of) (defBody s_fourths_of) (defScope s_fourths_of) .none kV_fourths_of dc_fourths_of pm_fourths_of an_fourths_of cd_fourths_of ct_fourths_of), sl_fourths_of⟩)
    (c_fourths_of : PySem.W.codeIn K cd_fourths_of "fourths_of" = true)
    (k_fourths_of : PySem.W.keepIn K (.ref a_fourths_of) = true)
    (n_triple_fits : PySem.W.nsIn K mainGlobals "triple_fits" = some (some (.ref a_triple_fits)))
    (l_triple_fits : K.lookup a_triple_fits = some ⟨oc_triple_fits, od_triple_fits, .func (PySem.W.fnOf "triple_fits" "triple_fits" (defArgs s_triple_fits) (defBody s_triple_fits) (defScope s_triple_fits) .none kV_triple_fits dc_triple_fits pm_triple_fits an_triple_fits cd_triple_fits ct_triple_fits), sl_triple_fits⟩)
    (c_triple_fits : PySem.W.codeIn K cd_triple_fits "triple_fits" = true)
    (k_triple_fits : PySem.W.keepIn K (.ref a_triple_fits) = true)
    (n__law_says : PySem.W.nsIn K mainGlobals "_law_says" = some (some (.ref a__law_says)))
    (l__law_says : K.lookup a__law_says = some ⟨oc__law_says, od__law_says, .func (PySem.W.fnOf "_law_says" "_law_says" (defArgs s__law_says) (defBody s__law_says) (defScope s__law_says) .none kV__law_says dc__law_says pm__law_says an__law_says cd__law_says ct__law_says), sl__law_says⟩)
    (c__law_says : PySem.W.codeIn K cd__law_says "_law_says" = true)
    (k__law_says : PySem.W.keepIn K (.ref a__law_says) = true)
    (n__law_swapped : PySem.W.nsIn K mainGlobals "_law_swapped" = some (some (.ref a__law_swapped)))
    (l__law_swapped : K.lookup a__law_swapped = some ⟨oc__law_swapped, od__law_swapped, .func (PySem.W.fnOf "_law_swapped" "_law_swapped" (defArgs s__law_swapped) (defBody s__law_swapped) (defScope s__law_swapped) .none kV__law_swapped dc__law_swapped pm__law_swapped an__law_swapped cd__law_swapped ct__law_swapped), sl__law_swapped⟩)
    (c__law_swapped : PySem.W.codeIn K cd__law_swapped "_law_swapped" = true)
    (k__law_swapped : PySem.W.keepIn K (.ref a__law_swapped) = true)
    (n__law_along : PySem.W.nsIn K mainGlobals "_law_along" = some (some (.ref a__law_along)))
    (l__law_along : K.lookup a__law_along = some ⟨oc__law_along, od__law_along, .func (PySem.W.fnOf "_law_along" "_law_along" (defArgs s__law_along) (defBody s__law_along) (defScope s__law_along) .none kV__law_along dc__law_along pm__law_along an__law_along cd__law_along ct__law_along), sl__law_along⟩)
    (c__law_along : PySem.W.codeIn K cd__law_along "_law_along" = true)
    (k__law_along : PySem.W.keepIn K (.ref a__law_along) = true)
    (n__law_is_root : PySem.W.nsIn K mainGlobals "_law_is_root" = some (some (.ref a__law_is_root)))
    (l__law_is_root : K.lookup a__law_is_root = some ⟨oc__law_is_root, od__law_is_root, .func (PySem.W.fnOf "_law_is_root" "_law_is_root" (defArgs s__law_is_root) (defBody s__law_is_root) (defScope s__law_is_root) .none kV__law_is_root dc__law_is_root pm__law_is_root an__law_is_root cd__law_is_root ct__law_is_root), sl__law_is_root⟩)
    (c__law_is_root : PySem.W.codeIn K cd__law_is_root "_law_is_root" = true)
    (k__law_is_root : PySem.W.keepIn K (.ref a__law_is_root) = true)
    (n__law_small_roots : PySem.W.nsIn K mainGlobals "_law_small_roots" = some (some (.ref a__law_small_roots)))
    (l__law_small_roots : K.lookup a__law_small_roots = some ⟨oc__law_small_roots, od__law_small_roots, .func (PySem.W.fnOf "_law_small_roots" "_law_small_roots" (defArgs s__law_small_roots) (defBody s__law_small_roots) (defScope s__law_small_roots) .none kV__law_small_roots dc__law_small_roots pm__law_small_roots an__law_small_roots cd__law_small_roots ct__law_small_roots), sl__law_small_roots⟩)
    (c__law_small_roots : PySem.W.codeIn K cd__law_small_roots "_law_small_roots" = true)
    (k__law_small_roots : PySem.W.keepIn K (.ref a__law_small_roots) = true)
    (n__law_normal_word : PySem.W.nsIn K mainGlobals "_law_normal_word" = some (some (.ref a__law_normal_word)))
    (l__law_normal_word : K.lookup a__law_normal_word = some ⟨oc__law_normal_word, od__law_normal_word, .func (PySem.W.fnOf "_law_normal_word" "_law_normal_word" (defArgs s__law_normal_word) (defBody s__law_normal_word) (defScope s__law_normal_word) .none kV__law_normal_word dc__law_normal_word pm__law_normal_word an__law_normal_word cd__law_normal_word ct__law_normal_word), sl__law_normal_word⟩)
    (c__law_normal_word : PySem.W.codeIn K cd__law_normal_word "_law_normal_word" = true)
    (k__law_normal_word : PySem.W.keepIn K (.ref a__law_normal_word) = true)
    (n__law_packing : PySem.W.nsIn K mainGlobals "_law_packing" = some (some (.ref a__law_packing)))
    (l__law_packing : K.lookup a__law_packing = some ⟨oc__law_packing, od__law_packing, .func (PySem.W.fnOf "_law_packing" "_law_packing" (defArgs s__law_packing) (defBody s__law_packing) (defScope s__law_packing) .none kV__law_packing dc__law_packing pm__law_packing an__law_packing cd__law_packing ct__law_packing), sl__law_packing⟩)
    (c__law_packing : PySem.W.codeIn K cd__law_packing "_law_packing" = true)
    (k__law_packing : PySem.W.keepIn K (.ref a__law_packing) = true)
    (n__law_great_four : PySem.W.nsIn K mainGlobals "_law_great_four" = some (some (.ref a__law_great_four)))
    (l__law_great_four : K.lookup a__law_great_four = some ⟨oc__law_great_four, od__law_great_four, .func (PySem.W.fnOf "_law_great_four" "_law_great_four" (defArgs s__law_great_four) (defBody s__law_great_four) (defScope s__law_great_four) .none kV__law_great_four dc__law_great_four pm__law_great_four an__law_great_four cd__law_great_four ct__law_great_four), sl__law_great_four⟩)
    (c__law_great_four : PySem.W.codeIn K cd__law_great_four "_law_great_four" = true)
    (k__law_great_four : PySem.W.keepIn K (.ref a__law_great_four) = true)
    (n_law : PySem.W.nsIn K mainGlobals "law" = some (some (.ref a_law)))
    (l_law : K.lookup a_law = some ⟨oc_law, od_law, .func (PySem.W.fnOf "law" "law" (defArgs s_law) (defBody s_law) (defScope s_law) .none kV_law dc_law pm_law an_law (.ref cd_a) ct_law), sl_law⟩)
    (c_law : PySem.W.codeIn K (.ref cd_a) "law" = true)
    (k_law : PySem.W.keepIn K (.ref a_law) = true)
    (n_BendError : PySem.W.nsIn K mainGlobals "BendError" = some (some (.ref a_BendError)))
    (n_BadNumber : PySem.W.nsIn K mainGlobals "BadNumber" = some (some (.ref a_BadNumber)))
    (n_BadRow : PySem.W.nsIn K mainGlobals "BadRow" = some (some (.ref a_BadRow)))
    (n_BadTable : PySem.W.nsIn K mainGlobals "BadTable" = some (some (.ref a_BadTable)))
    (n_BadQuadruple : PySem.W.nsIn K mainGlobals "BadQuadruple" = some (some (.ref a_BadQuadruple)))
    (n_BadWord : PySem.W.nsIn K mainGlobals "BadWord" = some (some (.ref a_BadWord)))
    (n_BadName : PySem.W.nsIn K mainGlobals "BadName" = some (some (.ref a_BadName)))
    (n_BadText : PySem.W.nsIn K mainGlobals "BadText" = some (some (.ref a_BadText)))
    (n_NoPlace : PySem.W.nsIn K mainGlobals "NoPlace" = some (some (.ref a_NoPlace)))
    (n_NoName : PySem.W.nsIn K mainGlobals "NoName" = some (some (.ref a_NoName)))
    (n_TakenName : PySem.W.nsIn K mainGlobals "TakenName" = some (some (.ref a_TakenName)))
    (n_Unlike : PySem.W.nsIn K mainGlobals "Unlike" = some (some (.ref a_Unlike)))
    (n_NotThere : PySem.W.nsIn K mainGlobals "NotThere" = some (some (.ref a_NotThere)))
    (n_TooMany : PySem.W.nsIn K mainGlobals "TooMany" = some (some (.ref a_TooMany)))
    (n_NotKept : PySem.W.nsIn K mainGlobals "NotKept" = some (some (.ref a_NotKept)))
    (n_NothingToUndo : PySem.W.nsIn K mainGlobals "NothingToUndo" = some (some (.ref a_NothingToUndo)))
    (n_NothingToRedo : PySem.W.nsIn K mainGlobals "NothingToRedo" = some (some (.ref a_NothingToRedo)))
    (x_BadNumber : K.lookup a_BadNumber = some (excClassObj nm_BadNumber q_BadNumber a_BadNumber N_BadNumber bs_BadNumber bm_BadNumber true sn_BadNumber su_BadNumber ab_BadNumber co_BadNumber dd_BadNumber m0_BadNumber m1_BadNumber m2_BadNumber m3_BadNumber m5_BadNumber "ValueError.__new__"))
    (r_BadNumber : PySem.HandSPX.refsVE bm_BadNumber = true)
    (sa_BadNumber : PySem.W.findIn K (.ref a_BadNumber) "__setattr__" = some (some (.builtin "object.__setattr__")))
    (ec_BadNumber : PySem.W.subIn K (.ref a_BadNumber) (.type "BaseException") = some true)
    (tc_BadNumber : PySem.W.typeIn K (.ref a_BadNumber) = some (.type "type"))
    (kc_BadNumber : PySem.W.keepIn K (.ref a_BadNumber) = true)
    (fi_BadNumber : PySem.W.findIn K (.ref a_BadNumber) "__init__" = some (some (.ref ai_BadNumber)))
    (ti_BadNumber : PySem.W.typeIn K (.ref ai_BadNumber) = some (.type "function"))
    (li_BadNumber : K.lookup ai_BadNumber = some ⟨oI_BadNumber, eI_BadNumber, .func (PySem.W.fnOf "__init__" "BadNumber.__init__" (defArgs i_BadNumber) (defBody i_BadNumber) (defScope i_BadNumber) .none kI_BadNumber dI_BadNumber pI_BadNumber nI_BadNumber cI_BadNumber tI_BadNumber), sI_BadNumber⟩)
    (ci_BadNumber : PySem.W.codeIn K cI_BadNumber "BadNumber.__init__" = true)
    (ki_BadNumber : PySem.W.keepIn K (.ref ai_BadNumber) = true)
    (e1_BadNumber : PySem.W.isClsIn K a_BadNumber = true)
    (e2_BadNumber : PySem.W.findIn K (.ref a_BadNumber) "__getattribute__" = some (some (.builtin "BaseException.__getattribute__")))
    (e3_BadNumber : PySem.W.findIn K (.ref a_BadNumber) "__getattr__" = some none)
    (e4_BadNumber : PySem.W.findIn K (.ref a_BadNumber) "__class__" = some (some (.builtin "object.__class__")))
    (e5_BadNumber : PySem.W.mroIn K a_BadNumber (.type "object") = some true)
    (e6_BadNumber : PySem.W.hasDictIn K a_BadNumber = true)
    (is_BadNumber_BadNumber : PySem.W.kitOne K (.ref a_BadNumber) (.ref a_BadNumber) = some true)
    (is_BadNumber_BadRow : PySem.W.kitOne K (.ref a_BadNumber) (.ref a_BadRow) = some false)
    (is_BadNumber_BadTable : PySem.W.kitOne K (.ref a_BadNumber) (.ref a_BadTable) = some false)
    (is_BadNumber_BadQuadruple : PySem.W.kitOne K (.ref a_BadNumber) (.ref a_BadQuadruple) = some false)
    (is_BadNumber_BadWord : PySem.W.kitOne K (.ref a_BadNumber) (.ref a_BadWord) = some false)
    (is_BadNumber_BadName : PySem.W.kitOne K (.ref a_BadNumber) (.ref a_BadName) = some false)
    (is_BadNumber_BadText : PySem.W.kitOne K (.ref a_BadNumber) (.ref a_BadText) = some false)
    (is_BadNumber_NoPlace : PySem.W.kitOne K (.ref a_BadNumber) (.ref a_NoPlace) = some false)
    (is_BadNumber_NoName : PySem.W.kitOne K (.ref a_BadNumber) (.ref a_NoName) = some false)
    (is_BadNumber_TakenName : PySem.W.kitOne K (.ref a_BadNumber) (.ref a_TakenName) = some false)
    (is_BadNumber_Unlike : PySem.W.kitOne K (.ref a_BadNumber) (.ref a_Unlike) = some false)
    (is_BadNumber_NotThere : PySem.W.kitOne K (.ref a_BadNumber) (.ref a_NotThere) = some false)
    (is_BadNumber_TooMany : PySem.W.kitOne K (.ref a_BadNumber) (.ref a_TooMany) = some false)
    (is_BadNumber_NotKept : PySem.W.kitOne K (.ref a_BadNumber) (.ref a_NotKept) = some false)
    (is_BadNumber_NothingToUndo : PySem.W.kitOne K (.ref a_BadNumber) (.ref a_NothingToUndo) = some false)
    (is_BadNumber_NothingToRedo : PySem.W.kitOne K (.ref a_BadNumber) (.ref a_NothingToRedo) = some false)
    (iv_BadNumber : PySem.W.kitOne K (.ref a_BadNumber) (.type "ValueError") = some true)
    (eb_BadNumber : PySem.W.subIn K (.ref a_BadNumber) (.ref a_BendError) = some true)
    (xn_BadNumber_what : PySem.W.findIn K (.ref a_BadNumber) "what" = some none)
    (xn_BadNumber_number : PySem.W.findIn K (.ref a_BadNumber) "number" = some none)
    (b1 : PySem.W.subIn K (.ref a_BendError) (.type "BaseException") = some true)
    (b2 : PySem.W.hasDictIn K a_BendError = true)
    (b3 : PySem.W.typeIn K (.ref a_BendError) = some (.type "type"))
    (o1 : PySem.W.specialIn K (.builtin "object.__class__") "__get__" = some (some (.builtin "getset_descriptor.__get__")))
    (o2 : PySem.W.takesIn K (.builtin "object.__class__") = some true)
    (n_gcd : PySem.W.nsIn K mainGlobals "gcd" = some (some (.builtin "math.gcd")))
    (z_list : PySem.W.nsIn K mainGlobals "list" = some none)
    (z_int : PySem.W.nsIn K mainGlobals "int" = some none)
    (z_len : PySem.W.nsIn K mainGlobals "len" = some none)
    (z_range : PySem.W.nsIn K mainGlobals "range" = some none)
    (z_ValueError : PySem.W.nsIn K mainGlobals "ValueError" = some none)
    (z_isinstance : PySem.W.nsIn K mainGlobals "isinstance" = some none)
    (z_repr : PySem.W.nsIn K mainGlobals "repr" = some none)
    (z_bool : PySem.W.nsIn K mainGlobals "bool" = some none)
    (z_sum : PySem.W.nsIn K mainGlobals "sum" = some none)
    (z_max : PySem.W.nsIn K mainGlobals "max" = some none)
    (z_tuple : PySem.W.nsIn K mainGlobals "tuple" = some none)
    (z_sorted : PySem.W.nsIn K mainGlobals "sorted" = some none)
    (z_abs : PySem.W.nsIn K mainGlobals "abs" = some none)
    : ∃ A : Adr, A.a_law = fa ∧ Txt K mg A ∧ (∃ (oc : Value) (od : Option Addr) (kV doc pm : Value) (an : Option Addr) (ct : Value) (osl : Array (Option Value)), K.lookup fa = some ⟨oc, od, .func (PySem.W.fnOf "law" "law" (defArgs s_law) (defBody s_law) (defScope s_law) .none kV doc pm an (.ref cd_a) ct), osl⟩) ∧ PySem.W.codeIn K (.ref cd_a) "law" = true := by
  have e := hfa.symm.trans (PySem.W.mg_of X G n_law)
  cases e
  have F__law_pen := fun_mk (st := s__law_pen) l__law_pen c__law_pen k__law_pen
  have F__law_draw := fun_mk (st := s__law_draw) l__law_draw c__law_draw k__law_draw
  have F__law_shuffled := fun_mk (st := s__law_shuffled) l__law_shuffled c__law_shuffled k__law_shuffled
  have F__law_pick := fun_mk (st := s__law_pick) l__law_pick c__law_pick k__law_pick
  have F__law_more_kinds := fun_mk (st := s__law_more_kinds) l__law_more_kinds c__law_more_kinds k__law_more_kinds
  have F__law_kinds := fun_mk (st := s__law_kinds) l__law_kinds c__law_kinds k__law_kinds
  have F__law_fault := fun_mk (st := s__law_fault) l__law_fault c__law_fault k__law_fault
  have F__law_common := fun_mk (st := s__law_common) l__law_common c__law_common k__law_common
  have F__law_root_square := fun_mk (st := s__law_root_square) l__law_root_square c__law_root_square k__law_root_square
  have F__law_due := fun_mk (st := s__law_due) l__law_due c__law_due k__law_due
  have F_is_integer := fun_mk (st := s_is_integer) l_is_integer c_is_integer k_is_integer
  have F_need_integer := fun_mk (st := s_need_integer) l_need_integer c_need_integer k_need_integer
  have F_whole_root := fun_mk (st := s_whole_root) l_whole_root c_whole_root k_whole_root
  have F_fourths_of := fun_mk (st := s_fourths_of) l_fourths_of c_fourths_of k_fourths_of
  have F_triple_fits := fun_mk (st := s_triple_fits) l_triple_fits c_triple_fits k_triple_fits
  have F__law_says := fun_mk (st := s__law_says) l__law_says c__law_says k__law_says
  have F__law_swapped := fun_mk (st := s__law_swapped) l__law_swapped c__law_swapped k__law_swapped
  have F__law_along := fun_mk (st := s__law_along) l__law_along c__law_along k__law_along
  have F__law_is_root := fun_mk (st := s__law_is_root) l__law_is_root c__law_is_root k__law_is_root
  have F__law_small_roots := fun_mk (st := s__law_small_roots) l__law_small_roots c__law_small_roots k__law_small_roots
  have F__law_normal_word := fun_mk (st := s__law_normal_word) l__law_normal_word c__law_normal_word k__law_normal_word
  have F__law_packing := fun_mk (st := s__law_packing) l__law_packing c__law_packing k__law_packing
  have F__law_great_four := fun_mk (st := s__law_great_four) l__law_great_four c__law_great_four k__law_great_four
  have F_law := fun_mk (st := s_law) l_law c_law k_law
  have F_BadNumber := fun_mk (st := i_BadNumber) li_BadNumber ci_BadNumber ki_BadNumber
  let A : Adr := {
    a__law_pen := a__law_pen, d__law_pen := (PySem.W.fnOf "_law_pen" "_law_pen" (defArgs s__law_pen) (defBody s__law_pen) (defScope s__law_pen) .none kV__law_pen dc__law_pen pm__law_pen an__law_pen cd__law_pen ct__law_pen)
    a__law_draw := a__law_draw, d__law_draw := (PySem.W.fnOf "_law_draw" "_law_draw" (defArgs s__law_draw) (defBody s__law_draw) (defScope s__law_draw) .none kV__law_draw dc__law_draw pm__law_draw an__law_draw cd__law_draw ct__law_draw)
    a__law_shuffled := a__law_shuffled, d__law_shuffled := (PySem.W.fnOf "_law_shuffled" "_law_shuffled" (defArgs s__law_shuffled) (defBody s__law_shuffled) (defScope s__law_shuffled) .none kV__law_shuffled dc__law_shuffled pm__law_shuffled an__law_shuffled cd__law_shuffled ct__law_shuffled)
    a__law_pick := a__law_pick, d__law_pick := (PySem.W.fnOf "_law_pick" "_law_pick" (defArgs s__law_pick) (defBody s__law_pick) (defScope s__law_pick) .none kV__law_pick dc__law_pick pm__law_pick an__law_pick cd__law_pick ct__law_pick)
    a__law_more_kinds := a__law_more_kinds, d__law_more_kinds := (PySem.W.fnOf "_law_more_kinds" "_law_more_kinds" (defArgs s__law_more_kinds) (defBody s__law_more_kinds) (defScope s__law_more_kinds) .none kV__law_more_kinds dc__law_more_kinds pm__law_more_kinds an__law_more_kinds cd__law_more_kinds ct__law_more_kinds)
    a__law_kinds := a__law_kinds, d__law_kinds := (PySem.W.fnOf "_law_kinds" "_law_kinds" (defArgs s__law_kinds) (defBody s__law_kinds) (defScope s__law_kinds) .none kV__law_kinds dc__law_kinds pm__law_kinds an__law_kinds cd__law_kinds ct__law_kinds)
    a__law_fault := a__law_fault, d__law_fault := (PySem.W.fnOf "_law_fault" "_law_fault" (defArgs s__law_fault) (defBody s__law_fault) (defScope s__law_fault) .none kV__law_fault dc__law_fault pm__law_fault an__law_fault cd__law_fault ct__law_fault)
    a__law_common := a__law_common, d__law_common := (PySem.W.fnOf "_law_common" "_law_common" (defArgs s__law_common) (defBody s__law_common) (defScope s__law_common) .none kV__law_common dc__law_common pm__law_common an__law_common cd__law_common ct__law_common)
    a__law_root_square := a__law_root_square, d__law_root_square := (PySem.W.fnOf "_law_root_square" "_law_root_square" (defArgs s__law_root_square) (defBody s__law_root_square) (defScope s__law_root_square) .none kV__law_root_square dc__law_root_square pm__law_root_square an__law_root_square cd__law_root_square ct__law_root_square)
    a__law_due := a__law_due, d__law_due := (PySem.W.fnOf "_law_due" "_law_due" (defArgs s__law_due) (defBody s__law_due) (defScope s__law_due) .none kV__law_due dc__law_due pm__law_due an__law_due cd__law_due ct__law_due)
    a_is_integer := a_is_integer, d_is_integer := (PySem.W.fnOf "is_integer" "is_integer" (defArgs s_is_integer) (defBody s_is_integer) (defScope s_is_integer) .none kV_is_integer dc_is_integer pm_is_integer an_is_integer cd_is_integer ct_is_integer)
    a_need_integer := a_need_integer, d_need_integer := (PySem.W.fnOf "need_integer" "need_integer" (defArgs s_need_integer) (defBody s_need_integer) (defScope s_need_integer) .none kV_need_integer dc_need_integer pm_need_integer an_need_integer cd_need_integer ct_need_integer)
    a_whole_root := a_whole_root, d_whole_root := (PySem.W.fnOf "whole_root" "whole_root" (defArgs s_whole_root) (defBody s_whole_root) (defScope s_whole_root) .none kV_whole_root dc_whole_root pm_whole_root an_whole_root cd_whole_root ct_whole_root)
    a_fourths_of := a_fourths_of, d_fourths_of := (PySem.W.fnOf "fourths_of" "fourths_of" (defArgs s_fourths_of) (defBody s_fourths_of) (defScope s_fourths_of) .none kV_fourths_of dc_fourths_of pm_fourths_of an_fourths_of cd_fourths_of ct_fourths_of)
    a_triple_fits := a_triple_fits, d_triple_fits := (PySem.W.fnOf "triple_fits" "triple_fits" (defArgs s_triple_fits) (defBody s_triple_fits) (defScope s_triple_fits) .none kV_triple_fits dc_triple_fits pm_triple_fits an_triple_fits cd_triple_fits ct_triple_fits)
    a__law_says := a__law_says, d__law_says := (PySem.W.fnOf "_law_says" "_law_says" (defArgs s__law_says) (defBody s__law_says) (defScope s__law_says) .none kV__law_says dc__law_says pm__law_says an__law_says cd__law_says ct__law_says)
    a__law_swapped := a__law_swapped, d__law_swapped := (PySem.W.fnOf "_law_swapped" "_law_swapped" (defArgs s__law_swapped) (defBody s__law_swapped) (defScope s__law_swapped) .none kV__law_swapped dc__law_swapped pm__law_swapped an__law_swapped cd__law_swapped ct__law_swapped)
    a__law_along := a__law_along, d__law_along := (PySem.W.fnOf "_law_along" "_law_along" (defArgs s__law_along) (defBody s__law_along) (defScope s__law_along) .none kV__law_along dc__law_along pm__law_along an__law_along cd__law_along ct__law_along)
    a__law_is_root := a__law_is_root, d__law_is_root := (PySem.W.fnOf "_law_is_root" "_law_is_root" (defArgs s__law_is_root) (defBody s__law_is_root) (defScope s__law_is_root) .none kV__law_is_root dc__law_is_root pm__law_is_root an__law_is_root cd__law_is_root ct__law_is_root)
    a__law_small_roots := a__law_small_roots, d__law_small_roots := (PySem.W.fnOf "_law_small_roots" "_law_small_roots" (defArgs s__law_small_roots) (defBody s__law_small_roots) (defScope s__law_small_roots) .none kV__law_small_roots dc__law_small_roots pm__law_small_roots an__law_small_roots cd__law_small_roots ct__law_small_roots)
    a__law_normal_word := a__law_normal_word, d__law_normal_word := (PySem.W.fnOf "_law_normal_word" "_law_normal_word" (defArgs s__law_normal_word) (defBody s__law_normal_word) (defScope s__law_normal_word) .none kV__law_normal_word dc__law_normal_word pm__law_normal_word an__law_normal_word cd__law_normal_word ct__law_normal_word)
    a__law_packing := a__law_packing, d__law_packing := (PySem.W.fnOf "_law_packing" "_law_packing" (defArgs s__law_packing) (defBody s__law_packing) (defScope s__law_packing) .none kV__law_packing dc__law_packing pm__law_packing an__law_packing cd__law_packing ct__law_packing)
    a__law_great_four := a__law_great_four, d__law_great_four := (PySem.W.fnOf "_law_great_four" "_law_great_four" (defArgs s__law_great_four) (defBody s__law_great_four) (defScope s__law_great_four) .none kV__law_great_four dc__law_great_four pm__law_great_four an__law_great_four cd__law_great_four ct__law_great_four)
    a_law := fa, d_law := (PySem.W.fnOf "law" "law" (defArgs s_law) (defBody s_law) (defScope s_law) .none kV_law dc_law pm_law an_law (.ref cd_a) ct_law)
    c_BendError := a_BendError
    c_BadNumber := a_BadNumber
    ai_BadNumber := ai_BadNumber, di_BadNumber := (PySem.W.fnOf "__init__" "BadNumber.__init__" (defArgs i_BadNumber) (defBody i_BadNumber) (defScope i_BadNumber) .none kI_BadNumber dI_BadNumber pI_BadNumber nI_BadNumber cI_BadNumber tI_BadNumber)
    c_BadRow := a_BadRow
    ai_BadRow := 0, di_BadRow := (PySem.W.fnOf "law" "law" (defArgs s_law) (defBody s_law) (defScope s_law) .none kV_law dc_law pm_law an_law (.ref cd_a) ct_law)
    c_BadTable := a_BadTable
    ai_BadTable := 0, di_BadTable := (PySem.W.fnOf "law" "law" (defArgs s_law) (defBody s_law) (defScope s_law) .none kV_law dc_law pm_law an_law (.ref cd_a) ct_law)
    c_BadQuadruple := a_BadQuadruple
    ai_BadQuadruple := 0, di_BadQuadruple := (PySem.W.fnOf "law" "law" (defArgs s_law) (defBody s_law) (defScope s_law) .none kV_law dc_law pm_law an_law (.ref cd_a) ct_law)
    c_BadWord := a_BadWord
    ai_BadWord := 0, di_BadWord := (PySem.W.fnOf "law" "law" (defArgs s_law) (defBody s_law) (defScope s_law) .none kV_law dc_law pm_law an_law (.ref cd_a) ct_law)
    c_BadName := a_BadName
    ai_BadName := 0, di_BadName := (PySem.W.fnOf "law" "law" (defArgs s_law) (defBody s_law) (defScope s_law) .none kV_law dc_law pm_law an_law (.ref cd_a) ct_law)
    c_BadText := a_BadText
    ai_BadText := 0, di_BadText := (PySem.W.fnOf "law" "law" (defArgs s_law) (defBody s_law) (defScope s_law) .none kV_law dc_law pm_law an_law (.ref cd_a) ct_law)
    c_NoPlace := a_NoPlace
    ai_NoPlace := 0, di_NoPlace := (PySem.W.fnOf "law" "law" (defArgs s_law) (defBody s_law) (defScope s_law) .none kV_law dc_law pm_law an_law (.ref cd_a) ct_law)
    c_NoName := a_NoName
    ai_NoName := 0, di_NoName := (PySem.W.fnOf "law" "law" (defArgs s_law) (defBody s_law) (defScope s_law) .none kV_law dc_law pm_law an_law (.ref cd_a) ct_law)
    c_TakenName := a_TakenName
    ai_TakenName := 0, di_TakenName := (PySem.W.fnOf "law" "law" (defArgs s_law) (defBody s_law) (defScope s_law) .none kV_law dc_law pm_law an_law (.ref cd_a) ct_law)
    c_Unlike := a_Unlike
    ai_Unlike := 0, di_Unlike := (PySem.W.fnOf "law" "law" (defArgs s_law) (defBody s_law) (defScope s_law) .none kV_law dc_law pm_law an_law (.ref cd_a) ct_law)
    c_NotThere := a_NotThere
    ai_NotThere := 0, di_NotThere := (PySem.W.fnOf "law" "law" (defArgs s_law) (defBody s_law) (defScope s_law) .none kV_law dc_law pm_law an_law (.ref cd_a) ct_law)
    c_TooMany := a_TooMany
    ai_TooMany := 0, di_TooMany := (PySem.W.fnOf "law" "law" (defArgs s_law) (defBody s_law) (defScope s_law) .none kV_law dc_law pm_law an_law (.ref cd_a) ct_law)
    c_NotKept := a_NotKept
    ai_NotKept := 0, di_NotKept := (PySem.W.fnOf "law" "law" (defArgs s_law) (defBody s_law) (defScope s_law) .none kV_law dc_law pm_law an_law (.ref cd_a) ct_law)
    c_NothingToUndo := a_NothingToUndo
    c_NothingToRedo := a_NothingToRedo
  }
  have T : Txt K mg A := {
    F__law_pen := F__law_pen
    g__law_pen := PySem.W.mg_of X G n__law_pen
    k__law_pen := k__law_pen
    b__law_pen := F__law_pen.binds (ps := ["script"]) (fun _ _ _ _ _ _ us hl => match us, hl with | [_], _ => rfl)
    F__law_draw := F__law_draw
    g__law_draw := PySem.W.mg_of X G n__law_draw
    k__law_draw := k__law_draw
    b__law_draw := F__law_draw.binds (ps := ["pen", "many"]) (fun _ _ _ _ _ _ us hl => match us, hl with | [_, _], _ => rfl)
    F__law_shuffled := F__law_shuffled
    g__law_shuffled := PySem.W.mg_of X G n__law_shuffled
    k__law_shuffled := k__law_shuffled
    b__law_shuffled := F__law_shuffled.binds (ps := ["pen", "some"]) (fun _ _ _ _ _ _ us hl => match us, hl with | [_, _], _ => rfl)
    F__law_pick := F__law_pick
    g__law_pick := PySem.W.mg_of X G n__law_pick
    k__law_pick := k__law_pick
    b__law_pick := F__law_pick.binds (ps := ["pen", "some"]) (fun _ _ _ _ _ _ us hl => match us, hl with | [_, _], _ => rfl)
    F__law_more_kinds := F__law_more_kinds
    g__law_more_kinds := PySem.W.mg_of X G n__law_more_kinds
    k__law_more_kinds := k__law_more_kinds
    b__law_more_kinds := F__law_more_kinds.binds (ps := ["e"]) (fun _ _ _ _ _ _ us hl => match us, hl with | [_], _ => rfl)
    F__law_kinds := F__law_kinds
    g__law_kinds := PySem.W.mg_of X G n__law_kinds
    k__law_kinds := k__law_kinds
    b__law_kinds := F__law_kinds.binds (ps := ["e"]) (fun _ _ _ _ _ _ us hl => match us, hl with | [_], _ => rfl)
    F__law_fault := F__law_fault
    g__law_fault := PySem.W.mg_of X G n__law_fault
    k__law_fault := k__law_fault
    b__law_fault := F__law_fault.binds (ps := ["call"]) (fun _ _ _ _ _ _ us hl => match us, hl with | [_], _ => rfl)
    F__law_common := F__law_common
    g__law_common := PySem.W.mg_of X G n__law_common
    k__law_common := k__law_common
    b__law_common := F__law_common.binds (ps := ["four"]) (fun _ _ _ _ _ _ us hl => match us, hl with | [_], _ => rfl)
    F__law_root_square := F__law_root_square
    g__law_root_square := PySem.W.mg_of X G n__law_root_square
    k__law_root_square := k__law_root_square
    b__law_root_square := F__law_root_square.binds (ps := ["number"]) (fun _ _ _ _ _ _ us hl => match us, hl with | [_], _ => rfl)
    F__law_due := F__law_due
    g__law_due := PySem.W.mg_of X G n__law_due
    k__law_due := k__law_due
    b__law_due := F__law_due.binds (ps := ["a", "b", "c"]) (fun _ _ _ _ _ _ us hl => match us, hl with | [_, _, _], _ => rfl)
    F_is_integer := F_is_integer
    g_is_integer := PySem.W.mg_of X G n_is_integer
    k_is_integer := k_is_integer
    b_is_integer := F_is_integer.binds (ps := ["value"]) (fun _ _ _ _ _ _ us hl => match us, hl with | [_], _ => rfl)
    F_need_integer := F_need_integer
    g_need_integer := PySem.W.mg_of X G n_need_integer
    k_need_integer := k_need_integer
    b_need_integer := F_need_integer.binds (ps := ["number", "what"]) (fun _ _ _ _ _ _ us hl => match us, hl with | [_, _], _ => rfl)
    F_whole_root := F_whole_root
    g_whole_root := PySem.W.mg_of X G n_whole_root
    k_whole_root := k_whole_root
    b_whole_root := F_whole_root.binds (ps := ["number"]) (fun _ _ _ _ _ _ us hl => match us, hl with | [_], _ => rfl)
    F_fourths_of := F_fourths_of
    g_fourths_of := PySem.W.mg_of X G n_fourths_of
    k_fourths_of := k_fourths_of
    b_fourths_of := F_fourths_of.binds (ps := ["a", "b", "c"]) (fun _ _ _ _ _ _ us hl => match us, hl with | [_, _, _], _ => rfl)
    F_triple_fits := F_triple_fits
    g_triple_fits := PySem.W.mg_of X G n_triple_fits
    k_triple_fits := k_triple_fits
    b_triple_fits := F_triple_fits.binds (ps := ["a", "b", "c"]) (fun _ _ _ _ _ _ us hl => match us, hl with | [_, _, _], _ => rfl)
    F__law_says := F__law_says
    g__law_says := PySem.W.mg_of X G n__law_says
    k__law_says := k__law_says
    b__law_says := F__law_says.binds (ps := ["told", "due"]) (fun _ _ _ _ _ _ us hl => match us, hl with | [_, _], _ => rfl)
    F__law_swapped := F__law_swapped
    g__law_swapped := PySem.W.mg_of X G n__law_swapped
    k__law_swapped := k__law_swapped
    b__law_swapped := F__law_swapped.binds (ps := ["four", "place"]) (fun _ _ _ _ _ _ us hl => match us, hl with | [_, _], _ => rfl)
    F__law_along := F__law_along
    g__law_along := PySem.W.mg_of X G n__law_along
    k__law_along := k__law_along
    b__law_along := F__law_along.binds (ps := ["four", "word"]) (fun _ _ _ _ _ _ us hl => match us, hl with | [_, _], _ => rfl)
    F__law_is_root := F__law_is_root
    g__law_is_root := PySem.W.mg_of X G n__law_is_root
    k__law_is_root := k__law_is_root
    b__law_is_root := F__law_is_root.binds (ps := ["four"]) (fun _ _ _ _ _ _ us hl => match us, hl with | [_], _ => rfl)
    F__law_small_roots := F__law_small_roots
    g__law_small_roots := PySem.W.mg_of X G n__law_small_roots
    k__law_small_roots := k__law_small_roots
    b__law_small_roots := F__law_small_roots.binds (ps := []) (fun _ _ _ _ _ _ us hl => match us, hl with | [], _ => rfl)
    F__law_normal_word := F__law_normal_word
    g__law_normal_word := PySem.W.mg_of X G n__law_normal_word
    k__law_normal_word := k__law_normal_word
    b__law_normal_word := F__law_normal_word.binds (ps := ["pen", "most"]) (fun _ _ _ _ _ _ us hl => match us, hl with | [_, _], _ => rfl)
    F__law_packing := F__law_packing
    g__law_packing := PySem.W.mg_of X G n__law_packing
    k__law_packing := k__law_packing
    b__law_packing := F__law_packing.binds (ps := ["pen", "most"]) (fun _ _ _ _ _ _ us hl => match us, hl with | [_, _], _ => rfl)
    F__law_great_four := F__law_great_four
    g__law_great_four := PySem.W.mg_of X G n__law_great_four
    k__law_great_four := k__law_great_four
    b__law_great_four := F__law_great_four.binds (ps := ["pen"]) (fun _ _ _ _ _ _ us hl => match us, hl with | [_], _ => rfl)
    F_law := F_law
    g_law := PySem.W.mg_of X G n_law
    k_law := k_law
    b_law := F_law.binds (ps := ["script"]) (fun _ _ _ _ _ _ us hl => match us, hl with | [_], _ => rfl)
    m_list := PySem.W.mg_none_of X G z_list
    m_int := PySem.W.mg_none_of X G z_int
    m_len := PySem.W.mg_none_of X G z_len
    m_range := PySem.W.mg_none_of X G z_range
    m_ValueError := PySem.W.mg_none_of X G z_ValueError
    m_isinstance := PySem.W.mg_none_of X G z_isinstance
    m_repr := PySem.W.mg_none_of X G z_repr
    m_bool := PySem.W.mg_none_of X G z_bool
    m_sum := PySem.W.mg_none_of X G z_sum
    m_max := PySem.W.mg_none_of X G z_max
    m_tuple := PySem.W.mg_none_of X G z_tuple
    m_sorted := PySem.W.mg_none_of X G z_sorted
    m_abs := PySem.W.mg_none_of X G z_abs
    g_BendError := PySem.W.mg_of X G n_BendError
    g_BadNumber := PySem.W.mg_of X G n_BadNumber
    g_BadRow := PySem.W.mg_of X G n_BadRow
    g_BadTable := PySem.W.mg_of X G n_BadTable
    g_BadQuadruple := PySem.W.mg_of X G n_BadQuadruple
    g_BadWord := PySem.W.mg_of X G n_BadWord
    g_BadName := PySem.W.mg_of X G n_BadName
    g_BadText := PySem.W.mg_of X G n_BadText
    g_NoPlace := PySem.W.mg_of X G n_NoPlace
    g_NoName := PySem.W.mg_of X G n_NoName
    g_TakenName := PySem.W.mg_of X G n_TakenName
    g_Unlike := PySem.W.mg_of X G n_Unlike
    g_NotThere := PySem.W.mg_of X G n_NotThere
    g_TooMany := PySem.W.mg_of X G n_TooMany
    g_NotKept := PySem.W.mg_of X G n_NotKept
    g_NothingToUndo := PySem.W.mg_of X G n_NothingToUndo
    g_NothingToRedo := PySem.W.mg_of X G n_NothingToRedo
    g_gcd := PySem.W.mg_of X G n_gcd
    F_BadNumber := F_BadNumber
    x_BadNumber := ⟨⟨_, _, _, _, _, _, _, _, _, _, _, _, _, _, _, x_BadNumber, r_BadNumber⟩, sa_BadNumber, ec_BadNumber, tc_BadNumber, kc_BadNumber⟩
    xi_BadNumber := fi_BadNumber
    xt_BadNumber := ti_BadNumber
    xb_BadNumber := F_BadNumber.binds (ps := ["self", "what", "number"]) (fun _ _ _ _ _ _ us hl => match us, hl with | [_, _, _], _ => rfl)
    ef_BadNumber := ⟨e1_BadNumber, e2_BadNumber, e3_BadNumber, ec_BadNumber, e4_BadNumber, e5_BadNumber, e6_BadNumber, o1, o2⟩
    is_BadNumber_BadNumber := is_BadNumber_BadNumber
    is_BadNumber_BadRow := is_BadNumber_BadRow
    is_BadNumber_BadTable := is_BadNumber_BadTable
    is_BadNumber_BadQuadruple := is_BadNumber_BadQuadruple
    is_BadNumber_BadWord := is_BadNumber_BadWord
    is_BadNumber_BadName := is_BadNumber_BadName
    is_BadNumber_BadText := is_BadNumber_BadText
    is_BadNumber_NoPlace := is_BadNumber_NoPlace
    is_BadNumber_NoName := is_BadNumber_NoName
    is_BadNumber_TakenName := is_BadNumber_TakenName
    is_BadNumber_Unlike := is_BadNumber_Unlike
    is_BadNumber_NotThere := is_BadNumber_NotThere
    is_BadNumber_TooMany := is_BadNumber_TooMany
    is_BadNumber_NotKept := is_BadNumber_NotKept
    is_BadNumber_NothingToUndo := is_BadNumber_NothingToUndo
    is_BadNumber_NothingToRedo := is_BadNumber_NothingToRedo
    iv_BadNumber := iv_BadNumber
    ex_BadNumber := PySem.W.exm_ref b1 b2 b3 eb_BadNumber
    xn_BadNumber_what := xn_BadNumber_what
    xn_BadNumber_number := xn_BadNumber_number
  }
  exact ⟨A, rfl, T, ⟨_, _, _, _, _, _, _, _, l_law⟩, c_law⟩
end K68
open PySem PySem.W PyProof.Rows
set_option maxRecDepth 100000 in
set_option maxHeartbeats 0 in
theorem PySem.Challenge.cw_fourbends_k68_whole_triples_holds : PySem.Challenge.rw_fourbends_k68_whole_triples.Holds := by
  w_on; o_law; k_head; (case hw => w_witness2)
  refine DL.walk_goes (l := PySem.Challenge.rw_fourbends_k68_whole_triples) (n := 63) rfl (by decide) rfl (fun w h Y => km_in_of Y) ?F
  case F =>
    intro w mg fa h Y KX G hmg
    refine' K68.law_end (K68.all_mk KX G hmg ?n__law_pen ?l__law_pen ?c__law_pen ?k__law_pen ?n__law_draw ?l__law_draw ?c__law_draw ?k__law_draw ?n__law_shuffled ?l__law_shuffled ?c__law_shuffled ?k__law_shuffled ?n__law_pick ?l__law_pick ?c__law_pick ?k__law_pick ?n__law_more_kinds ?l__law_more_kinds ?c__law_more_kinds ?k__law_more_kinds ?n__law_kinds ?l__law_kinds ?c__law_kinds ?k__law_kinds ?n__law_fault ?l__law_fault ?c__law_fault ?k__law_fault ?n__law_common ?l__law_common ?c__law_common ?k__law_common ?n__law_root_square ?l__law_root_square ?c__law_root_square ?k__law_root_square ?n__law_due ?l__law_due ?c__law_due ?k__law_due ?n_is_integer ?l_is_integer ?c_is_integer ?k_is_integer ?n_need_integer ?l_need_integer ?c_need_integer ?k_need_integer ?n_whole_root ?l_whole_root ?c_whole_root ?k_whole_root ?n_fourths_of ?l_fourths_of ?c_fourths_of ?k_fourths_of ?n_triple_fits ?l_triple_fits ?c_triple_fits ?k_triple_fits ?n__law_says ?l__law_says ?c__law_says ?k__law_says ?n__law_swapped ?l__law_swapped ?c__law_swapped ?k__law_swapped ?n__law_along ?l__law_along ?c__law_along ?k__law_along ?n__law_is_root ?l__law_is_root ?c__law_is_root ?k__law_is_root ?n__law_small_roots ?l__law_small_roots ?c__law_small_roots ?k__law_small_roots ?n__law_normal_word ?l__law_normal_word ?c__law_normal_word ?k__law_normal_word ?n__law_packing ?l__law_packing ?c__law_packing ?k__law_packing ?n__law_great_four ?l__law_great_four ?c__law_great_four ?k__law_great_four ?n_law ?l_law ?c_law ?k_law ?n_BendError ?n_BadNumber ?n_BadRow ?n_BadTable ?n_BadQuadruple ?n_BadWord ?n_BadName ?n_BadText ?n_NoPlace ?n_NoName ?n_TakenName ?n_Unlike ?n_NotThere ?n_TooMany ?n_NotKept ?n_NothingToUndo ?n_NothingToRedo ?x_BadNumber ?r_BadNumber ?sa_BadNumber ?ec_BadNumber ?tc_BadNumber ?kc_BadNumber ?fi_BadNumber ?ti_BadNumber ?li_BadNumber ?ci_BadNumber ?ki_BadNumber ?e1_BadNumber ?e2_BadNumber ?e3_BadNumber ?e4_BadNumber ?e5_BadNumber ?e6_BadNumber ?is_BadNumber_BadNumber ?is_BadNumber_BadRow ?is_BadNumber_BadTable ?is_BadNumber_BadQuadruple ?is_BadNumber_BadWord ?is_BadNumber_BadName ?is_BadNumber_BadText ?is_BadNumber_NoPlace ?is_BadNumber_NoName ?is_BadNumber_TakenName ?is_BadNumber_Unlike ?is_BadNumber_NotThere ?is_BadNumber_TooMany ?is_BadNumber_NotKept ?is_BadNumber_NothingToUndo ?is_BadNumber_NothingToRedo ?iv_BadNumber ?eb_BadNumber ?xn_BadNumber_what ?xn_BadNumber_number ?b1 ?b2 ?b3 ?o1 ?o2 ?n_gcd ?z_list ?z_int ?z_len ?z_range ?z_ValueError ?z_isinstance ?z_repr ?z_bool ?z_sum ?z_max ?z_tuple ?z_sorted ?z_abs) (km_tabs_of Y _ List.mem_cons_self) ?nt ?hd
    (case n__law_pen => k_is)
    (case l__law_pen => k_is)
    (case c__law_pen => k_is)
    (case k__law_pen => k_is)
    (case n__law_draw => k_is)
    (case l__law_draw => k_is)
    (case c__law_draw => k_is)
    (case k__law_draw => k_is)
    (case n__law_shuffled => k_is)
    (case l__law_shuffled => k_is)
    (case c__law_shuffled => k_is)
    (case k__law_shuffled => k_is)
    (case n__law_pick => k_is)
    (case l__law_pick => k_is)
    (case c__law_pick => k_is)
    (case k__law_pick => k_is)
    (case n__law_more_kinds => k_is)
    (case l__law_more_kinds => k_is)
    (case c__law_more_kinds => k_is)
    (case k__law_more_kinds => k_is)
    (case n__law_kinds => k_is)
    (case l__law_kinds => k_is)
    (case c__law_kinds => k_is)
    (case k__law_kinds => k_is)
    (case n__law_fault => k_is)
    (case l__law_fault => k_is)
    (case c__law_fault => k_is)
    (case k__law_fault => k_is)
    (case n__law_common => k_is)
    (case l__law_common => k_is)
    (case c__law_common => k_is)
    (case k__law_common => k_is)
    (case n__law_root_square => k_is)
    (case l__law_root_square => k_is)
    (case c__law_root_square => k_is)
    (case k__law_root_square => k_is)
    (case n__law_due => k_is)
    (case l__law_due => k_is)
    (case c__law_due => k_is)
    (case k__law_due => k_is)
    (case n_is_integer => k_is)
    (case l_is_integer => k_is)
    (case c_is_integer => k_is)
    (case k_is_integer => k_is)
    (case n_need_integer => k_is)
    (case l_need_integer => k_is)
    (case c_need_integer => k_is)
    (case k_need_integer => k_is)
    (case n_whole_root => k_is)
    (case l_whole_root => k_is)
    (case c_whole_root => k_is)
    (case k_whole_root => k_is)
    (case n_fourths_of => k_is)
    (case l_fourths_of => k_is)
    (case c_fourths_of => k_is)
    (case k_fourths_of => k_is)
    (case n_triple_fits => k_is)
    (case l_triple_fits => k_is)
    (case c_triple_fits => k_is)
    (case k_triple_fits => k_is)
    (case n__law_says => k_is)
    (case l__law_says => k_is)
    (case c__law_says => k_is)
    (case k__law_says => k_is)
    (case n__law_swapped => k_is)
    (case l__law_swapped => k_is)
    (case c__law_swapped => k_is)
    (case k__law_swapped => k_is)
    (case n__law_along => k_is)
    (case l__law_along => k_is)
    (case c__law_along => k_is)
    (case k__law_along => k_is)
    (case n__law_is_root => k_is)
    (case l__law_is_root => k_is)
    (case c__law_is_root => k_is)
    (case k__law_is_root => k_is)
    (case n__law_small_roots => k_is)
    (case l__law_small_roots => k_is)
    (case c__law_small_roots => k_is)
    (case k__law_small_roots => k_is)
    (case n__law_normal_word => k_is)
    (case l__law_normal_word => k_is)
    (case c__law_normal_word => k_is)
    (case k__law_normal_word => k_is)
    (case n__law_packing => k_is)
    (case l__law_packing => k_is)
    (case c__law_packing => k_is)
    (case k__law_packing => k_is)
    (case n__law_great_four => k_is)
    (case l__law_great_four => k_is)
    (case c__law_great_four => k_is)
    (case k__law_great_four => k_is)
    (case n_law => k_is)
    (case l_law => k_is)
    (case c_law => k_is)
    (case k_law => k_is)
    (case n_BendError => k_is)
    (case n_BadNumber => k_is)
    (case n_BadRow => k_is)
    (case n_BadTable => k_is)
    (case n_BadQuadruple => k_is)
    (case n_BadWord => k_is)
    (case n_BadName => k_is)
    (case n_BadText => k_is)
    (case n_NoPlace => k_is)
    (case n_NoName => k_is)
    (case n_TakenName => k_is)
    (case n_Unlike => k_is)
    (case n_NotThere => k_is)
    (case n_TooMany => k_is)
    (case n_NotKept => k_is)
    (case n_NothingToUndo => k_is)
    (case n_NothingToRedo => k_is)
    (case x_BadNumber => k_is)
    (case r_BadNumber => decide +kernel)
    (case sa_BadNumber => k_is)
    (case ec_BadNumber => k_is)
    (case tc_BadNumber => k_is)
    (case kc_BadNumber => k_is)
    (case fi_BadNumber => k_is)
    (case ti_BadNumber => k_is)
    (case li_BadNumber => k_is)
    (case ci_BadNumber => k_is)
    (case ki_BadNumber => k_is)
    (case e1_BadNumber => k_is)
    (case e2_BadNumber => k_is)
    (case e3_BadNumber => k_is)
    (case e4_BadNumber => k_is)
    (case e5_BadNumber => k_is)
    (case e6_BadNumber => k_is)
    (case is_BadNumber_BadNumber => first | k_is | kit_is)
    (case is_BadNumber_BadRow => first | k_is | kit_is)
    (case is_BadNumber_BadTable => first | k_is | kit_is)
    (case is_BadNumber_BadQuadruple => first | k_is | kit_is)
    (case is_BadNumber_BadWord => first | k_is | kit_is)
    (case is_BadNumber_BadName => first | k_is | kit_is)
    (case is_BadNumber_BadText => first | k_is | kit_is)
    (case is_BadNumber_NoPlace => first | k_is | kit_is)
    (case is_BadNumber_NoName => first | k_is | kit_is)
    (case is_BadNumber_TakenName => first | k_is | kit_is)
    (case is_BadNumber_Unlike => first | k_is | kit_is)
    (case is_BadNumber_NotThere => first | k_is | kit_is)
    (case is_BadNumber_TooMany => first | k_is | kit_is)
    (case is_BadNumber_NotKept => first | k_is | kit_is)
    (case is_BadNumber_NothingToUndo => first | k_is | kit_is)
    (case is_BadNumber_NothingToRedo => first | k_is | kit_is)
    (case iv_BadNumber => first | k_is | kit_is)
    (case eb_BadNumber => k_is)
    (case xn_BadNumber_what => k_is)
    (case xn_BadNumber_number => k_is)
    (case b1 => k_is)
    (case b2 => k_is)
    (case b3 => k_is)
    (case o1 => k_is)
    (case o2 => k_is)
    (case n_gcd => k_is)
    (case z_list => k_is)
    (case z_int => k_is)
    (case z_len => k_is)
    (case z_range => k_is)
    (case z_ValueError => k_is)
    (case z_isinstance => k_is)
    (case z_repr => k_is)
    (case z_bool => k_is)
    (case z_sum => k_is)
    (case z_max => k_is)
    (case z_tuple => k_is)
    (case z_sorted => k_is)
    (case z_abs => k_is)
    (case nt => first | kernel_rfl | k_is)
    (case hd => exact codeHd_of_K KX (by kernel_rfl))
#print axioms PySem.Challenge.cw_fourbends_k68_whole_triples_holds
