/- The plain law of quotes: prices, what is cheapest, and how many one can have. No condition. -/
import Derived.Test.YtfnnonoffiljhaaBaC
set_option linter.unusedSimpArgs false
set_option linter.unusedVariables false
namespace Go.Proofs.Ytfnnonoffiljhaa.Tab
open Go Go.Abs Go.Proofs

/-- A quote. -/
structure PQ where
  area : Int
  board : Int
  waste : Int
  tool : Int
  setup : Int
  run : Int
  work : Int
  pallet : Int
  freight : Int
  margin : Int
  steps : List (Int × Int)
/-- A quotient, rounded up. -/
def upI (n b : Int) : Int := (n + b - 1) / b
theorem up_ref {n b : Int} (hb : 0 < b) : (if n % b = 0 then n / b else n / b + 1) = upI n b := by
  unfold upI
  have h := Int.emod_add_mul_ediv n b
  have h0 := Int.emod_nonneg n (Int.ne_of_gt hb)
  have h1 := Int.emod_lt_of_pos n hb
  have e : n + b - 1 = (n % b + b - 1) + b * (n / b) := by omega
  rw [e, Int.add_mul_ediv_left _ _ (Int.ne_of_gt hb)]
  split
  · rename_i hz
    have e3 : (n % b + b - 1) / b = 0 := Int.ediv_eq_zero_of_lt (by omega) (by omega)
    omega
  · rename_i hz
    have e2 : n % b + b - 1 = (n % b - 1) + b * 1 := by omega
    have e3 : (n % b - 1) / b = 0 := Int.ediv_eq_zero_of_lt (by omega) (by omega)
    rw [e2, Int.add_mul_ediv_left _ _ (Int.ne_of_gt hb)]
    omega
theorem up_mono {n m b : Int} (hb : 0 < b) (h : n ≤ m) : upI n b ≤ upI m b := Int.ediv_le_ediv hb (by omega)
theorem up_nonneg {n b : Int} (hb : 0 < b) (h : 0 ≤ n) : 0 ≤ upI n b := Int.ediv_nonneg (by omega) (by omega)
/-- It is the least number that is not below the quotient. -/
theorem up_spec {n b : Int} (hb : 0 < b) : n ≤ upI n b * b ∧ (upI n b - 1) * b < n := by
  unfold upI
  have h := Int.emod_add_mul_ediv (n + b - 1) b
  have h0 := Int.emod_nonneg (n + b - 1) (Int.ne_of_gt hb)
  have h1 := Int.emod_lt_of_pos (n + b - 1) hb
  rw [Int.mul_comm b] at h
  rw [Int.sub_mul]
  omega
theorem up_le {n b B : Int} (hb : 0 < b) (h : n ≤ B * b) : upI n b ≤ B := by
  unfold upI
  have : n + b - 1 < (B + 1) * b := by rw [Int.add_mul]; omega
  have := Int.ediv_lt_of_lt_mul hb this
  omega
theorem mul_bd {a b A B : Int} (ha : 0 ≤ a) (hA : a ≤ A) (hb : 0 ≤ b) (hB : b ≤ B) : 0 ≤ a * b ∧ a * b ≤ A * B :=
  ⟨Int.mul_nonneg ha hb, Int.mul_le_mul hA hB hb (Int.le_trans ha hA)⟩

def inI (lo n hi : Int) : Bool := decide (lo ≤ n) && decide (n ≤ hi)
def ascI : List (Int × Int) → Bool
  | a :: b :: t => decide (a.1 < b.1) && ascI (b :: t)
  | _ => true
def stepOkI (s : Int × Int) : Bool := inI 1 s.1 100000 && inI 0 s.2 900
def argsI (q : PQ) : Bool := inI 1 q.area 100000 && inI 0 q.board 100000 && inI 0 q.waste 500 && inI 0 q.tool 1000000 && inI 0 q.setup 1000000 && inI 0 q.work 1000000 && inI 0 q.freight 1000000 && inI 1 q.run 100000 && inI 1 q.pallet 100000 && inI 0 q.margin 1000
/-- The error of a quote. -/
def checkQ (q : PQ) : Int := if 6 < q.steps.length then 5 else if !(q.steps.all stepOkI && ascI q.steps) then 4 else if !argsI q then 2 else 0

/-- What is taken off. -/
def offI (steps : List (Int × Int)) (n : Int) : Int := steps.foldl (fun o s => if s.1 ≤ n then s.2 else o) 0
structure PP where
  board : Int
  tool : Int
  setup : Int
  work : Int
  freight : Int
def partsI (q : PQ) (n : Int) : PP := ⟨upI (n * q.area * (1000 + q.waste) * q.board) 10000000000, q.tool, q.setup * upI n q.run, upI (q.work * n) 1000, q.freight * upI n q.pallet⟩
def costI (p : PP) : Int := p.board + p.tool + p.setup + p.work + p.freight
def priceI (q : PQ) (n : Int) : Int := upI (costI (partsI q n) * (1000 + q.margin) * (1000 - offI q.steps n)) 1000000
def countI (n : Int) : Prop := 1 ≤ n ∧ n ≤ 100000

structure ArgsOk (q : PQ) : Prop where
  area : 1 ≤ q.area ∧ q.area ≤ 100000
  board : 0 ≤ q.board ∧ q.board ≤ 100000
  waste : 0 ≤ q.waste ∧ q.waste ≤ 500
  tool : 0 ≤ q.tool ∧ q.tool ≤ 1000000
  setup : 0 ≤ q.setup ∧ q.setup ≤ 1000000
  work : 0 ≤ q.work ∧ q.work ≤ 1000000
  freight : 0 ≤ q.freight ∧ q.freight ≤ 1000000
  run : 1 ≤ q.run ∧ q.run ≤ 100000
  pallet : 1 ≤ q.pallet ∧ q.pallet ≤ 100000
  margin : 0 ≤ q.margin ∧ q.margin ≤ 1000
theorem args_ok {q : PQ} (h : argsI q = true) : ArgsOk q := by
  simp only [argsI, inI, Bool.and_eq_true, decide_eq_true_eq] at h
  obtain ⟨⟨⟨⟨⟨⟨⟨⟨⟨h1, h2⟩, h3⟩, h4⟩, h5⟩, h6⟩, h7⟩, h8⟩, h9⟩, h10⟩ := h
  exact ⟨h1, h2, h3, h4, h5, h6, h7, h8, h9, h10⟩
theorem check_ok {q : PQ} (h : checkQ q = 0) : ArgsOk q ∧ q.steps.length ≤ 6 ∧ (∀ s ∈ q.steps, (1 ≤ s.1 ∧ s.1 ≤ 100000) ∧ 0 ≤ s.2 ∧ s.2 ≤ 900) ∧ ascI q.steps = true := by
  unfold checkQ at h
  split at h
  · simp at h
  rename_i hl
  split at h
  · simp at h
  rename_i hs
  split at h
  · simp at h
  rename_i ha
  simp only [Bool.not_eq_true', Bool.not_eq_false, Bool.and_eq_true, List.all_eq_true, stepOkI, inI, decide_eq_true_eq] at hs ha
  exact ⟨args_ok ha, by omega, fun s h => hs.1 s h, hs.2⟩

theorem off_bd {l : List (Int × Int)} (h : ∀ s ∈ l, (1 ≤ s.1 ∧ s.1 ≤ 100000) ∧ 0 ≤ s.2 ∧ s.2 ≤ 900) (n : Int) : 0 ≤ offI l n ∧ offI l n ≤ 900 := by
  unfold offI
  have : ∀ (l : List (Int × Int)) (o : Int), (∀ s ∈ l, (1 ≤ s.1 ∧ s.1 ≤ 100000) ∧ 0 ≤ s.2 ∧ s.2 ≤ 900) → 0 ≤ o ∧ o ≤ 900 → 0 ≤ l.foldl (fun o s => if s.1 ≤ n then s.2 else o) o ∧ l.foldl (fun o s => if s.1 ≤ n then s.2 else o) o ≤ 900 := by
    intro l
    induction l with
    | nil => intro o _ ho; exact ho
    | cons s l ih =>
      intro o h ho
      simp only [List.foldl_cons]
      refine ih _ (fun t ht => h t (by simp [ht])) ?_
      split
      · exact (h s (by simp)).2
      · exact ho
  exact this l 0 h (by omega)

/-- The bounds of what is computed on the way. -/
structure PartsBd (q : PQ) (n : Int) : Prop where
  a1 : 0 ≤ n * q.area ∧ n * q.area ≤ 10000000000
  a2 : 0 ≤ n * q.area * (1000 + q.waste) ∧ n * q.area * (1000 + q.waste) ≤ 15000000000000
  a3 : 0 ≤ n * q.area * (1000 + q.waste) * q.board ∧ n * q.area * (1000 + q.waste) * q.board ≤ 1500000000000000000
  runs : 0 ≤ upI n q.run ∧ upI n q.run ≤ 100000
  pals : 0 ≤ upI n q.pallet ∧ upI n q.pallet ≤ 100000
  wn : 0 ≤ q.work * n ∧ q.work * n ≤ 100000000000
  board : 0 ≤ (partsI q n).board ∧ (partsI q n).board ≤ 150000000
  tool : 0 ≤ (partsI q n).tool ∧ (partsI q n).tool ≤ 1000000
  setup : 0 ≤ (partsI q n).setup ∧ (partsI q n).setup ≤ 100000000000
  work : 0 ≤ (partsI q n).work ∧ (partsI q n).work ≤ 100000000
  freight : 0 ≤ (partsI q n).freight ∧ (partsI q n).freight ≤ 100000000000
  cost : 0 ≤ costI (partsI q n) ∧ costI (partsI q n) ≤ 200251000000
theorem up_n {n b : Int} (hn : countI n) (hb : 1 ≤ b) : 0 ≤ upI n b ∧ upI n b ≤ 100000 := by
  unfold countI at hn
  refine ⟨up_nonneg (by omega) (by omega), up_le (by omega) ?_⟩
  have := Int.mul_le_mul (show (100000 : Int) ≤ 100000 by decide) hb (by decide) (by decide)
  omega
theorem parts_bd {q : PQ} {n : Int} (h : ArgsOk q) (hn : countI n) : PartsBd q n := by
  have hn' := hn
  unfold countI at hn'
  have a1 := mul_bd (a := n) (b := q.area) (A := 100000) (B := 100000) (by omega) hn'.2 (by have := h.area; omega) h.area.2
  have a2 := mul_bd (b := 1000 + q.waste) (B := 1500) a1.1 a1.2 (by have := h.waste; omega) (by have := h.waste; omega)
  have a3 := mul_bd (b := q.board) (B := 100000) a2.1 a2.2 h.board.1 h.board.2
  have r := up_n hn h.run.1
  have p := up_n hn h.pallet.1
  have wn := mul_bd (a := q.work) (b := n) h.work.1 h.work.2 (by omega) hn'.2
  have s := mul_bd h.setup.1 h.setup.2 r.1 r.2
  have f := mul_bd h.freight.1 h.freight.2 p.1 p.2
  have b : 0 ≤ (partsI q n).board ∧ (partsI q n).board ≤ 150000000 := ⟨up_nonneg (by decide) a3.1, up_le (by decide) (by omega)⟩
  have w : 0 ≤ (partsI q n).work ∧ (partsI q n).work ≤ 100000000 := ⟨up_nonneg (by decide) wn.1, up_le (by decide) (by omega)⟩
  have t : 0 ≤ (partsI q n).tool ∧ (partsI q n).tool ≤ 1000000 := h.tool
  have s' : 0 ≤ (partsI q n).setup ∧ (partsI q n).setup ≤ 100000000000 := ⟨s.1, by have := s.2; show q.setup * upI n q.run ≤ _; omega⟩
  have f' : 0 ≤ (partsI q n).freight ∧ (partsI q n).freight ≤ 100000000000 := ⟨f.1, by have := f.2; show q.freight * upI n q.pallet ≤ _; omega⟩
  exact ⟨⟨a1.1, by omega⟩, ⟨a2.1, by omega⟩, ⟨a3.1, by omega⟩, r, p, ⟨wn.1, by omega⟩, b, t, s', w, f', by unfold costI; omega⟩
theorem price_bd {q : PQ} {n : Int} (h : checkQ q = 0) (hn : countI n) :
    (0 ≤ costI (partsI q n) * (1000 + q.margin) ∧ costI (partsI q n) * (1000 + q.margin) ≤ 400502000000000) ∧
    (0 ≤ costI (partsI q n) * (1000 + q.margin) * (1000 - offI q.steps n) ∧ costI (partsI q n) * (1000 + q.margin) * (1000 - offI q.steps n) ≤ 400502000000000000) ∧ 0 ≤ priceI q n ∧ priceI q n ≤ 400502000000 := by
  obtain ⟨ha, _, hs, _⟩ := check_ok h
  have b := parts_bd ha hn
  have o := off_bd hs n
  have c1 := mul_bd (b := 1000 + q.margin) (B := 2000) b.cost.1 b.cost.2 (by have := ha.margin; omega) (by have := ha.margin; omega)
  have c2 := mul_bd (b := 1000 - offI q.steps n) (B := 1000) c1.1 c1.2 (by omega) (by omega)
  exact ⟨⟨c1.1, by omega⟩, ⟨c2.1, by omega⟩, up_nonneg (by decide) c2.1, up_le (by decide) (by omega)⟩
/-- Between two steps more boxes cost no less. -/
theorem cost_mono {q : PQ} {n m : Int} (h : ArgsOk q) (hn : 1 ≤ n) (hm : n ≤ m) :
    (partsI q n).board ≤ (partsI q m).board ∧ (partsI q n).setup ≤ (partsI q m).setup ∧ (partsI q n).work ≤ (partsI q m).work ∧ (partsI q n).freight ≤ (partsI q m).freight := by
  have a := h.area; have b := h.board; have w := h.waste; have s := h.setup; have wk := h.work; have f := h.freight; have r := h.run; have p := h.pallet
  refine ⟨up_mono (by decide) ?_, Int.mul_le_mul_of_nonneg_left (up_mono (by omega) hm) s.1, up_mono (by decide) (Int.mul_le_mul_of_nonneg_left hm wk.1), Int.mul_le_mul_of_nonneg_left (up_mono (by omega) hm) f.1⟩
  exact Int.mul_le_mul_of_nonneg_right (Int.mul_le_mul_of_nonneg_right (Int.mul_le_mul_of_nonneg_right hm (by omega)) (by omega)) b.1
theorem price_mono {q : PQ} {n m : Int} (h : checkQ q = 0) (hn : 1 ≤ n) (hm : n ≤ m) (ho : offI q.steps n = offI q.steps m) : priceI q n ≤ priceI q m := by
  obtain ⟨ha, _, hs, _⟩ := check_ok h
  have c := cost_mono ha hn hm
  have o := off_bd hs m
  unfold priceI
  rw [ho]
  refine up_mono (by decide) (Int.mul_le_mul_of_nonneg_right (Int.mul_le_mul_of_nonneg_right ?_ (by have := ha.margin; omega)) (by omega))
  unfold costI
  have e : (partsI q n).tool = (partsI q m).tool := rfl
  omega

/-- The greatest number up to one that costs no more than some money. -/
def mostI (f : Int → Int) (money : Int) : Nat → Int
  | 0 => 0
  | n + 1 => if money < f (n + 1 : Nat) then mostI f money n else (n + 1 : Nat)
theorem mostI_bd (f : Int → Int) (money : Int) : ∀ n : Nat, 0 ≤ mostI f money n ∧ mostI f money n ≤ n
  | 0 => by simp [mostI]
  | n + 1 => by
    have := mostI_bd f money n
    unfold mostI
    split <;> omega
theorem mostI_uniq (f : Int → Int) (money : Int) : ∀ (n : Nat) (r : Int), 0 ≤ r → r ≤ n → (r = 0 ∨ f r ≤ money) → (∀ m, r < m → m ≤ n → money < f m) → mostI f money n = r
  | 0, r, h0, h1, _, _ => by simp [mostI]; omega
  | n + 1, r, h0, h1, h2, h3 => by
    unfold mostI
    by_cases hr : r = (n + 1 : Nat)
    · rw [if_neg]
      · exact hr.symm
      · rw [← hr]; omega
    · rw [if_pos (h3 _ (by omega) (by omega))]
      exact mostI_uniq f money n r h0 (by omega) h2 fun m a b => h3 m a (by omega)
theorem mostI_spec (f : Int → Int) (money : Int) : ∀ n : Nat, (mostI f money n = 0 ∨ f (mostI f money n) ≤ money) ∧ ∀ m, mostI f money n < m → m ≤ n → money < f m
  | 0 => by simp [mostI]; omega
  | n + 1 => by
    have ih := mostI_spec f money n
    unfold mostI
    split
    · rename_i hc
      refine ⟨ih.1, fun m a b => ?_⟩
      by_cases hm : m = (n + 1 : Nat)
      · rw [hm]; exact hc
      · exact ih.2 m a (by omega)
    · rename_i hc
      exact ⟨.inr (by omega), fun m a b => by omega⟩

/-- The cheapest one. -/
def cheapI (f : Int → Int) : Nat → Int → Int → Int → Int
  | 0, _, best, _ => best
  | k + 1, n, best, least => if f n * best < least * n then cheapI f k (n + 1) n (f n) else cheapI f k (n + 1) best least
theorem cheap_first (f : Int → Int) (k : Nat) (n : Int) : cheapI f (k + 1) n n (f n) = cheapI f k (n + 1) n (f n) := by
  show (if f n * n < f n * n then _ else _) = _
  rw [if_neg (Int.lt_irrefl _)]

theorem off_keep {n : Int} : ∀ (l : List (Int × Int)) (o : Int), (∀ t ∈ l, n < t.1) → l.foldl (fun o s => if s.1 ≤ n then s.2 else o) o = o
  | [], _, _ => rfl
  | t :: l, o, h => by
    have := h t (by simp)
    simp only [List.foldl_cons]
    rw [if_neg (by omega)]
    exact off_keep l o fun u hu => h u (by simp [hu])
theorem off_none {n : Int} {l : List (Int × Int)} (h : ∀ t ∈ l, n < t.1) : offI l n = 0 := off_keep l 0 h
theorem off_mid {n : Int} (l1 l2 : List (Int × Int)) (s : Int × Int) (h1 : s.1 ≤ n) (h2 : ∀ t ∈ l2, n < t.1) : offI (l1 ++ s :: l2) n = s.2 := by
  unfold offI
  rw [List.foldl_append, List.foldl_cons, if_pos h1]
  exact off_keep l2 _ h2
theorem asc_cons {s : Int × Int} : ∀ {l : List (Int × Int)}, ascI (s :: l) = true → (∀ t ∈ l, s.1 < t.1) ∧ ascI l = true
  | [], _ => ⟨by simp, rfl⟩
  | a :: l, h => by
    simp only [ascI, Bool.and_eq_true, decide_eq_true_eq] at h
    have := asc_cons h.2
    exact ⟨fun t ht => by
      rcases List.mem_cons.1 ht with rfl | ht
      · exact h.1
      · have := this.1 t ht; omega, h.2⟩
theorem asc_app {l2 : List (Int × Int)} : ∀ {l1 : List (Int × Int)}, ascI (l1 ++ l2) = true → ascI l2 = true
  | [], h => h
  | _ :: l1, h => asc_app (l1 := l1) (asc_cons h).2
theorem asc_drop {l : List (Int × Int)} (h : ascI l = true) (k : Nat) : ascI (l.drop k) = true := by
  rw [← List.take_append_drop k l] at h
  exact asc_app h
end Go.Proofs.Ytfnnonoffiljhaa.Tab

namespace Go.Proofs.Ytfnnonoffiljhaa.Tab
open Go Go.Abs Go.Proofs

/-- The greatest common divisor, as the loops find it. -/
def gcdI (a b : Int) : Int := (Nat.gcd a.toNat b.toNat : Nat)
theorem gcdI_step {a b : Int} (ha : 0 ≤ a) (hb : 0 < b) : gcdI b (a.tmod b) = gcdI a b := by
  unfold gcdI
  have e : (a.tmod b).toNat = a.toNat % b.toNat := by
    rw [Int.tmod_eq_emod_of_nonneg ha]
    obtain ⟨x, rfl⟩ := Int.eq_ofNat_of_zero_le ha
    obtain ⟨y, rfl⟩ := Int.eq_ofNat_of_zero_le (show 0 ≤ b by omega)
    rw [← Int.natCast_emod]
    rfl
  rw [e, Nat.gcd_comm b.toNat, ← Nat.gcd_rec, Nat.gcd_comm]
theorem gcdI_zero {a : Int} (ha : 0 ≤ a) : gcdI a 0 = a := by unfold gcdI; simp; omega
theorem gcdI_facts {a n : Int} (ha : 0 ≤ a) (hn : 1 ≤ n) : 1 ≤ gcdI a n ∧ ∃ x y, a = x * gcdI a n ∧ n = y * gcdI a n ∧ 0 ≤ x ∧ 1 ≤ y := by
  have hp : 0 < Nat.gcd a.toNat n.toNat := Nat.gcd_pos_of_pos_right _ (by omega)
  obtain ⟨x, hx⟩ := Nat.gcd_dvd_left a.toNat n.toNat
  obtain ⟨y, hy⟩ := Nat.gcd_dvd_right a.toNat n.toNat
  unfold gcdI
  generalize Nat.gcd a.toNat n.toNat = g at *
  have h1 : a = (x : Int) * g := by rw [← Int.natCast_mul, Nat.mul_comm, ← hx]; omega
  have h2 : n = (y : Int) * g := by rw [← Int.natCast_mul, Nat.mul_comm, ← hy]; omega
  refine ⟨by omega, x, y, h1, h2, by omega, ?_⟩
  rcases Nat.eq_zero_or_pos y with h | h
  · subst h; simp at h2; omega
  · omega
/-- A fraction in lowest terms. -/
theorem lowest {a n g : Int} (hg : 1 ≤ g) {x y : Int} (h1 : a = x * g) (h2 : n = y * g) (hx : 0 ≤ x) (hy : 1 ≤ y) :
    a / g = x ∧ n / g = y ∧ y ≤ n ∧ x ≤ a ∧ x * n = a * y := by
  have e1 : a / g = x := by rw [h1]; exact Int.mul_ediv_cancel _ (by omega)
  have e2 : n / g = y := by rw [h2]; exact Int.mul_ediv_cancel _ (by omega)
  refine ⟨e1, e2, ?_, ?_, ?_⟩
  · rw [h2]; have := Int.mul_le_mul_of_nonneg_left hg (show 0 ≤ y by omega); omega
  · rw [h1]; have := Int.mul_le_mul_of_nonneg_left hg hx; omega
  · rw [h1, h2, Int.mul_assoc, Int.mul_comm g y]

/-- Parts of twice as many boxes. -/
theorem up_twice {n b : Int} (hb : 0 < b) : upI (2 * n) b ≤ 2 * upI n b := by
  refine up_le hb ?_
  have := (up_spec (n := n) hb).1
  rw [Int.mul_assoc]; omega
theorem cost_twice {q : PQ} {n : Int} (h : ArgsOk q) (hn : 1 ≤ n) : costI (partsI q (2 * n)) ≤ 2 * costI (partsI q n) ∧ costI (partsI q n) ≤ costI (partsI q (2 * n)) := by
  have c := cost_mono h hn (show n ≤ 2 * n by omega)
  have e1 : upI (2 * n * q.area * (1000 + q.waste) * q.board) 10000000000 ≤ 2 * upI (n * q.area * (1000 + q.waste) * q.board) 10000000000 := by
    have : 2 * n * q.area * (1000 + q.waste) * q.board = 2 * (n * q.area * (1000 + q.waste) * q.board) := by simp only [Int.mul_assoc]
    rw [this]; exact up_twice (by decide)
  have e2 : q.setup * upI (2 * n) q.run ≤ 2 * (q.setup * upI n q.run) := by
    have := Int.mul_le_mul_of_nonneg_left (up_twice (n := n) (b := q.run) (by have := h.run; omega)) h.setup.1
    rw [Int.mul_left_comm] at this; exact this
  have e3 : upI (q.work * (2 * n)) 1000 ≤ 2 * upI (q.work * n) 1000 := by
    rw [Int.mul_left_comm]; exact up_twice (by decide)
  have e4 : q.freight * upI (2 * n) q.pallet ≤ 2 * (q.freight * upI n q.pallet) := by
    have := Int.mul_le_mul_of_nonneg_left (up_twice (n := n) (b := q.pallet) (by have := h.pallet; omega)) h.freight.1
    rw [Int.mul_left_comm] at this; exact this
  have ht := h.tool
  unfold costI at *
  simp only [partsI] at *
  constructor <;> omega
/-- A rate of a rounded quotient. -/
theorem rate_up {s n b : Int} (hs : 0 ≤ s) (hb : 1 ≤ b) : n * s ≤ s * upI n b * b ∧ s * upI n b * b ≤ (n + b - 1) * s := by
  have h := up_spec (n := n) (b := b) (by omega)
  rw [Int.sub_mul] at h
  have h1 := Int.mul_le_mul_of_nonneg_left h.1 hs
  have h2 := Int.mul_le_mul_of_nonneg_left (show upI n b * b ≤ n + b - 1 by omega) hs
  rw [← Int.mul_assoc] at h1 h2
  rw [Int.mul_comm n s, Int.mul_comm (n + b - 1) s]
  exact ⟨h1, h2⟩
theorem price_low {c m o : Int} (hc : 0 ≤ c) (hm : 0 ≤ m) (ho : 0 ≤ o) : c * o ≤ upI (c * (1000 + m) * o) 1000000 * 1000 := by
  have h := (up_spec (n := c * (1000 + m) * o) (b := 1000000) (by decide)).1
  have h1 : c * o * 1000 ≤ c * (1000 + m) * o := by
    have : c * (1000 + m) * o = c * o * 1000 + c * o * m := by rw [Int.mul_assoc, Int.mul_comm (1000 + m) o, ← Int.mul_assoc, Int.mul_add]
    have := Int.mul_nonneg (Int.mul_nonneg hc ho) hm
    omega
  omega
theorem share {m b n : Int} (hm : 0 ≤ m) (hb : 0 ≤ b) (hbn : b ≤ n) (hn : 1 ≤ n) : 0 ≤ m * b / n ∧ m * b / n ≤ m ∧ m * b / n * n ≤ m * b ∧ m * b < (m * b / n + 1) * n := by
  have h0 := Int.mul_nonneg hm hb
  have h1 := Int.mul_le_mul_of_nonneg_left hbn hm
  have h2 := Int.emod_add_mul_ediv (m * b) n
  have h3 := Int.emod_nonneg (m * b) (show n ≠ 0 by omega)
  have h4 := Int.emod_lt_of_pos (m * b) (show 0 < n by omega)
  refine ⟨Int.ediv_nonneg h0 (by omega), ?_, ?_, ?_⟩
  · have := Int.ediv_le_ediv (show 0 < n by omega) h1
    rw [Int.mul_ediv_cancel _ (show n ≠ 0 by omega)] at this
    exact this
  · rw [Int.mul_comm]; omega
  · rw [Int.add_mul, Int.mul_comm (m * b / n)]; omega

/-- What is cheapest. -/
theorem cheap_spec (f : Int → Int) (low : Int) (hlow : 1 ≤ low) : ∀ (k : Nat) (n best : Int), low ≤ best → best < n →
    (∀ m, low ≤ m → m < n → f best * m ≤ f m * best ∧ (m < best → f best * m < f m * best)) → (∀ m, 0 ≤ f m) →
    let r := cheapI f k n best (f best)
    low ≤ r ∧ r < n + k ∧ ∀ m, low ≤ m → m < n + k → f r * m ≤ f m * r ∧ (m < r → f r * m < f m * r)
  | 0, n, best, hb, hbn, h, _ => ⟨hb, by simpa [cheapI] using hbn, fun m a b => h m a (by simpa using b)⟩
  | k + 1, n, best, hb, hbn, h, h0 => by
    have e : n + ((k + 1 : Nat) : Int) = n + 1 + (k : Int) := by omega
    rw [e]
    simp only [cheapI]
    by_cases c : f n * best < f best * n
    · rw [if_pos c]
      refine cheap_spec f low hlow k (n + 1) n (by omega) (by omega) (fun m a b => ?_) h0
      by_cases hm : m = n
      · subst hm; exact ⟨Int.le_refl _, fun hh => by omega⟩
      · have h1 := (h m a (by omega)).1
        have key : f n * m < f m * n := by
          -- f n / n < f best / best ≤ f m / m
          have p1 : f n * best * m < f best * n * m := Int.mul_lt_mul_of_pos_right c (by omega)
          have p2 : f best * m * n ≤ f m * best * n := Int.mul_le_mul_of_nonneg_right h1 (by omega)
          have e1 : f best * n * m = f best * m * n := by rw [Int.mul_assoc, Int.mul_comm n m, ← Int.mul_assoc]
          have p3 : f n * best * m < f m * best * n := by omega
          have e2 : f n * best * m = f n * m * best := by rw [Int.mul_assoc, Int.mul_comm best m, ← Int.mul_assoc]
          have e3 : f m * best * n = f m * n * best := by rw [Int.mul_assoc, Int.mul_comm best n, ← Int.mul_assoc]
          rw [e2, e3] at p3
          exact Int.lt_of_mul_lt_mul_right p3 (by omega)
        exact ⟨by omega, fun _ => key⟩
    · rw [if_neg c]
      refine cheap_spec f low hlow k (n + 1) best hb (by omega) (fun m a b => ?_) h0
      by_cases hm : m = n
      · subst hm; exact ⟨by omega, fun hh => by omega⟩
      · exact h m a (by omega)
end Go.Proofs.Ytfnnonoffiljhaa.Tab

namespace Go.Proofs.Ytfnnonoffiljhaa.Tab
open Go Go.Abs Go.Proofs

/-- The steps of an offer. -/
def stepsFrom (at_ : Int) : List (Int × Int) → List (Int × Int)
  | [] => []
  | s :: l => (at_ + (1 + 7 * s.1), 2 * s.2) :: stepsFrom (at_ + (1 + 7 * s.1)) l
def ByteP (s : Int × Int) : Prop := (0 ≤ s.1 ∧ s.1 ≤ 255) ∧ 0 ≤ s.2 ∧ s.2 ≤ 255
theorem stepsFrom_len (at_ : Int) : ∀ l, (stepsFrom at_ l).length = l.length
  | [] => rfl
  | s :: l => by simp [stepsFrom, stepsFrom_len _ l]
theorem stepsFrom_ok : ∀ (l : List (Int × Int)) (at_ : Int), 0 ≤ at_ → (∀ s ∈ l, ByteP s) → at_ + 1786 * l.length ≤ 100000 →
    (∀ t ∈ stepsFrom at_ l, at_ < t.1 ∧ t.1 ≤ 100000 ∧ 0 ≤ t.2 ∧ t.2 ≤ 900) ∧ ascI (stepsFrom at_ l) = true
  | [], _, _, _, _ => ⟨by simp [stepsFrom], rfl⟩
  | s :: l, at_, h0, hb, hl => by
    have hs := hb s (by simp)
    unfold ByteP at hs
    simp only [List.length_cons] at hl
    have ih := stepsFrom_ok l (at_ + (1 + 7 * s.1)) (by omega) (fun t ht => hb t (by simp [ht])) (by omega)
    simp only [stepsFrom]
    refine ⟨fun t ht => ?_, ?_⟩
    · rcases List.mem_cons.1 ht with rfl | ht
      · simp only; omega
      · have := ih.1 t ht; omega
    · cases l with
      | nil => rfl
      | cons s2 l =>
        have h2 := ih.2
        simp only [stepsFrom] at h2 ⊢
        simp only [ascI, Bool.and_eq_true, decide_eq_true_eq] at h2 ⊢
        have := hb s2 (by simp)
        unfold ByteP at this
        exact ⟨by omega, h2⟩
/-- A quote in bytes. -/
def offerQ (a b w m t s r p k f : Int) (l : List (Int × Int)) : PQ := ⟨1 + a, b, w, 3 * t, s, 1 + 10 * r, k, 1 + 3 * p, f, 3 * m, stepsFrom 0 l⟩
theorem offer_ok {a b w m t s r p k f : Int} {l : List (Int × Int)} (ha : 0 ≤ a ∧ a ≤ 65535) (hb : 0 ≤ b ∧ b ≤ 65535) (hw : 0 ≤ w ∧ w ≤ 255) (hm : 0 ≤ m ∧ m ≤ 255) (ht : 0 ≤ t ∧ t ≤ 65535) (hs : 0 ≤ s ∧ s ≤ 65535) (hr : 0 ≤ r ∧ r ≤ 255) (hp : 0 ≤ p ∧ p ≤ 255)
    (hk : 0 ≤ k ∧ k ≤ 65535) (hf : 0 ≤ f ∧ f ≤ 65535) (hl : l.length ≤ 3) (hby : ∀ s ∈ l, ByteP s) : checkQ (offerQ a b w m t s r p k f l) = 0 := by
  have h1 := stepsFrom_ok l 0 (Int.le_refl _) hby (by omega)
  have h2 := stepsFrom_len 0 l
  unfold checkQ
  rw [if_neg (by show ¬ 6 < (stepsFrom 0 l).length; omega)]
  have h3 : ((offerQ a b w m t s r p k f l).steps.all stepOkI && ascI (offerQ a b w m t s r p k f l).steps) = true := by
    simp only [Bool.and_eq_true, List.all_eq_true]
    refine ⟨fun x hx => ?_, h1.2⟩
    have := h1.1 x hx
    simp only [stepOkI, inI, Bool.and_eq_true, decide_eq_true_eq]; omega
  rw [h3]
  have h4 : argsI (offerQ a b w m t s r p k f l) = true := by
    have e : argsI (offerQ a b w m t s r p k f l) = (inI 1 (1 + a) 100000 && inI 0 b 100000 && inI 0 w 500 && inI 0 (3 * t) 1000000 && inI 0 s 1000000 && inI 0 k 1000000 && inI 0 f 1000000 && inI 1 (1 + 10 * r) 100000 && inI 1 (1 + 3 * p) 100000 && inI 0 (3 * m) 1000) := rfl
    rw [e]
    simp only [inI, Bool.and_eq_true, decide_eq_true_eq]
    omega
  rw [h4]
  rfl

/-- What is taken off, and how many steps are reached. -/
def offGo (n : Int) : List (Int × Int) → Int → Int × Int → Int × Int
  | [], _, o => o
  | s :: l, i, o => offGo n l (i + 1) (if s.1 ≤ n then (s.2, i + 1) else o)
theorem offGo_fst (n : Int) : ∀ (l : List (Int × Int)) (i : Int) (o : Int × Int), (offGo n l i o).1 = l.foldl (fun o s => if s.1 ≤ n then s.2 else o) o.1
  | [], _, _ => rfl
  | s :: l, i, o => by
    simp only [offGo, List.foldl_cons, offGo_fst n l]
    congr 1
    split <;> rfl
theorem offGo_cases (n : Int) : ∀ (l : List (Int × Int)) (i : Int) (o : Int × Int), offGo n l i o = o ∨ ∃ (k : Nat) (s : Int × Int), l[k]? = some s ∧ offGo n l i o = (s.2, i + k + 1)
  | [], _, _ => .inl rfl
  | s :: l, i, o => by
    simp only [offGo]
    rcases offGo_cases n l (i + 1) (if s.1 ≤ n then (s.2, i + 1) else o) with h | ⟨k, t, hk, h⟩
    · rw [h]
      split
      · exact .inr ⟨0, s, rfl, by simp⟩
      · exact .inl rfl
    · exact .inr ⟨k + 1, t, by simpa using hk, by rw [h]; congr 1; omega⟩
theorem off_same {n m : Int} {l : List (Int × Int)} (h : (offGo n l 0 (0, 0)).2 = (offGo m l 0 (0, 0)).2) : offI l n = offI l m := by
  have e1 := offGo_fst n l 0 (0, 0)
  have e2 := offGo_fst m l 0 (0, 0)
  unfold offI
  rw [← e1, ← e2]
  rcases offGo_cases n l 0 (0, 0) with a | ⟨k, s, hk, a⟩ <;> rcases offGo_cases m l 0 (0, 0) with b | ⟨j, t, hj, b⟩ <;> rw [a, b] at h ⊢ <;> simp only at h ⊢
  · omega
  · omega
  · obtain rfl : k = j := by omega
    rw [hk] at hj
    simp at hj
    rw [hj]
theorem offGo_eq (n : Int) (l : List (Int × Int)) : (offGo n l 0 (0, 0)).1 = offI l n := offGo_fst n l 0 (0, 0)
end Go.Proofs.Ytfnnonoffiljhaa.Tab

namespace Go.Proofs.Ytfnnonoffiljhaa.Tab
open Go Go.Abs Go.Proofs

theorem W_fit {n : Int} (h : -9000000000000000000 ≤ n ∧ n ≤ 9000000000000000000) : W .i64 n = n := by
  simp only [W]; rw [if_pos (by omega)]
theorem W_fit0 {n m : Int} (h : 0 ≤ n ∧ n ≤ m) (hm : m ≤ 9000000000000000000) : W .i64 n = n := W_fit (by omega)
def rP (s : Int × Int) : List AVal := [I s.1, I s.2]
def vQ (q : PQ) (x : AVal) : AVal := .agg [I q.area, I q.board, I q.waste, I q.tool, I q.setup, I q.run, I q.work, I q.pallet, I q.freight, I q.margin, x]
def zQ : AVal := .agg [I 0, I 0, I 0, I 0, I 0, I 0, I 0, I 0, I 0, I 0, .nils]
def vP (p : PP) : AVal := .agg [I p.board, I p.tool, I p.setup, I p.work, I p.freight]
def zP : PP := ⟨0, 0, 0, 0, 0⟩
def dQu : AVal → Option PQ
  | .agg [.int .i64 a, .int .i64 b, .int .i64 w, .int .i64 t, .int .i64 s, .int .i64 r, .int .i64 k, .int .i64 p, .int .i64 f, .int .i64 m, x] => match rowsV x with
    | some rs => match optAll dI2 rs with
      | some st => some ⟨a, b, w, t, s, r, k, p, f, m, st⟩
      | none => none
    | none => none
  | _ => none
theorem dQu_eq {v : AVal} {q : PQ} (h : dQu v = some q) : ∃ x, v = vQ q x ∧ rowsV x = some (q.steps.map rP) := by
  unfold dQu at h
  split at h <;> (try simp at h)
  rename_i x
  split at h <;> (try simp at h)
  rename_i rs hx
  split at h <;> (try simp at h)
  rename_i st hs
  subst h
  have e := optAll_eq dI2_eq hs
  subst e
  exact ⟨x, rfl, hx⟩
theorem dQu_vQ {q : PQ} {x : AVal} (hx : rowsV x = some (q.steps.map rP)) : dQu (vQ q x) = some q := by
  unfold dQu vQ
  simp only [hx]
  rw [optAll_map (d := dI2) (enc := rP) (fun _ => rfl)]
def dQ (v : AVal) : Option PQ := match dQu v with
  | some q => if q.steps.length ≤ 1000 then some q else none
  | none => none
theorem dQ_eq {v : AVal} {q : PQ} (h : dQ v = some q) : ∃ x, v = vQ q x ∧ rowsV x = some (q.steps.map rP) ∧ q.steps.length ≤ 1000 := by
  unfold dQ at h
  split at h <;> simp at h
  rename_i q' hq
  obtain ⟨hl, rfl⟩ := h
  obtain ⟨x, e, hx⟩ := dQu_eq hq
  exact ⟨x, e, hx, hl⟩
theorem dQ_vQ {q : PQ} {x : AVal} (hx : rowsV x = some (q.steps.map rP)) (hl : q.steps.length ≤ 1000) : dQ (vQ q x) = some q := by
  unfold dQ
  rw [dQu_vQ hx]
  simp [hl]

/-- The error of a quote or of a number of boxes. -/
def errN (q : PQ) (n : Int) : Int := if checkQ q = 0 then (if 1 ≤ n ∧ n ≤ 100000 then 0 else 3) else checkQ q
def oOpen : List AVal → Option AVal
  | [v] => match dQ v with
    | some q => some (.tup [if checkQ q = 0 then v else zQ, I (checkQ q)])
    | none => none
  | _ => none
def oCheck : List AVal → Option AVal
  | [v] => match dQ v with
    | some q => some (I (checkQ q))
    | none => none
  | _ => none
def oCheckR : List AVal → Option AVal
  | [v] => match dQu v with
    | some q => some (I (checkQ q))
    | none => none
  | _ => none
def oOpenN : List AVal → Option AVal
  | [v, .int .i64 n] => match dQ v with
    | some q => some (.tup [if checkQ q = 0 then v else zQ, I (errN q n)])
    | none => none
  | _ => none
def oUp : List AVal → Option AVal
  | [.int .i64 n, .int .i64 b] => if (0 ≤ n ∧ n ≤ 4000000000000000000) ∧ 1 ≤ b ∧ b ≤ 10000000000 then some (I (upI n b)) else none
  | _ => none
def oParts : List AVal → Option AVal
  | [v, .int .i64 n] => match dQ v with
    | some q => if checkQ q = 0 ∧ 1 ≤ n ∧ n ≤ 100000 then some (vP (partsI q n)) else none
    | none => none
  | _ => none
def oOff : List AVal → Option AVal
  | [v, .int .i64 n] => match dQ v with
    | some q => if checkQ q = 0 then some (I (offI q.steps n)) else none
    | none => none
  | _ => none
def oCost : List AVal → Option AVal
  | [.agg [.int .i64 a, .int .i64 b, .int .i64 c, .int .i64 d, .int .i64 e]] => if (0 ≤ a ∧ a ≤ 1000000000000) ∧ (0 ≤ b ∧ b ≤ 1000000000000) ∧ (0 ≤ c ∧ c ≤ 1000000000000) ∧ (0 ≤ d ∧ d ≤ 1000000000000) ∧ (0 ≤ e ∧ e ≤ 1000000000000) then some (I (a + b + c + d + e)) else none
  | _ => none
def oPrice : List AVal → Option AVal
  | [v, .int .i64 n] => match dQ v with
    | some q => if checkQ q = 0 ∧ 1 ≤ n ∧ n ≤ 100000 then some (I (priceI q n)) else none
    | none => none
  | _ => none
def oQuote : List AVal → Option AVal
  | [v, .int .i64 n] => match dQ v with
    | some q => some (.tup [vP (if errN q n = 0 then partsI q n else zP), I (if errN q n = 0 then priceI q n else 0), I (errN q n)])
    | none => none
  | _ => none
def oGcd : List AVal → Option AVal
  | [.int .i64 a, .int .i64 b] => if 0 ≤ a ∧ 0 ≤ b then some (I (gcdI a b)) else none
  | _ => none
def lowNum (a b : Int) : Int := a / gcdI a b
def lowDen (a b : Int) : Int := b / gcdI a b
def oLowest : List AVal → Option AVal
  | [.int .i64 a, .int .i64 b] => if 0 ≤ a ∧ 1 ≤ b then some (.agg [I (lowNum a b), I (lowDen a b)]) else none
  | _ => none
def oEach : List AVal → Option AVal
  | [v, .int .i64 n] => match dQ v with
    | some q => some (.tup [if errN q n = 0 then .agg [I (lowNum (priceI q n) n), I (lowDen (priceI q n) n)] else .agg [I 0, I 0], I (errN q n)])
    | none => none
  | _ => none
/-- The error of a span of numbers. -/
def errS (q : PQ) (l h : Int) : Int := if checkQ q = 0 then (if 1 ≤ l ∧ l ≤ h ∧ h ≤ 100000 then (if 5000 ≤ h - l then 8 else 0) else 3) else checkQ q
def cheapQ (q : PQ) (l h : Int) : Int := cheapI (priceI q) (h - l).toNat (l + 1) l (priceI q l)
def oCheapest : List AVal → Option AVal
  | [v, .agg [.int .i64 l, .int .i64 h]] => match dQ v with
    | some q => some (.tup [I (if errS q l h = 0 then cheapQ q l h else 0), I (errS q l h)])
    | none => none
  | _ => none
def oRefCheap : List AVal → Option AVal
  | [v, .agg [.int .i64 l, .int .i64 h]] => match dQ v with
    | some q => if checkQ q = 0 ∧ 1 ≤ l ∧ l ≤ h ∧ h ≤ 100000 then some (I (cheapQ q l h)) else none
    | none => none
  | _ => none
def mostQ (q : PQ) (money : Int) : Int := mostI (priceI q) money 100000
attribute [irreducible] mostQ
def oMost : List AVal → Option AVal
  | [v, .int .i64 m] => match dQ v with
    | some q => if checkQ q = 0 then some (I (mostQ q m)) else none
    | none => none
  | _ => none
def errB (q : PQ) (m : Int) : Int := if checkQ q = 0 then (if m < 0 then 9 else if mostQ q m = 0 then 7 else 0) else checkQ q
def oBudget : List AVal → Option AVal
  | [v, .int .i64 m] => match dQ v with
    | some q => some (.tup [I (if errB q m = 0 then mostQ q m else 0), I (errB q m)])
    | none => none
  | _ => none
def oMore : List AVal → Option AVal
  | [v, .int .i64 n] => match dQ v with
    | some q => some (.tup [I (if errN q n = 0 then mostQ q (priceI q n) else 0), I (errN q n)])
    | none => none
  | _ => none
def errC (q : PQ) (n bad : Int) : Int := if errN q n = 0 then (if 0 ≤ bad ∧ bad ≤ n then 0 else 7) else errN q n
def oCredit : List AVal → Option AVal
  | [v, .int .i64 n, .int .i64 bad] => match dQ v with
    | some q => some (.tup [I (if errC q n bad = 0 then priceI q n * bad / n else 0), I (if errC q n bad = 0 then priceI q n - priceI q n * bad / n else 0), I (errC q n bad)])
    | none => none
  | _ => none
/-- A quote of one's own. -/
def oOwnQ : List AVal → Option AVal
  | [v] => match dQ v with
    | some q => some (vQ q (.vl (q.steps.map rP) (q.steps.length == 0)))
    | none => none
  | _ => none
def oSameQ : List AVal → Option AVal
  | [v, w] => match dQ v, dQ w with
    | some q, some q' => if q.steps = q'.steps ∧ q.area = q'.area ∧ q.board = q'.board ∧ q.waste = q'.waste ∧ q.tool = q'.tool ∧ q.setup = q'.setup ∧ q.run = q'.run ∧ q.work = q'.work ∧ q.pallet = q'.pallet ∧ q.freight = q'.freight ∧ q.margin = q'.margin then some (.bool true) else none
    | _, _ => none
  | _ => none
end Go.Proofs.Ytfnnonoffiljhaa.Tab

namespace Go.Proofs.Ytfnnonoffiljhaa.Tab
open Go Go.Abs Go.Proofs

/-- What PriceFarthing compares of the parts. -/
structure FarP (q : PQ) (n : Int) (p : PP) : Prop where
  t : p.tool = q.tool
  b1 : ¬ p.board * 10000000000 < n * q.area * (1000 + q.waste) * q.board
  b2 : ¬ n * q.area * (1000 + q.waste) * q.board ≤ (p.board - 1) * 10000000000
  w1 : ¬ p.work * 1000 < n * q.work
  w2 : ¬ n * q.work ≤ (p.work - 1) * 1000
  s1 : ¬ p.setup * q.run < n * q.setup
  s2 : ¬ p.freight * q.pallet < n * q.freight
  s3 : ¬ (n + q.run - 1) * q.setup < p.setup * q.run
  s4 : ¬ (n + q.pallet - 1) * q.freight < p.freight * q.pallet
theorem far_parts {q : PQ} {n : Int} (h : ArgsOk q) : FarP q n (partsI q n) := by
  have b := up_spec (n := n * q.area * (1000 + q.waste) * q.board) (b := 10000000000) (by decide)
  have w := up_spec (n := q.work * n) (b := 1000) (by decide)
  rw [Int.mul_comm q.work n] at w
  have s := rate_up (n := n) h.setup.1 h.run.1
  have f := rate_up (n := n) h.freight.1 h.pallet.1
  have e1 : (partsI q n).board = upI (n * q.area * (1000 + q.waste) * q.board) 10000000000 := rfl
  have e2 : (partsI q n).work = upI (n * q.work) 1000 := by show upI (q.work * n) 1000 = _; rw [Int.mul_comm]
  have e3 : (partsI q n).setup = q.setup * upI n q.run := rfl
  have e4 : (partsI q n).freight = q.freight * upI n q.pallet := rfl
  refine ⟨rfl, ?_, ?_, ?_, ?_, ?_, ?_, ?_, ?_⟩ <;> (try rw [e1]) <;> (try rw [e2]) <;> (try rw [e3]) <;> (try rw [e4]) <;> omega
structure FarM (q : PQ) (n money : Int) (c : Int) : Prop where
  m0 : ¬ money < 0
  m1 : ¬ 1099511627776 < money
  m2 : ¬ money * 1000000 < c * (1000 + q.margin) * (1000 - offI q.steps n)
  m3 : ¬ c * (1000 + q.margin) * (1000 - offI q.steps n) ≤ (money - 1) * 1000000
  m4 : ¬ money * 1000 < c * (1000 - offI q.steps n)
theorem far_money {q : PQ} {n : Int} (h : checkQ q = 0) (hn : countI n) : FarM q n (priceI q n) (costI (partsI q n)) := by
  obtain ⟨ha, _, hs, _⟩ := check_ok h
  have o := off_bd hs n
  have b := price_bd h hn
  have p := parts_bd ha hn
  have u := up_spec (n := costI (partsI q n) * (1000 + q.margin) * (1000 - offI q.steps n)) (b := 1000000) (by decide)
  have l := price_low (m := q.margin) (o := 1000 - offI q.steps n) p.cost.1 ha.margin.1 (by omega)
  have e : priceI q n = upI (costI (partsI q n) * (1000 + q.margin) * (1000 - offI q.steps n)) 1000000 := rfl
  rw [← e] at u l
  exact ⟨by omega, by omega, by omega, by omega, by omega⟩
structure FarE (n money num den : Int) : Prop where
  d1 : ¬ den < 1
  d2 : ¬ n < den
  n1 : ¬ num < 0
  n2 : ¬ money < num
  e : num * n = money * den
theorem far_each {n money : Int} (hn : 1 ≤ n) (hm : 0 ≤ money) : FarE n money (lowNum money n) (lowDen money n) := by
  obtain ⟨hg, x, y, h1, h2, hx, hy⟩ := gcdI_facts hm hn
  have l := lowest hg h1 h2 hx hy
  unfold lowNum lowDen
  rw [l.1, l.2.1]
  exact ⟨by omega, by omega, by omega, by omega, l.2.2.2.2⟩
structure FarB (n money bad : Int) : Prop where
  s : money * bad / n + (money - money * bad / n) = money
  b0 : ¬ money * bad / n < 0
  p0 : ¬ money - money * bad / n < 0
  b1 : ¬ money * bad < money * bad / n * n
  b2 : ¬ (money * bad / n + 1) * n ≤ money * bad
theorem far_back {n money bad : Int} (hn : 1 ≤ n) (hm : 0 ≤ money) (h0 : 0 ≤ bad) (hb : bad ≤ n) : FarB n money bad := by
  have := share hm h0 hb hn
  exact ⟨by omega, by omega, by omega, by omega, by omega⟩

/-- What is cheapest of a span. -/
theorem cheapQ_spec {q : PQ} (hq : checkQ q = 0) {l h : Int} (hl : 1 ≤ l) (hlh : l ≤ h) (hh : h ≤ 100000) :
    l ≤ cheapQ q l h ∧ cheapQ q l h ≤ h ∧ ∀ m, l ≤ m → m ≤ h → ¬ priceI q m * cheapQ q l h < priceI q (cheapQ q l h) * m ∧ (m < cheapQ q l h → priceI q m * cheapQ q l h ≠ priceI q (cheapQ q l h) * m) := by
  -- outside of the span a price may be anything; 0 serves
  let f : Int → Int := fun m => if 1 ≤ m ∧ m ≤ 100000 then priceI q m else 0
  have hf : ∀ m, 1 ≤ m → m ≤ 100000 → f m = priceI q m := fun m a b => if_pos ⟨a, b⟩
  have h0 : ∀ m, 0 ≤ f m := fun m => by
    by_cases c : 1 ≤ m ∧ m ≤ 100000
    · rw [hf m c.1 c.2]; exact (price_bd hq c).2.2.1
    · have e : f m = 0 := if_neg c
      rw [e]; exact Int.le_refl _
  have same : ∀ (k : Nat) (n best least : Int), 1 ≤ n → n + k ≤ 100001 → cheapI f k n best least = cheapI (priceI q) k n best least := by
    intro k
    induction k with
    | zero => intros; rfl
    | succ k ih =>
      intro n best least a b
      simp only [cheapI]
      rw [hf n a (by omega)]
      split <;> exact ih _ _ _ (by omega) (by omega)
  have s := cheap_spec f l hl (h - l).toNat (l + 1) l (Int.le_refl _) (by omega) (fun m a b => by
    obtain rfl : m = l := by omega
    exact ⟨Int.le_refl _, fun hh => by omega⟩) h0
  simp only [hf l hl (by omega)] at s
  rw [same _ _ _ _ (by omega) (by omega)] at s
  have e : cheapI (priceI q) (h - l).toNat (l + 1) l (priceI q l) = cheapQ q l h := rfl
  rw [e] at s
  obtain ⟨s1, s2, s3⟩ := s
  refine ⟨s1, by omega, fun m a b => ?_⟩
  have := s3 m a (by omega)
  rw [hf m (by omega) (by omega), hf _ (by omega) (by omega)] at this
  exact ⟨by omega, fun c => by have := this.2 c; omega⟩
theorem mostQ_bd (q : PQ) (m : Int) : 0 ≤ mostQ q m ∧ mostQ q m ≤ 100000 := by
  unfold mostQ; exact mostI_bd _ _ 100000
theorem mostQ_spec (q : PQ) (m : Int) : (mostQ q m = 0 ∨ priceI q (mostQ q m) ≤ m) ∧ ∀ k, mostQ q m < k → k ≤ 100000 → m < priceI q k := by
  unfold mostQ; exact mostI_spec _ _ 100000
theorem mostQ_uniq {q : PQ} {m r : Int} (h0 : 0 ≤ r) (h1 : r ≤ 100000) (h2 : r = 0 ∨ priceI q r ≤ m) (h3 : ∀ k, r < k → k ≤ 100000 → m < priceI q k) : mostQ q m = r := by
  unfold mostQ; exact mostI_uniq _ _ 100000 r h0 h1 h2 h3
theorem most_own {q : PQ} {l : Int} (h : countI l) : l ≤ mostQ q (priceI q l) := by
  unfold countI at h
  by_cases c : mostQ q (priceI q l) < l
  · have := (mostQ_spec q (priceI q l)).2 l c h.2; omega
  · omega
end Go.Proofs.Ytfnnonoffiljhaa.Tab

namespace Go.Proofs.Ytfnnonoffiljhaa.Tab
open Go Go.Abs Go.Proofs
/-- The stretches, the greatest numbers first, up to a number, by the steps, the last one first. -/
def spansB : List (Int × Int) → Int → List (Int × Int)
  | [], high => if 0 < high then [(1, high)] else []
  | s :: l, high => (s.1, high) :: spansB l (s.1 - 1)
/-- Above it all costs more. -/
def Done (q : PQ) (money high : Int) : Prop := ∀ m, high < m → m ≤ 100000 → money < priceI q m
/-- The stretches that are left, up to a number. -/
def Rem (q : PQ) (rest : List (Int × Int)) (high : Int) : Prop :=
  (rest = [] ∧ high = 0) ∨ ∃ k, k ≤ q.steps.length ∧ rest = spansB (q.steps.take k).reverse high ∧ (∀ t ∈ q.steps.drop k, high < t.1) ∧ high ≤ 100000 ∧ 0 ≤ high
theorem rem_first (q : PQ) : Rem q (spansB q.steps.reverse 100000) 100000 := .inr ⟨q.steps.length, Nat.le_refl _, by rw [List.take_length], by simp, by decide, by decide⟩
theorem rem_nil {q : PQ} {high : Int} (h : Rem q [] high) : high ≤ 0 := by
  rcases h with ⟨_, h⟩ | ⟨k, hk, h, _, _, _⟩
  · omega
  · cases hr : (q.steps.take k).reverse with
    | nil =>
      rw [hr] at h
      unfold spansB at h
      split at h
      · simp at h
      · omega
    | cons s l => rw [hr] at h; simp [spansB] at h
theorem rem_step {q : PQ} {lo hi high : Int} {rest : List (Int × Int)} (hq : checkQ q = 0) (h : Rem q ((lo, hi) :: rest) high) :
    hi = high ∧ 1 ≤ lo ∧ hi ≤ 100000 ∧ (lo ≤ hi → lo ≤ 100000) ∧ (∀ a b, lo ≤ a → a ≤ b → b ≤ hi → priceI q a ≤ priceI q b) ∧ Rem q rest (lo - 1) := by
  obtain ⟨_, _, hst, hasc⟩ := check_ok hq
  rcases h with ⟨h, _⟩ | ⟨k, hk, h, hab, h1, h2⟩
  · simp at h
  · cases k with
    | zero =>
      simp only [List.take_zero, List.reverse_nil] at h
      unfold spansB at h
      split at h
      · rename_i hh
        simp only [List.cons.injEq, Prod.mk.injEq] at h
        obtain ⟨⟨rfl, rfl⟩, rfl⟩ := h
        refine ⟨rfl, by decide, h1, fun _ => by decide, fun a b ha hb hc => price_mono hq ha hb ?_, .inl ⟨rfl, rfl⟩⟩
        have key : ∀ n, n ≤ hi → offI q.steps n = 0 := fun n hn => off_none fun t ht => by have := hab t (by simpa using ht); omega
        rw [key a (by omega), key b hc]
      · simp at h
    | succ j =>
      have hj : j < q.steps.length := by omega
      have e : (q.steps.take (j + 1)).reverse = q.steps[j] :: (q.steps.take j).reverse := by
        rw [List.take_succ_eq_append_getElem hj, List.reverse_append]; rfl
      rw [e] at h
      simp only [spansB, List.cons.injEq, Prod.mk.injEq] at h
      obtain ⟨⟨rfl, rfl⟩, rfl⟩ := h
      have hs := hst _ (List.getElem_mem hj)
      have hsp : q.steps = q.steps.take j ++ q.steps[j] :: q.steps.drop (j + 1) := by
        rw [← List.drop_eq_getElem_cons hj, List.take_append_drop]
      have hasc2 := asc_drop hasc j
      rw [List.drop_eq_getElem_cons hj] at hasc2
      have key : ∀ n, q.steps[j].1 ≤ n → n ≤ hi → offI q.steps n = q.steps[j].2 := fun n h1 h2 => by
        conv => lhs; rw [hsp]
        exact off_mid _ _ _ h1 fun t ht => by have := hab t ht; omega
      refine ⟨rfl, hs.1.1, h1, fun _ => hs.1.2, fun a b ha hb hc => price_mono hq (by omega) hb (by rw [key a ha (by omega), key b (by omega) hc]), .inr ⟨j, by omega, rfl, fun t ht => ?_, by omega, by omega⟩⟩
      rw [List.drop_eq_getElem_cons hj] at ht
      rcases List.mem_cons.1 ht with rfl | ht
      · omega
      · have := (asc_cons hasc2).1 t ht; omega
theorem done_first (q : PQ) (money : Int) : Done q money 100000 := fun m h1 h2 => by omega
/-- A stretch that costs too much. -/
theorem done_skip {q : PQ} {money lo hi : Int} (hd : Done q money hi) (hm : ∀ a b, lo ≤ a → a ≤ b → b ≤ hi → priceI q a ≤ priceI q b) (h : hi < lo ∨ money < priceI q lo) : Done q money (lo - 1) := fun m h1 h2 => by
  by_cases hh : hi < m
  · exact hd m hh h2
  · rcases h with h | h
    · omega
    · have := hm lo m (Int.le_refl _) (by omega) (by omega); omega
theorem done_found {q : PQ} {money lo hi r : Int} (hd : Done q money hi) (h0 : 1 ≤ lo) (h1 : lo ≤ r) (h2 : r ≤ hi) (h3 : hi ≤ 100000) (hr : priceI q r ≤ money) (hm : ∀ m, r < m → m ≤ hi → money < priceI q m) : mostQ q money = r :=
  mostQ_uniq (by omega) (by omega) (.inr hr) fun m a b => by
    by_cases hh : hi < m
    · exact hd m hh b
    · exact hm m a (by omega)
theorem done_none {q : PQ} {money high : Int} (hd : Done q money high) (h : high ≤ 0) : mostQ q money = 0 :=
  mostQ_uniq (by decide) (by decide) (.inl rfl) fun m a b => hd m (by omega) b
end Go.Proofs.Ytfnnonoffiljhaa.Tab
