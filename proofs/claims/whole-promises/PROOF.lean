import PyProof.Rows.All
import Wide.All
import OpenK.AllK
import Wide.FinOn
import HandS.ForMost
import HandS.Evl
import HandS.Walk
import HandS.Star
import HandS.IsInst
import HandS.TupMul
import HandS.TupAny
import HandS.TupLe
import HandS.Zip
import HandS.Conv
import HandS.DictComp
import HandS.DictTup
import KE.SortData
import KE.KDictKeyed
import KE.KDictWalk
import KE.KTupSum
import KE.KDictCopyH
import KE.KDictDisplayH
import KE.GoesEnum
import PySem.Challenge.RW_primezeros_k05_whole_promises
set_option Elab.async false
set_option linter.all false
set_option maxRecDepth 100000
set_option maxHeartbeats 4100000
namespace Pz
/-! ### the plain mathematics: sums over points, polynomial functions, Chevalley and Warning -/
abbrev Pr (p : Nat) : Prop := p = 2 ∨ p = 3 ∨ p = 5 ∨ p = 7
theorem Pr.pos {p : Nat} (h : Pr p) : 0 < p := by rcases h with h | h | h | h <;> omega

/-- the sum over the rests -/
def sumR (p : Nat) (f : Int → Int) : Int := ((List.range p).map fun (i : Nat) => f (i : Int)).sum
def pts (p : Nat) : Nat → List (List Int)
  | 0 => [[]]
  | n + 1 => (pts p n).flatMap fun row => (List.range p).map fun i => row ++ [((i : Nat) : Int)]
/-- the sum over all points -/
def S (p n : Nat) (f : List Int → Int) : Int := ((pts p n).map f).sum

theorem sum_flatMap {α : Type} (l : List α) (g : α → List Int) : (l.flatMap g).sum = (l.map fun a => (g a).sum).sum := by
  induction l with
  | nil => rfl
  | cons a l ih => rw [List.flatMap_cons, List.sum_append, ih]; rfl
theorem S_zero (p : Nat) (f : List Int → Int) : S p 0 f = f [] := by
  show (f [] :: []).sum = f []
  simp
theorem S_succ (p n : Nat) (f : List Int → Int) : S p (n + 1) f = S p n fun row => sumR p fun a => f (row ++ [a]) := by
  unfold S
  show (((pts p n).flatMap fun row => (List.range p).map fun i => row ++ [((i : Nat) : Int)]).map f).sum = _
  rw [List.map_flatMap, sum_flatMap]
  unfold sumR
  simp only [List.map_map]
  rfl
theorem sum_map_mul {α : Type} (l : List α) (f : α → Int) (c : Int) : (l.map fun a => f a * c).sum = (l.map f).sum * c := by
  induction l with
  | nil => simp
  | cons a l ih => simp only [List.map_cons, List.sum_cons, ih, Int.add_mul]
theorem sum_map_mul_left {α : Type} (l : List α) (f : α → Int) (c : Int) : (l.map fun a => c * f a).sum = c * (l.map f).sum := by
  induction l with
  | nil => simp
  | cons a l ih => simp only [List.map_cons, List.sum_cons, ih, Int.mul_add]
theorem sum_map_add {α : Type} (l : List α) (f g : α → Int) : (l.map fun a => f a + g a).sum = (l.map f).sum + (l.map g).sum := by
  induction l with
  | nil => simp
  | cons a l ih => simp only [List.map_cons, List.sum_cons, ih]; omega
theorem sum_map_sub {α : Type} (l : List α) (f g : α → Int) : (l.map fun a => f a - g a).sum = (l.map f).sum - (l.map g).sum := by
  induction l with
  | nil => simp
  | cons a l ih => simp only [List.map_cons, List.sum_cons, ih]; omega
theorem sum_map_zero {α : Type} (l : List α) : (l.map fun _ => (0 : Int)).sum = 0 := by
  induction l with
  | nil => rfl
  | cons a l ih => simp only [List.map_cons, List.sum_cons, ih]; rfl
theorem sum_map_const {α : Type} (l : List α) (c : Int) : (l.map fun _ => c).sum = (l.length : Int) * c := by
  induction l with
  | nil => simp
  | cons a l ih => simp only [List.map_cons, List.sum_cons, ih, List.length_cons]; rw [Int.natCast_succ, Int.add_mul]; omega
theorem sum_comm {α β : Type} (l : List α) (m : List β) (f : α → β → Int) : (l.map fun a => (m.map fun b => f a b).sum).sum = (m.map fun b => (l.map fun a => f a b).sum).sum := by
  induction l with
  | nil => simp only [List.map_nil, List.sum_nil, sum_map_zero]
  | cons a l ih => simp only [List.map_cons, List.sum_cons, ih, sum_map_add]
theorem sum_le {α : Type} (l : List α) (f g : α → Int) (h : ∀ a ∈ l, f a ≤ g a) : (l.map f).sum ≤ (l.map g).sum := by
  induction l with
  | nil => exact Int.le_refl _
  | cons a l ih =>
    simp only [List.sum_cons, List.map_cons]
    have h1 := h a List.mem_cons_self
    have h2 := ih fun b hb => h b (List.mem_cons_of_mem _ hb)
    omega
theorem sum_congr {α : Type} (l : List α) (f g : α → Int) (h : ∀ a ∈ l, f a = g a) : (l.map f).sum = (l.map g).sum := by
  rw [List.map_congr_left h]
theorem dvd_sum {α : Type} (l : List α) (f : α → Int) (d : Int) (h : ∀ a ∈ l, d ∣ f a) : d ∣ (l.map f).sum := by
  induction l with
  | nil => exact ⟨0, by simp⟩
  | cons a l ih =>
    simp only [List.sum_cons, List.map_cons]
    exact Int.dvd_add (h a List.mem_cons_self) (ih fun b hb => h b (List.mem_cons_of_mem _ hb))

/-- the points: their number, their items -/
theorem pts_length (p n : Nat) : (pts p n).length = p ^ n := by
  induction n with
  | zero => rfl
  | succ n ih =>
    show ((pts p n).flatMap fun row => (List.range p).map fun i => row ++ [((i : Nat) : Int)]).length = _
    rw [List.length_flatMap]
    simp only [List.length_range, List.length_map]
    rw [List.map_const', List.sum_replicate_nat, ih, Nat.pow_succ]
theorem mem_pts {p n : Nat} {x : List Int} : x ∈ pts p n ↔ x.length = n ∧ ∀ a ∈ x, 0 ≤ a ∧ a < (p : Int) := by
  induction n generalizing x with
  | zero =>
    show x ∈ [[]] ↔ _
    simp only [List.mem_singleton]
    constructor
    · rintro rfl; exact ⟨rfl, fun a h => absurd h (by simp)⟩
    · rintro ⟨h, _⟩; exact List.eq_nil_of_length_eq_zero h
  | succ n ih =>
    show x ∈ (pts p n).flatMap (fun row => (List.range p).map fun i => row ++ [((i : Nat) : Int)]) ↔ _
    simp only [List.mem_flatMap, List.mem_map, List.mem_range]
    constructor
    · rintro ⟨row, hr, i, hi, rfl⟩
      obtain ⟨h1, h2⟩ := ih.mp hr
      refine ⟨by simp [h1], fun a ha => ?_⟩
      obtain ha | ha := List.mem_append.mp ha
      · exact h2 a ha
      · have : a = (i : Int) := by simpa using ha
        omega
    · rintro ⟨h1, h2⟩
      have hne : x ≠ [] := by intro e; rw [e] at h1; simp at h1
      refine ⟨x.dropLast, ih.mpr ⟨by simp [h1], fun a ha => h2 a (List.dropLast_subset _ ha)⟩, (x.getLast hne).toNat, ?_, ?_⟩
      · have := h2 _ (List.getLast_mem hne); omega
      · have := h2 _ (List.getLast_mem hne)
        rw [Int.toNat_of_nonneg this.1]
        exact List.dropLast_concat_getLast hne
theorem S_congr {p n : Nat} {f g : List Int → Int} (h : ∀ x ∈ pts p n, f x = g x) : S p n f = S p n g := sum_congr _ _ _ h
theorem S_const (p n : Nat) (c : Int) : S p n (fun _ => c) = ((p : Int) ^ n) * c := by
  unfold S
  rw [sum_map_const, pts_length, Int.natCast_pow]

/-! ### monomials -/
def mon (es : List Nat) (xs : List Int) : Int := (List.zipWith (fun (e : Nat) (x : Int) => x ^ e) es xs).foldr (· * ·) 1
theorem foldr_mul (l : List Int) (c : Int) : l.foldr (· * ·) c = l.foldr (· * ·) 1 * c := by
  induction l with
  | nil => simp
  | cons a l ih => simp only [List.foldr_cons]; rw [ih, Int.mul_assoc]
theorem mon_snoc {es : List Nat} {xs : List Int} (h : es.length = xs.length) (e : Nat) (x : Int) : mon (es ++ [e]) (xs ++ [x]) = mon es xs * x ^ e := by
  unfold mon
  rw [List.zipWith_append h]
  show (List.foldr _ 1 (_ ++ [x ^ e])) = _
  rw [List.foldr_append, foldr_mul]
  simp
theorem mon_cons (e : Nat) (es : List Nat) (x : Int) (xs : List Int) : mon (e :: es) (x :: xs) = x ^ e * mon es xs := rfl
theorem mon_nil (xs : List Int) : mon [] xs = 1 := rfl
theorem mon_add : ∀ (es fs : List Nat) (xs : List Int), es.length = xs.length → fs.length = xs.length → mon (List.zipWith (· + ·) es fs) xs = mon es xs * mon fs xs
  | [], [], [], _, _ => rfl
  | e :: es, f :: fs, x :: xs, h1, h2 => by
    show x ^ (e + f) * mon (List.zipWith (· + ·) es fs) xs = (x ^ e * mon es xs) * (x ^ f * mon fs xs)
    rw [mon_add es fs xs (by simpa using h1) (by simpa using h2), Int.pow_add]
    simp only [Int.mul_assoc, Int.mul_left_comm (x ^ f)]
  | [], _ :: _, [], _, h => by simp at h
  | _ :: _, _, [], h, _ => by simp at h
  | [], _, _ :: _, h, _ => by simp at h
  | _ :: _, [], _ :: _, _, h => by simp at h
theorem psum_zero {p : Nat} (hp : Pr p) {e : Nat} (h : e < p - 1) : (sumR p fun a => a ^ e) % (p : Int) = 0 := by
  rcases hp with rfl | rfl | rfl | rfl
  · obtain rfl : e = 0 := by omega
    decide
  · rcases (show e = 0 ∨ e = 1 by omega) with rfl | rfl <;> decide
  · rcases (show e = 0 ∨ e = 1 ∨ e = 2 ∨ e = 3 by omega) with rfl | rfl | rfl | rfl <;> decide
  · rcases (show e = 0 ∨ e = 1 ∨ e = 2 ∨ e = 3 ∨ e = 4 ∨ e = 5 by omega) with rfl | rfl | rfl | rfl | rfl | rfl <;> decide
theorem snoc_of {α : Type} {l : List α} {n : Nat} (h : l.length = n + 1) : ∃ l' a, l = l' ++ [a] ∧ l'.length = n := by
  have hne : l ≠ [] := by intro e; rw [e] at h; simp at h
  exact ⟨l.dropLast, l.getLast hne, (List.dropLast_concat_getLast hne).symm, by simp [h]⟩
theorem S_mon {p : Nat} (hp : Pr p) : ∀ (n : Nat) (es : List Nat), es.length = n → es.sum < n * (p - 1) → S p n (mon es) % (p : Int) = 0
  | 0, _, _, h => by omega
  | n + 1, es, hl, h => by
    obtain ⟨es', e, rfl, hl'⟩ := snoc_of hl
    have e1 : S p (n + 1) (mon (es' ++ [e])) = S p n (mon es') * sumR p fun a => a ^ e := by
      rw [S_succ]
      unfold S
      rw [← sum_map_mul]
      refine sum_congr _ _ _ fun row hr => ?_
      have hrl := (mem_pts.mp hr).1
      unfold sumR
      rw [← sum_map_mul_left]
      exact sum_congr _ _ _ fun a _ => mon_snoc (by omega) e _
    rw [e1, Int.mul_emod]
    by_cases he : e < p - 1
    · rw [psum_zero hp he]; simp
    · have hs : es'.sum < n * (p - 1) := by
        rw [List.sum_append, Nat.add_mul] at h
        simp at h
        omega
      rw [S_mon hp n es' hl' hs]; simp

/-! ### polynomial functions -/
def evT (ts : List (List Nat × Int)) (x : List Int) : Int := (ts.map fun t => t.2 * mon t.1 x).sum
def PF (n d : Nat) (f : List Int → Int) : Prop := ∃ ts : List (List Nat × Int), (∀ t ∈ ts, t.1.length = n ∧ t.1.sum ≤ d) ∧ ∀ x, x.length = n → f x = evT ts x
theorem PF.mono {n d d' : Nat} {f : List Int → Int} (h : PF n d f) (hd : d ≤ d') : PF n d' f := by
  obtain ⟨ts, h1, h2⟩ := h
  exact ⟨ts, fun t ht => ⟨(h1 t ht).1, Nat.le_trans (h1 t ht).2 hd⟩, h2⟩
theorem sum_replicate0 (n : Nat) : (List.replicate n 0).sum = 0 := by
  induction n with
  | zero => rfl
  | succ n ih => rw [List.replicate_succ, List.sum_cons, ih]
theorem mon_replicate0 : ∀ (n : Nat) (x : List Int), mon (List.replicate n 0) x = 1
  | 0, _ => rfl
  | n + 1, [] => rfl
  | n + 1, a :: x => by
    rw [List.replicate_succ, mon_cons, mon_replicate0 n x]; simp
theorem PF.const (n : Nat) (c : Int) : PF n 0 fun _ => c :=
  ⟨[(List.replicate n 0, c)], fun t ht => by
    have : t = (List.replicate n 0, c) := by simpa using ht
    subst this
    exact ⟨by simp, by rw [sum_replicate0]; exact Nat.le_refl _⟩, fun x _ => by simp [evT, mon_replicate0]⟩
theorem evT_append (a b : List (List Nat × Int)) (x : List Int) : evT (a ++ b) x = evT a x + evT b x := by
  unfold evT
  rw [List.map_append, List.sum_append]
theorem PF.add {n d : Nat} {f g : List Int → Int} (hf : PF n d f) (hg : PF n d g) : PF n d fun x => f x + g x := by
  obtain ⟨a, a1, a2⟩ := hf
  obtain ⟨b, b1, b2⟩ := hg
  refine ⟨a ++ b, fun t ht => ?_, fun x hx => by show f x + g x = _; rw [evT_append, a2 x hx, b2 x hx]⟩
  rcases List.mem_append.mp ht with h | h
  · exact a1 t h
  · exact b1 t h
theorem PF.neg {n d : Nat} {f : List Int → Int} (hf : PF n d f) : PF n d fun x => - f x := by
  obtain ⟨a, a1, a2⟩ := hf
  refine ⟨a.map fun t => (t.1, - t.2), fun t ht => ?_, fun x hx => ?_⟩
  · obtain ⟨u, hu, rfl⟩ := List.mem_map.mp ht
    exact a1 u hu
  · show - f x = _
    rw [a2 x hx]
    unfold evT
    rw [List.map_map]
    have : ((fun t : List Nat × Int => t.2 * mon t.1 x) ∘ fun (t : List Nat × Int) => (t.1, -t.2)) = fun (t : List Nat × Int) => (-1) * (t.2 * mon t.1 x) := by
      funext t
      show -t.2 * mon t.1 x = _
      rw [Int.neg_mul]; omega
    rw [this, sum_map_mul_left]
    omega
theorem evT_mul1 (t : List Nat × Int) (b : List (List Nat × Int)) (n : Nat) (x : List Int) (ht : t.1.length = n) (hb : ∀ u ∈ b, u.1.length = n) (hx : x.length = n) :
    evT (b.map fun u => (List.zipWith (· + ·) t.1 u.1, t.2 * u.2)) x = (t.2 * mon t.1 x) * evT b x := by
  unfold evT
  rw [List.map_map, ← sum_map_mul_left]
  refine sum_congr _ _ _ fun u hu => ?_
  show t.2 * u.2 * mon (List.zipWith (· + ·) t.1 u.1) x = _
  rw [mon_add _ _ _ (by omega) (by rw [hb u hu, hx])]
  simp only [Int.mul_assoc, Int.mul_left_comm u.2]
theorem sum_zipWith_add : ∀ (a b : List Nat), a.length = b.length → (List.zipWith (· + ·) a b).sum = a.sum + b.sum
  | [], [], _ => rfl
  | x :: a, y :: b, h => by
    simp only [List.zipWith_cons_cons, List.sum_cons, sum_zipWith_add a b (by simpa using h)]; omega
  | [], _ :: _, hz => by simp at hz
  | _ :: _, [], hz => by simp at hz
theorem PF.mul {n d e : Nat} {f g : List Int → Int} (hf : PF n d f) (hg : PF n e g) : PF n (d + e) fun x => f x * g x := by
  obtain ⟨a, a1, a2⟩ := hf
  obtain ⟨b, b1, b2⟩ := hg
  refine ⟨a.flatMap fun t => b.map fun u => (List.zipWith (· + ·) t.1 u.1, t.2 * u.2), fun t ht => ?_, fun x hx => ?_⟩
  · obtain ⟨t', h1, h2⟩ := List.mem_flatMap.mp ht
    obtain ⟨u, h3, rfl⟩ := List.mem_map.mp h2
    have q1 := a1 t' h1
    have q2 := b1 u h3
    refine ⟨by simp [q1.1, q2.1], ?_⟩
    show (List.zipWith (· + ·) t'.1 u.1).sum ≤ _
    rw [sum_zipWith_add _ _ (by omega)]
    omega
  · show f x * g x = _
    rw [a2 x hx, b2 x hx]
    have : ∀ l : List (List Nat × Int), (∀ t ∈ l, t.1.length = n) → evT (l.flatMap fun t => b.map fun u => (List.zipWith (· + ·) t.1 u.1, t.2 * u.2)) x = evT l x * evT b x := by
      intro l
      induction l with
      | nil => intro _; simp [evT]
      | cons t l ih =>
        intro h
        rw [List.flatMap_cons, evT_append, ih fun t ht => h t (List.mem_cons_of_mem _ ht), evT_mul1 t b n x (h t List.mem_cons_self) (fun u hu => (b1 u hu).1) hx]
        show _ = (t.2 * mon t.1 x + evT l x) * evT b x
        rw [Int.add_mul]
    rw [this a fun t ht => (a1 t ht).1]
theorem PF.congr {n d : Nat} {f g : List Int → Int} (hf : PF n d f) (h : ∀ x, x.length = n → g x = f x) : PF n d g := by
  obtain ⟨a, a1, a2⟩ := hf
  exact ⟨a, a1, fun x hx => (h x hx).trans (a2 x hx)⟩
theorem PF.pow {n d : Nat} {f : List Int → Int} (hf : PF n d f) : ∀ k : Nat, PF n (k * d) fun x => f x ^ k
  | 0 => by
    have h : PF n 0 fun x => f x ^ 0 := (PF.const n 1).congr fun x _ => Int.pow_zero _
    exact h.mono (Nat.zero_le _)
  | k + 1 => by
    have h := (PF.pow hf k).mul hf
    have e : k * d + d = (k + 1) * d := by rw [Nat.add_mul]; omega
    rw [← e]
    exact h.congr fun x _ => Int.pow_succ _ _
theorem PF.vanish {p : Nat} (hp : Pr p) {n d : Nat} {f : List Int → Int} (hf : PF n d f) (h : d < n * (p - 1)) : S p n f % (p : Int) = 0 := by
  obtain ⟨a, a1, a2⟩ := hf
  have e1 : S p n f = (a.map fun t => t.2 * S p n (mon t.1)).sum := by
    unfold S
    rw [sum_congr _ _ _ fun x hx => a2 x (mem_pts.mp hx).1]
    unfold evT
    rw [sum_comm]
    refine sum_congr _ _ _ fun t _ => ?_
    rw [sum_map_mul_left]
  rw [e1]
  apply Int.emod_eq_zero_of_dvd
  refine dvd_sum _ _ _ fun t ht => ?_
  have q := S_mon hp n t.1 (a1 t ht).1 (Nat.lt_of_le_of_lt (a1 t ht).2 h)
  exact Int.dvd_mul_of_dvd_right (Int.dvd_of_emod_eq_zero q)
end Pz
namespace Pz
theorem pow_emod (a : Int) (m : Int) : ∀ k : Nat, a ^ k % m = (a % m) ^ k % m
  | 0 => by simp
  | k + 1 => by rw [Int.pow_succ, Int.pow_succ, Int.mul_emod, pow_emod a m k, Int.mul_emod ((a % m) ^ k)]; simp
theorem fermat {p : Nat} (hp : Pr p) (a : Int) : a ^ (p - 1) % (p : Int) = if a % (p : Int) = 0 then 0 else 1 := by
  rw [pow_emod]
  have h0 : 0 ≤ a % (p : Int) := Int.emod_nonneg _ (by have := hp.pos; omega)
  have h1 : a % (p : Int) < p := Int.emod_lt_of_pos _ (by have := hp.pos; omega)
  generalize a % (p : Int) = r at h0 h1
  rcases hp with rfl | rfl | rfl | rfl
  · rcases (show r = 0 ∨ r = 1 by omega) with rfl | rfl <;> decide
  · rcases (show r = 0 ∨ r = 1 ∨ r = 2 by omega) with rfl | rfl | rfl <;> decide
  · rcases (show r = 0 ∨ r = 1 ∨ r = 2 ∨ r = 3 ∨ r = 4 by omega) with rfl | rfl | rfl | rfl | rfl <;> decide
  · rcases (show r = 0 ∨ r = 1 ∨ r = 2 ∨ r = 3 ∨ r = 4 ∨ r = 5 ∨ r = 6 by omega) with rfl | rfl | rfl | rfl | rfl | rfl | rfl <;> decide
abbrev Fn := List Int → Int
def zeroAt (p : Nat) (fs : List Fn) (x : List Int) : Bool := fs.all fun f => f x % (p : Int) == 0
def ind (p : Nat) : List Fn → Fn
  | [] => fun _ => 1
  | f :: fs => fun x => (1 + - f x ^ (p - 1)) * ind p fs x
theorem ind_emod {p : Nat} (hp : Pr p) : ∀ (fs : List Fn) (x : List Int), ind p fs x % (p : Int) = (if zeroAt p fs x then 1 else 0)
  | [], x => by
    show (1 : Int) % (p : Int) = _
    rcases hp with rfl | rfl | rfl | rfl <;> rfl
  | f :: fs, x => by
    show ((1 + - f x ^ (p - 1)) * ind p fs x) % (p : Int) = _
    rw [Int.mul_emod, ind_emod hp fs x]
    have e : (1 + - f x ^ (p - 1)) % (p : Int) = if f x % (p : Int) = 0 then 1 else 0 := by
      have q := fermat hp (f x)
      have e1 : (1 + - f x ^ (p - 1)) = 1 - f x ^ (p - 1) := by omega
      rw [e1, Int.sub_emod, q]
      by_cases h : f x % (p : Int) = 0
      · rw [if_pos h, if_pos h]
        rcases hp with rfl | rfl | rfl | rfl <;> rfl
      · rw [if_neg h, if_neg h]
        rcases hp with rfl | rfl | rfl | rfl <;> rfl
    rw [e]
    unfold zeroAt
    rw [List.all_cons]
    by_cases h : f x % (p : Int) = 0
    · rw [if_pos h]
      have : (f x % (p : Int) == 0) = true := by simpa using h
      rw [this, Bool.true_and, Int.one_mul]
      by_cases h2 : (fs.all fun f => f x % (p : Int) == 0) = true
      · rw [if_pos h2]; rcases hp with rfl | rfl | rfl | rfl <;> rfl
      · rw [if_neg h2]; rcases hp with rfl | rfl | rfl | rfl <;> rfl
    · rw [if_neg h]
      have : (f x % (p : Int) == 0) = false := by simpa using h
      rw [this, Bool.false_and, Int.zero_mul]
      rcases hp with rfl | rfl | rfl | rfl <;> rfl
theorem ind_pf {p n : Nat} : ∀ (fs : List Fn) (ds : List Nat), fs.length = ds.length → (∀ q ∈ fs.zip ds, PF n q.2 q.1) → PF n (ds.sum * (p - 1)) (ind p fs)
  | [], [], _, _ => (PF.const n 1).mono (Nat.zero_le _)
  | f :: fs, d :: ds, hl, h => by
    have h1 : PF n d f := h (f, d) List.mem_cons_self
    have h2 := ind_pf (p := p) fs ds (by simpa using hl) fun q hq => h q (List.mem_cons_of_mem _ hq)
    have h3 : PF n ((p - 1) * d) fun x => 1 + - f x ^ (p - 1) := ((PF.const n 1).mono (Nat.zero_le _)).add (h1.pow (p - 1)).neg
    have h4 := h3.mul h2
    have e : (p - 1) * d + ds.sum * (p - 1) = (d :: ds).sum * (p - 1) := by rw [List.sum_cons, Nat.add_mul, Nat.mul_comm]
    rw [← e]
    exact h4
  | [], _ :: _, hz, _ => by simp at hz
  | _ :: _, [], hz, _ => by simp at hz
/-- how many points are zeros of all -/
def Zn (p n : Nat) (fs : List Fn) : Nat := ((pts p n).filter (zeroAt p fs)).length
theorem filter_sum {α : Type} (l : List α) (P : α → Bool) : ((l.filter P).length : Int) = (l.map fun a => if P a then (1 : Int) else 0).sum := by
  induction l with
  | nil => rfl
  | cons a l ih =>
    rw [List.filter_cons, List.map_cons, List.sum_cons, ← ih]
    by_cases h : P a = true
    · rw [if_pos h, if_pos h, List.length_cons, Int.natCast_succ]; omega
    · (rw [if_neg h, if_neg h]; omega)
theorem Zn_S (p n : Nat) (fs : List Fn) : (Zn p n fs : Int) = S p n fun x => if zeroAt p fs x then 1 else 0 := filter_sum _ _
theorem sum_emod {α : Type} (l : List α) (f g : α → Int) (m : Int) (h : ∀ a ∈ l, f a % m = g a % m) : (l.map f).sum % m = (l.map g).sum % m := by
  induction l with
  | nil => rfl
  | cons a l ih =>
    simp only [List.sum_cons, List.map_cons]
    rw [Int.add_emod, h a List.mem_cons_self, ih fun b hb => h b (List.mem_cons_of_mem _ hb), ← Int.add_emod]
theorem ite_emod {p : Nat} (hp : Pr p) (b : Bool) : (if b then (1 : Int) else 0) % (p : Int) = if b then 1 else 0 := by
  cases b <;> rcases hp with rfl | rfl | rfl | rfl <;> rfl
/-- Chevalley and Warning -/
theorem cw {p n : Nat} (hp : Pr p) (fs : List Fn) (ds : List Nat) (hl : fs.length = ds.length) (h : ∀ q ∈ fs.zip ds, PF n q.2 q.1) (hd : ds.sum < n) : p ∣ Zn p n fs := by
  have v := (ind_pf (p := p) fs ds hl h).vanish hp (show ds.sum * (p - 1) < n * (p - 1) from Nat.mul_lt_mul_of_pos_right hd (by rcases hp with rfl | rfl | rfl | rfl <;> omega))
  have e : (Zn p n fs : Int) % (p : Int) = 0 := by
    rw [Zn_S]
    refine Eq.trans (sum_emod _ _ (ind p fs) _ fun x _ => ?_) v
    rw [ind_emod hp, ite_emod hp]
  exact Int.natCast_dvd_natCast.mp (Int.dvd_of_emod_eq_zero e)

/-! ### affine functions -/
def dot (cs xs : List Int) : Int := (List.zipWith (· * ·) cs xs).sum
theorem dot_snoc {cs xs : List Int} (h : cs.length = xs.length) (c x : Int) : dot (cs ++ [c]) (xs ++ [x]) = dot cs xs + c * x := by
  unfold dot
  rw [List.zipWith_append h, List.sum_append]
  show _ + (c * x + 0) = _
  omega
def aff (c0 : Int) (cs : List Int) : Fn := fun x => c0 + dot cs x
theorem lin_one {p : Nat} (hp : Pr p) (r c : Int) : (sumR p fun a => if (r + c * a) % (p : Int) = 0 then 1 else 0) = if c % (p : Int) = 0 then (if r % (p : Int) = 0 then (p : Int) else 0) else 1 := by
  have h0 : ∀ a : Int, (r + c * a) % (p : Int) = (r % p + (c % p) * a) % (p : Int) := fun a => by
    have e1 : (r + c * a) % (p : Int) = (r % p + (c % p) * (a % p) % p) % p := by rw [Int.add_emod, Int.mul_emod]
    have e2 : (r % p + (c % p) * a) % (p : Int) = (r % p % p + (c % p % p) * (a % p) % p) % p := by rw [Int.add_emod, Int.mul_emod (c % p)]
    rw [e1, e2, Int.emod_emod_of_dvd r (Int.dvd_refl _), Int.emod_emod_of_dvd c (Int.dvd_refl _)]
  simp only [h0]
  have hr0 : 0 ≤ r % (p : Int) := Int.emod_nonneg _ (by have := hp.pos; omega)
  have hr1 : r % (p : Int) < p := Int.emod_lt_of_pos _ (by have := hp.pos; omega)
  have hc0 : 0 ≤ c % (p : Int) := Int.emod_nonneg _ (by have := hp.pos; omega)
  have hc1 : c % (p : Int) < p := Int.emod_lt_of_pos _ (by have := hp.pos; omega)
  generalize r % (p : Int) = u at hr0 hr1
  generalize c % (p : Int) = v at hc0 hc1
  rcases hp with rfl | rfl | rfl | rfl
  · rcases (show u = 0 ∨ u = 1 by omega) with rfl | rfl <;> rcases (show v = 0 ∨ v = 1 by omega) with rfl | rfl <;> decide
  · rcases (show u = 0 ∨ u = 1 ∨ u = 2 by omega) with rfl | rfl | rfl <;> rcases (show v = 0 ∨ v = 1 ∨ v = 2 by omega) with rfl | rfl | rfl <;> decide
  · rcases (show u = 0 ∨ u = 1 ∨ u = 2 ∨ u = 3 ∨ u = 4 by omega) with rfl | rfl | rfl | rfl | rfl <;> rcases (show v = 0 ∨ v = 1 ∨ v = 2 ∨ v = 3 ∨ v = 4 by omega) with rfl | rfl | rfl | rfl | rfl <;> decide
  · rcases (show u = 0 ∨ u = 1 ∨ u = 2 ∨ u = 3 ∨ u = 4 ∨ u = 5 ∨ u = 6 by omega) with rfl | rfl | rfl | rfl | rfl | rfl | rfl <;> rcases (show v = 0 ∨ v = 1 ∨ v = 2 ∨ v = 3 ∨ v = 4 ∨ v = 5 ∨ v = 6 by omega) with rfl | rfl | rfl | rfl | rfl | rfl | rfl <;> decide
def An (p n : Nat) (c0 : Int) (cs : List Int) : Int := S p n fun x => if (c0 + dot cs x) % (p : Int) = 0 then 1 else 0
theorem An_succ {p : Nat} (hp : Pr p) (n : Nat) (c0 : Int) (cs : List Int) (c : Int) (hl : cs.length = n) :
    An p (n + 1) c0 (cs ++ [c]) = if c % (p : Int) = 0 then (p : Int) * An p n c0 cs else (p : Int) ^ n := by
  have e : An p (n + 1) c0 (cs ++ [c]) = S p n fun row => if c % (p : Int) = 0 then (if (c0 + dot cs row) % (p : Int) = 0 then (p : Int) else 0) else 1 := by
    unfold An
    rw [S_succ]
    refine S_congr fun row hr => ?_
    have hrl := (mem_pts.mp hr).1
    rw [← lin_one hp (c0 + dot cs row) c]
    unfold sumR
    refine sum_congr _ _ _ fun a _ => ?_
    show (if (c0 + dot (cs ++ [c]) (row ++ [(a : Int)])) % (p : Int) = 0 then (1 : Int) else 0) = if (c0 + dot cs row + c * (a : Int)) % (p : Int) = 0 then 1 else 0
    rw [dot_snoc (by omega)]
    have : c0 + (dot cs row + c * (a : Int)) = c0 + dot cs row + c * (a : Int) := by omega
    rw [this]
  rw [e]
  by_cases hc : c % (p : Int) = 0
  · simp only [if_pos hc]
    unfold An S
    rw [← sum_map_mul_left]
    refine sum_congr _ _ _ fun x _ => ?_
    by_cases h : (c0 + dot cs x) % (p : Int) = 0
    · (rw [if_pos h, if_pos h]; omega)
    · (rw [if_neg h, if_neg h]; omega)
  · simp only [if_neg hc]
    rw [S_const]; omega
theorem An_dvd {p : Nat} (hp : Pr p) : ∀ (n : Nat) (c0 : Int) (cs : List Int), cs.length = n → ((p : Int) ^ (n - 1)) ∣ An p n c0 cs
  | 0, _, _, _ => by simp
  | 1, _, _, _ => by simp
  | n + 2, c0, cs, hl => by
    obtain ⟨cs', c, rfl, hl'⟩ := snoc_of hl
    rw [An_succ hp (n + 1) c0 cs' c hl']
    show (p : Int) ^ (n + 1) ∣ _
    by_cases hc : c % (p : Int) = 0
    · rw [if_pos hc]
      obtain ⟨k, hk⟩ := An_dvd hp (n + 1) c0 cs' hl'
      exact ⟨k, by rw [hk]; show _ = (p : Int) ^ (n + 1) * k; rw [Int.pow_succ, Int.mul_comm ((p : Int) ^ n), Int.mul_assoc]; rfl⟩
    · rw [if_neg hc]
      exact ⟨1, by rw [Int.mul_one]⟩
theorem An_exact {p : Nat} (hp : Pr p) : ∀ (n : Nat) (c0 : Int) (cs : List Int), cs.length = n → (∃ c ∈ cs, ¬ c % (p : Int) = 0) → An p n c0 cs = (p : Int) ^ (n - 1)
  | 0, _, cs, hl, ⟨c, hc, _⟩ => by rw [List.eq_nil_of_length_eq_zero hl] at hc; simp at hc
  | n + 1, c0, cs, hl, ⟨c, hc, hn⟩ => by
    obtain ⟨cs', c', rfl, hl'⟩ := snoc_of hl
    rw [An_succ hp n c0 cs' c' hl']
    by_cases hz : c' % (p : Int) = 0
    · rw [if_pos hz]
      have hm : c ∈ cs' := by
        obtain h | h := List.mem_append.mp hc
        · exact h
        · have : c = c' := by simpa using h
          rw [this] at hn
          exact absurd hz hn
      rw [An_exact hp n c0 cs' hl' ⟨c, hm, hn⟩]
      cases n with
      | zero => rw [List.eq_nil_of_length_eq_zero hl'] at hm; simp at hm
      | succ m => show (p : Int) * (p : Int) ^ m = (p : Int) ^ (m + 1); rw [Int.pow_succ, Int.mul_comm]
    · rw [if_neg hz]; rfl
end Pz
namespace Pz
def IsAff (n : Nat) (f : Fn) : Prop := ∃ (c0 : Int) (cs : List Int), cs.length = n ∧ ∀ x, x.length = n → f x = c0 + dot cs x
theorem dot_add : ∀ (cs ds xs : List Int), cs.length = xs.length → ds.length = xs.length → dot (List.zipWith (· + ·) cs ds) xs = dot cs xs + dot ds xs
  | [], [], [], _, _ => rfl
  | c :: cs, d :: ds, x :: xs, h1, h2 => by
    show (c + d) * x + dot (List.zipWith (· + ·) cs ds) xs = (c * x + dot cs xs) + (d * x + dot ds xs)
    rw [dot_add cs ds xs (by simpa using h1) (by simpa using h2), Int.add_mul]; omega
  | [], _ :: _, [], _, h => by simp at h
  | _ :: _, _, [], h, _ => by simp at h
  | [], _, _ :: _, h, _ => by simp at h
  | _ :: _, [], _ :: _, _, h => by simp at h
theorem dot_scale (k : Int) : ∀ (cs xs : List Int), dot (cs.map (k * ·)) xs = k * dot cs xs
  | [], _ => by show (0 : Int) = k * 0; simp
  | _ :: _, [] => by show (0 : Int) = k * 0; simp
  | c :: cs, x :: xs => by
    show k * c * x + dot (cs.map (k * ·)) xs = k * (c * x + dot cs xs)
    rw [dot_scale k cs xs, Int.mul_add, Int.mul_assoc]
theorem dot_zero : ∀ (n : Nat) (x : List Int), dot (List.replicate n 0) x = 0
  | 0, _ => rfl
  | n + 1, [] => rfl
  | n + 1, a :: x => by
    show 0 * a + dot (List.replicate n 0) x = 0
    rw [dot_zero n x]; omega
theorem IsAff.const (n : Nat) (c : Int) : IsAff n fun _ => c := ⟨c, List.replicate n 0, by simp, fun x _ => by show c = _; rw [dot_zero]; omega⟩
theorem IsAff.add {n : Nat} {f g : Fn} (hf : IsAff n f) (hg : IsAff n g) : IsAff n fun x => f x + g x := by
  obtain ⟨a, as, h1, h2⟩ := hf
  obtain ⟨b, bs, h3, h4⟩ := hg
  refine ⟨a + b, List.zipWith (· + ·) as bs, by simp [h1, h3], fun x hx => ?_⟩
  show f x + g x = _
  rw [h2 x hx, h4 x hx, dot_add as bs x (by omega) (by omega)]; omega
theorem IsAff.scale {n : Nat} {f : Fn} (hf : IsAff n f) (k : Int) : IsAff n fun x => k * f x := by
  obtain ⟨a, as, h1, h2⟩ := hf
  refine ⟨k * a, as.map (k * ·), by simp [h1], fun x hx => ?_⟩
  show k * f x = _
  rw [h2 x hx, dot_scale, Int.mul_add]
theorem mon_zero : ∀ (es : List Nat) (x : List Int), es.sum = 0 → mon es x = 1
  | [], _, _ => rfl
  | e :: es, [], _ => rfl
  | e :: es, a :: x, h => by
    rw [List.sum_cons] at h
    rw [mon_cons, mon_zero es x (by omega), show e = 0 by omega]; simp
theorem mon_aff : ∀ (n : Nat) (es : List Nat), es.length = n → es.sum ≤ 1 → IsAff n (mon es)
  | 0, es, hl, _ => by
    rw [List.eq_nil_of_length_eq_zero hl]; exact ⟨1, [], rfl, fun x hx => by rw [List.eq_nil_of_length_eq_zero hx]; rfl⟩
  | n + 1, e :: es, hl, h => by
    rw [List.sum_cons] at h
    by_cases he : e = 0
    · subst he
      obtain ⟨c0, cs, h1, h2⟩ := mon_aff n es (by simpa using hl) (by omega)
      refine ⟨c0, 0 :: cs, by simp [h1], fun x hx => ?_⟩
      match x, hx with
      | a :: x, hx =>
        rw [mon_cons, h2 x (by simpa using hx)]
        show a ^ 0 * (c0 + dot cs x) = c0 + (0 * a + dot cs x)
        simp
    · have he1 : e = 1 := by omega
      subst he1
      refine ⟨0, 1 :: List.replicate n 0, by simp, fun x hx => ?_⟩
      match x, hx with
      | a :: x, hx =>
        rw [mon_cons, mon_zero es x (by omega)]
        show a ^ 1 * 1 = 0 + (1 * a + dot (List.replicate n 0) x)
        rw [dot_zero, Int.pow_succ, Int.pow_zero]; omega
theorem evT_aff {n : Nat} : ∀ (ts : List (List Nat × Int)), (∀ t ∈ ts, t.1.length = n ∧ t.1.sum ≤ 1) → IsAff n (evT ts)
  | [], _ => IsAff.const n 0
  | t :: ts, h => ((mon_aff n t.1 (h t List.mem_cons_self).1 (h t List.mem_cons_self).2).scale t.2).add (evT_aff ts fun u hu => h u (List.mem_cons_of_mem _ hu))
theorem IsAff.congr {n : Nat} {f g : Fn} (hf : IsAff n f) (h : ∀ x, x.length = n → g x = f x) : IsAff n g := by
  obtain ⟨a, as, h1, h2⟩ := hf
  exact ⟨a, as, h1, fun x hx => (h x hx).trans (h2 x hx)⟩
theorem PF.aff {n : Nat} {f : Fn} (hf : PF n 1 f) : IsAff n f := by
  obtain ⟨ts, h1, h2⟩ := hf
  exact (evT_aff ts h1).congr h2
theorem IsAff.dvd {p : Nat} (hp : Pr p) {n : Nat} {f : Fn} (hf : IsAff n f) : ((p : Int) ^ (n - 1)) ∣ S p n fun x => if f x % (p : Int) = 0 then 1 else 0 := by
  obtain ⟨c0, cs, h1, h2⟩ := hf
  have := An_dvd hp n c0 cs h1
  unfold An at this
  rw [S_congr (g := fun x => if (c0 + dot cs x) % (p : Int) = 0 then 1 else 0) fun x hx => by rw [h2 x (mem_pts.mp hx).1]]
  exact this
theorem zeroAt1 (p : Nat) (f : Fn) (x : List Int) : (if zeroAt p [f] x then (1 : Int) else 0) = if f x % (p : Int) = 0 then 1 else 0 := by
  unfold zeroAt
  by_cases h : f x % (p : Int) = 0 <;> simp [h]
theorem zeroAt2 (p : Nat) (f g : Fn) (x : List Int) : (if zeroAt p [f, g] x then (1 : Int) else 0) = if g x % (p : Int) = 0 then (if f x % (p : Int) = 0 then 1 else 0) else 0 := by
  unfold zeroAt
  by_cases h : f x % (p : Int) = 0 <;> by_cases h2 : g x % (p : Int) = 0 <;> simp [h, h2]
theorem one_aff {p : Nat} (hp : Pr p) {n : Nat} {f : Fn} (hf : IsAff n f) : p ^ (n - 1) ∣ Zn p n [f] := by
  have h := hf.dvd hp
  refine Int.natCast_dvd_natCast.mp ?_
  rw [Zn_S, S_congr (g := fun x => if f x % (p : Int) = 0 then 1 else 0) fun x _ => zeroAt1 p f x, Int.natCast_pow]
  exact h
theorem sumR_S {p n : Nat} (f : Int → List Int → Int) : (sumR p fun a => S p n (f a)) = S p n fun x => sumR p fun a => f a x := by
  unfold sumR S
  exact sum_comm _ _ _
theorem two_aff {p : Nat} (hp : Pr p) {n : Nat} {f g : Fn} (hf : IsAff n f) (hg : IsAff n g) (hn : 2 ≤ n) : p ^ (n - 2) ∣ Zn p n [f, g] := by
  have e1 : (sumR p fun a => S p n fun x => if (f x + g x * a) % (p : Int) = 0 then 1 else 0) = S p n fun x => if g x % (p : Int) = 0 then (if f x % (p : Int) = 0 then (p : Int) else 0) else 1 := by
    rw [sumR_S]
    exact S_congr fun x _ => lin_one hp (f x) (g x)
  have e2 : (S p n fun x => if g x % (p : Int) = 0 then (if f x % (p : Int) = 0 then (p : Int) else 0) else 1) = (p : Int) * (Zn p n [f, g] : Int) + ((p : Int) ^ n - S p n fun x => if g x % (p : Int) = 0 then 1 else 0) := by
    have h1 : (p : Int) ^ n = S p n fun _ => 1 := by rw [S_const]; omega
    rw [h1, Zn_S]
    unfold S
    rw [← sum_map_sub, ← sum_map_mul_left, ← sum_map_add]
    refine sum_congr _ _ _ fun x _ => ?_
    rw [zeroAt2]
    by_cases h : f x % (p : Int) = 0 <;> by_cases h2 : g x % (p : Int) = 0 <;> simp [h, h2]
  have d1 : ((p : Int) ^ (n - 1)) ∣ sumR p fun a => S p n fun x => if (f x + g x * a) % (p : Int) = 0 then 1 else 0 := by
    unfold sumR
    refine dvd_sum _ _ _ fun a _ => ?_
    exact (hf.add ((hg.scale (a : Int)).congr fun x _ => Int.mul_comm _ _)).dvd hp
  have d2 := hg.dvd hp
  have d3 : ((p : Int) ^ (n - 1)) ∣ (p : Int) ^ n := ⟨p, by rw [← Int.pow_succ]; congr 1; omega⟩
  rw [e1, e2] at d1
  have d4 := (Int.dvd_iff_dvd_of_dvd_add d1).mpr (Int.dvd_sub d3 d2)
  obtain ⟨k, hk⟩ := d4
  have e3 : (p : Int) ^ (n - 1) = (p : Int) * (p : Int) ^ (n - 2) := by rw [Int.mul_comm, ← Int.pow_succ]; congr 1; omega
  have hp0 : (p : Int) ≠ 0 := by have := hp.pos; omega
  refine Int.natCast_dvd_natCast.mp ⟨k, ?_⟩
  rw [Int.natCast_pow]
  apply Int.eq_of_mul_eq_mul_left hp0
  rw [hk, e3, Int.mul_assoc]
/-! ### Warning's second theorem, a quadratic one in four unknowns -/
theorem pf_mon1 : ∀ (n : Nat) (cs zs : List Int), cs.length = n → zs.length = n → PF n 1 fun x => dot cs (List.zipWith (· - ·) x zs)
  | 0, cs, zs, h1, h2 => by
    refine ((PF.const 0 0).mono (Nat.zero_le _)).congr fun x hx => ?_
    rw [List.eq_nil_of_length_eq_zero h1]; rfl
  | n + 1, c :: cs, z :: zs, h1, h2 => by
    obtain ⟨ts, t1, t2⟩ := pf_mon1 n cs zs (by simpa using h1) (by simpa using h2)
    refine ⟨(1 :: List.replicate n 0, c) :: (0 :: List.replicate n 0, - (c * z)) :: ts.map fun t => (0 :: t.1, t.2), fun t ht => ?_, fun x hx => ?_⟩
    · rcases List.mem_cons.mp ht with rfl | ht
      · exact ⟨by simp, by rw [List.sum_cons, sum_replicate0]; exact Nat.le_refl _⟩
      · rcases List.mem_cons.mp ht with rfl | ht
        · exact ⟨by simp, by rw [List.sum_cons, sum_replicate0]; omega⟩
        · obtain ⟨u, hu, rfl⟩ := List.mem_map.mp ht
          exact ⟨by simp [(t1 u hu).1], by rw [List.sum_cons]; have := (t1 u hu).2; omega⟩
    · match x, hx with
      | a :: x, hx =>
        have hx' : x.length = n := by simpa using hx
        show c * (a - z) + dot cs (List.zipWith (· - ·) x zs) = c * mon (1 :: List.replicate n 0) (a :: x) + (-(c * z) * mon (0 :: List.replicate n 0) (a :: x) + evT (ts.map fun t => (0 :: t.1, t.2)) (a :: x))
        have q := t2 x hx'
        have q' : dot cs (List.zipWith (· - ·) x zs) = evT ts x := q
        have e : evT (ts.map fun t => (0 :: t.1, t.2)) (a :: x) = evT ts x := by
          unfold evT
          rw [List.map_map]
          refine sum_congr _ _ _ fun t _ => ?_
          show t.2 * mon (0 :: t.1) (a :: x) = _
          rw [mon_cons, Int.pow_zero, Int.one_mul]
        rw [q', e, mon_cons, mon_cons, mon_replicate0, Int.pow_zero, Int.pow_succ, Int.pow_zero, Int.mul_sub]
        simp only [Int.one_mul, Int.mul_one]
        omega
theorem dot_comm : ∀ (a b : List Int), dot a b = dot b a
  | [], [] => rfl
  | [], _ :: _ => rfl
  | _ :: _, [] => rfl
  | x :: a, y :: b => by
    show x * y + dot a b = y * x + dot b a
    rw [dot_comm a b, Int.mul_comm]
theorem sub_all {p : Nat} : ∀ {n : Nat} {x z : List Int}, x ∈ pts p n → z ∈ pts p n → x ≠ z → ∃ c ∈ List.zipWith (· - ·) x z, ¬ c % (p : Int) = 0 := by
  intro n x z hx hz
  obtain ⟨h1, h2⟩ := mem_pts.mp hx
  obtain ⟨h3, h4⟩ := mem_pts.mp hz
  clear hx hz
  induction n generalizing x z with
  | zero =>
    intro h
    rw [List.eq_nil_of_length_eq_zero h1, List.eq_nil_of_length_eq_zero h3] at h
    exact absurd rfl h
  | succ n ih =>
    match x, z, h1, h3 with
    | a :: x, b :: z, h1, h3 =>
      intro h
      by_cases e : a = b
      · subst e
        obtain ⟨c, hc, hn⟩ := ih (by simpa using h1) (fun q hq => h2 q (List.mem_cons_of_mem _ hq)) (by simpa using h3) (fun q hq => h4 q (List.mem_cons_of_mem _ hq)) (fun e => h (by rw [e]))
        exact ⟨c, by simp only [List.zipWith_cons_cons]; exact List.mem_cons_of_mem _ hc, hn⟩
      · refine ⟨a - b, by simp only [List.zipWith_cons_cons]; exact List.mem_cons_self, fun hm => ?_⟩
        have ha := h2 a List.mem_cons_self
        have hb := h4 b List.mem_cons_self
        obtain ⟨k, hk⟩ := Int.dvd_of_emod_eq_zero hm
        rcases (show k ≤ -1 ∨ k = 0 ∨ 1 ≤ k by omega) with q | q | q
        · have := Int.mul_le_mul_of_nonneg_left q (show (0 : Int) ≤ p by omega); omega
        · rw [q] at hk; omega
        · have := Int.mul_le_mul_of_nonneg_left q (show (0 : Int) ≤ p by omega); omega
theorem once {p : Nat} : ∀ (n : Nat) (z : List Int), (S p n fun x => if x = z then 1 else 0) ≤ 1
  | 0, z => by
    rw [S_zero]
    split <;> omega
  | n + 1, z => by
    rw [S_succ]
    have hR : ∀ b : Int, (sumR p fun a => if a = b then 1 else 0) ≤ 1 := by
      intro b
      unfold sumR
      have : ∀ m : Nat, ((List.range m).map fun (i : Nat) => if (i : Int) = b then (1 : Int) else 0).sum = if 0 ≤ b ∧ b < m then 1 else 0 := by
        intro m
        induction m with
        | zero => rw [if_neg (by omega)]; rfl
        | succ m ih =>
          rw [List.range_succ, List.map_append, List.sum_append, ih]
          simp only [List.sum_nil, List.sum_cons, List.map_nil, List.map_cons]
          by_cases h1 : 0 ≤ b ∧ b < (m : Int)
          · rw [if_pos h1, if_neg (by omega), if_pos (by omega)]; rfl
          · rw [if_neg h1]
            by_cases h2 : (m : Int) = b
            · rw [if_pos h2, if_pos (by omega)]; rfl
            · rw [if_neg h2, if_neg (by omega)]; rfl
      rw [this]
      split <;> omega
    by_cases hz : z = []
    · have : (S p n fun row => sumR p fun a => if row ++ [a] = z then (1 : Int) else 0) = S p n fun _ => 0 := by
        refine S_congr fun row _ => ?_
        unfold sumR
        refine Eq.trans (sum_congr _ _ (fun _ => 0) fun a _ => ?_) (sum_map_zero _)
        show (if row ++ [(a : Int)] = z then (1 : Int) else 0) = 0
        rw [hz]
        rw [if_neg (by simp)]
      rw [this, S_const]; omega
    · obtain ⟨z', b, rfl⟩ : ∃ z' b, z = z' ++ [b] := ⟨z.dropLast, z.getLast hz, (List.dropLast_concat_getLast hz).symm⟩
      refine Int.le_trans ?_ (once (p := p) n z')
      unfold S
      refine sum_le _ _ _ fun row _ => ?_
      by_cases h : row = z'
      · rw [if_pos h]
        refine Int.le_trans (Int.le_of_eq ?_) (hR b)
        unfold sumR
        refine sum_congr _ _ _ fun a _ => ?_
        show (if row ++ [(a : Int)] = z' ++ [b] then (1 : Int) else 0) = if (a : Int) = b then 1 else 0
        rw [h]
        by_cases e : (a : Int) = b
        · rw [if_pos e, if_pos (by rw [e])]
        · rw [if_neg e, if_neg (by simpa using e)]
      · rw [if_neg h]
        refine Int.le_of_eq ?_
        unfold sumR
        refine Eq.trans (sum_congr _ _ (fun _ => 0) fun a _ => ?_) (sum_map_zero _)
        show (if row ++ [(a : Int)] = z' ++ [b] then (1 : Int) else 0) = 0
        rw [if_neg]
        intro e
        exact h (List.append_inj_left' e rfl)
theorem quad {p : Nat} (hp : Pr p) {f : Fn} (hf : PF 4 2 f) (hz : Zn p 4 [f] ≠ 0) : p ^ 2 ≤ Zn p 4 [f] := by
  have hpos := hp.pos
  obtain ⟨z, hm⟩ : ∃ z, z ∈ (pts p 4).filter (zeroAt p [f]) := by
    cases e : (pts p 4).filter (zeroAt p [f]) with
    | nil => exact absurd (by unfold Zn; rw [e]; rfl) hz
    | cons z r => exact ⟨z, List.mem_cons_self⟩
  obtain ⟨hzp, hz0⟩ := List.mem_filter.mp hm
  have hzl := (mem_pts.mp hzp).1
  -- for each c: p divides the zeros on the plane of c through z
  have hN : ∀ c ∈ pts p 4, (p : Int) ≤ (Zn p 4 [f, fun x => dot c (List.zipWith (· - ·) x z)] : Int) := by
    intro c hc
    have d := cw hp [f, fun x => dot c (List.zipWith (· - ·) x z)] [2, 1] rfl (fun q hq => by
      obtain rfl | hq := List.mem_cons.mp hq
      · exact hf
      · have : q = (fun x => dot c (List.zipWith (· - ·) x z), 1) := by simpa using hq
        rw [this]
        exact pf_mon1 4 c z (mem_pts.mp hc).1 hzl) (by decide)
    have pos : 0 < Zn p 4 [f, fun x => dot c (List.zipWith (· - ·) x z)] := by
      unfold Zn
      refine List.length_pos_of_mem (a := z) (List.mem_filter.mpr ⟨hzp, ?_⟩)
      have e0 : ∀ (n : Nat) (c z : List Int), dot c (List.zipWith (· - ·) z z) = 0 := by
        intro n c
        induction c with
        | nil => intro z; rfl
        | cons a c ih =>
          intro z
          cases z with
          | nil => rfl
          | cons b z =>
            show a * (b - b) + dot c (List.zipWith (· - ·) z z) = 0
            rw [ih z, Int.sub_self]; simp
      unfold zeroAt at hz0 ⊢
      simp only [List.all_cons, List.all_nil, Bool.and_true] at hz0 ⊢
      rw [hz0, e0 4 c z]
      simp
    have := Nat.le_of_dvd pos d
    omega
  have hsum : (p : Int) ^ 4 * p ≤ S p 4 fun c => (Zn p 4 [f, fun x => dot c (List.zipWith (· - ·) x z)] : Int) := by
    rw [← S_const]
    exact sum_le _ _ _ hN
  have hM : ∀ x ∈ pts p 4, (S p 4 fun c => if zeroAt p [f, fun x => dot c (List.zipWith (· - ·) x z)] x then (1 : Int) else 0) ≤
      (if zeroAt p [f] x then (p : Int) ^ 3 else 0) + (if x = z then (p : Int) ^ 4 - (p : Int) ^ 3 else 0) := by
    intro x hx
    by_cases hfx : f x % (p : Int) = 0
    · have z1 : zeroAt p [f] x = true := by unfold zeroAt; simp [hfx]
      have e : (S p 4 fun c => if zeroAt p [f, fun x => dot c (List.zipWith (· - ·) x z)] x then (1 : Int) else 0) = An p 4 0 (List.zipWith (· - ·) x z) := by
        unfold An
        refine S_congr fun c _ => ?_
        rw [zeroAt2, if_pos hfx, dot_comm, Int.zero_add]
      rw [e, z1]
      simp only [if_true]
      by_cases hxz : x = z
      · rw [if_pos hxz]
        have : An p 4 0 (List.zipWith (· - ·) x z) ≤ S p 4 fun _ => 1 := by
          unfold An
          refine sum_le _ _ _ fun a _ => ?_
          split <;> omega
        rw [S_const] at this
        omega
      · rw [if_neg hxz, An_exact hp 4 0 _ (by simp [hzl, (mem_pts.mp hx).1]) (sub_all hx hzp hxz)]
        show (p : Int) ^ 3 ≤ _
        omega
    · have e : (S p 4 fun c => if zeroAt p [f, fun x => dot c (List.zipWith (· - ·) x z)] x then (1 : Int) else 0) = S p 4 fun _ => 0 := by
        refine S_congr fun c _ => ?_
        rw [zeroAt2, if_neg hfx]
        split <;> rfl
      rw [e, S_const]
      have h34 : (p : Int) ^ 3 ≤ (p : Int) ^ 4 := by rcases hp with rfl | rfl | rfl | rfl <;> decide
      have h3 : 0 ≤ (p : Int) ^ 3 := by rcases hp with rfl | rfl | rfl | rfl <;> decide
      split <;> split <;> omega
  have hswap : (S p 4 fun c => (Zn p 4 [f, fun x => dot c (List.zipWith (· - ·) x z)] : Int)) = S p 4 fun x => S p 4 fun c => if zeroAt p [f, fun x => dot c (List.zipWith (· - ·) x z)] x then (1 : Int) else 0 := by
    rw [show (fun c => (Zn p 4 [f, fun x => dot c (List.zipWith (· - ·) x z)] : Int)) = fun c => S p 4 fun x => if zeroAt p [f, fun x => dot c (List.zipWith (· - ·) x z)] x then (1 : Int) else 0 from funext fun c => Zn_S _ _ _]
    unfold S
    exact sum_comm _ _ _
  have hle : (S p 4 fun x => S p 4 fun c => if zeroAt p [f, fun x => dot c (List.zipWith (· - ·) x z)] x then (1 : Int) else 0) ≤ (p : Int) ^ 3 * (Zn p 4 [f] : Int) + ((p : Int) ^ 4 - (p : Int) ^ 3) * S p 4 fun x => if x = z then 1 else 0 := by
    refine Int.le_trans (sum_le _ _ _ hM) (Int.le_of_eq ?_)
    rw [sum_map_add, Zn_S]
    unfold S
    rw [← sum_map_mul_left, ← sum_map_mul_left]
    congr 1
    · refine sum_congr _ _ _ fun x _ => ?_
      split <;> simp
    · refine sum_congr _ _ _ fun x _ => ?_
      split <;> simp
  have h1 := once (p := p) 4 z
  have hdv := cw hp [f] [2] rfl (fun q hq => by
    have : q = (f, 2) := by simpa using hq
    rw [this]; exact hf) (by decide)
  obtain ⟨k, hk⟩ := hdv
  generalize (S p 4 fun x => if x = z then (1 : Int) else 0) = u at hle h1
  rw [hswap] at hsum
  have hall := Int.le_trans hsum hle
  rw [hk] at hall ⊢
  have h34 : (0 : Int) ≤ (p : Int) ^ 4 - (p : Int) ^ 3 := by rcases hp with rfl | rfl | rfl | rfl <;> decide
  have hu := Int.mul_le_mul_of_nonneg_left h1 h34
  generalize ((p : Int) ^ 4 - (p : Int) ^ 3) * u = v at hall hu
  rcases hp with rfl | rfl | rfl | rfl <;> simp only [Int.natCast_mul] at hall <;> omega
end Pz
namespace Pz
open PySem PySem.Spec L2 PyProof.Rows
/-! ### defs that know that no repr is under way around them -/
abbrev SpF := List V → Hp → VK → Prop
structure FnG (P : Program) (w : World) (K : PySem.W.Frag) (mg : Str → Option Value) (base : Heap) (k : Nat) (f : Addr) (fd : FuncData) (ps : List Str) (sp : SpF) : Prop where
  len : ∀ vs H Q, sp vs H Q → vs.length = ps.length
  go : ∀ (A : Around) (out : List Env) (s : Shared) (H : Hp) (as : Args) (us : List Value) (vs : List V) (Q : VK), A.guards = some [] → Room k A → Env0 P w K mg base A out s H →
    BindsTo s fd as (ps.zip us) → Vals vs us → sp vs H Q → codeAny (model P w) A (.call (.ref f) as) (CR CX0 out P w H s Q E0) s
theorem FnG.up {P : Program} {w : World} {K : PySem.W.Frag} {mg : Str → Option Value} {base : Heap} {j k : Nat} {f : Addr} {fd : FuncData} {ps : List Str} {sp : SpF}
    (F : FnG P w K mg base j f fd ps sp) (h : j ≤ k) : FnG P w K mg base k f fd ps sp := ⟨F.len, fun A out s H as us vs Q g r => F.go A out s H as us vs Q g (r.mono h)⟩
section
variable {w : World} {P : Program} {mg : Str → Option Value} {K : PySem.W.Frag} {base : Heap}
/-- a def by its body -/
theorem fnG_of {x qual : Str} {st : Stmt} {f : Addr} {fd : FuncData} {N ps : List Str} {k : Nat} {sp : SpF} (F : Fun K x qual st f fd) (S : FnScope N ps (defScope st)) (len : ∀ vs H Q, sp vs H Q → vs.length = ps.length)
    (body : ∀ (cd : Value) (A : Around) (out : List Env) (s : Shared) (H : Hp) (vs : List V) (Q : VK), A.guards = some [] → Room k (A.deeper (envOfC qual (defScope st) s.heap.objs.size f cd)) → sp vs H Q →
      ∃ t, PSs (cxOf CX0 P w K mg base N qual (defScope st) f cd A out s H E0).nox (defBody st) t ∧ t { nx := fun _ H' => Q .non H', rt := Q } (start N vs) H) : FnG P w K mg base (k + 1) f fd ps sp := by
  obtain ⟨oc, od, kV, dc, pm, an, cd, ct, sl, rfl, look, hc⟩ := F.ex
  constructor
  · exact len
  intro A out s H as us vs Q hG room e0 bt rel hs
  have nLim : s.heap.NoLimit := e0.mod.nolimit.keeps fun b ob z => (e0.bs b ob z).1
  have kinds : ∀ y ∈ ps.zip us, (defScope st).names.lookup y.1 = some .local ∨ ((defScope st).names.lookup y.1 = some .cell ∧ ((cellsFrom (s.heap.objs.size + 1) (defScope st).names []).lookup y.1).isSome = true) := by
    rintro ⟨n, u⟩ hy
    cases S.par n (List.of_mem_zip hy).1 with
    | inl z => exact .inl z
    | inr z => exact .inr ⟨z, PySem.W.cellsFrom_some _ _ _ (.inl z)⟩
  have inn : K.In s.heap := e0.mod.kin.keeps fun b ob z => (e0.bs b ob z).1
  refine codeAny_call_function room.depth (inn _ _ look) rfl S.co S.gen rfl (PySem.W.codeRec_of inn hc) (bt _ _ _ _ (wpAny_newFunctionEnv_cells S.kind kinds fun ev hev s' ic => ?_))
  subst hev
  obtain ⟨t, pb, rd⟩ := body cd A out s H vs Q hG (room.deeper _) hs
  have J := inv_start (CX := CX0) (E := E0) S room.hd e0 (len _ _ _ hs) rel ic
  refine ⟨nLim.keeps ic.toInCall.keep, codeAny_func (wpAny_mono (pb.nox.run [] s' (start N vs) H _ J rd) (fun fl s2 hq => ?_) fun _ _ z => z)⟩
  cases fl with
  | brk => exact hq.elim fun _ z => z.elim fun _ z => z.2.elim
  | cont => exact hq.elim fun _ z => z.elim fun _ z => z.2.elim
  | next =>
    obtain ⟨σ2, H2, J2, q⟩ := hq
    exact ⟨.non, H2, J2.os, J2.bare, J2.base, J2.hok, rfl, q⟩
  | ret u =>
    obtain ⟨v, σ2, H2, J2, ru, q⟩ := hq
    exact ⟨v, H2, J2.os, J2.bare, J2.base, J2.hok, ru, q⟩
/-- a def of the module as it stands behind the top -/
def DefAt (K : PySem.W.Frag) (mg : Str → Option Value) (x : Str) (st : Stmt) (ps : List Str) : Prop := ∃ f fd, Fun K x x st f fd ∧ mg x = some (.ref f) ∧ Binds K fd ps []
/-- a def that keeps its promise -/
def Ok (P : Program) (w : World) (K : PySem.W.Frag) (mg : Str → Option Value) (base : Heap) (x : Str) (k : Nat) (sp : SpF) : Prop :=
  ∃ f fd ps, FnG P w K mg base k f fd ps sp ∧ mg x = some (.ref f) ∧ PySem.W.keepIn K (.ref f) = true ∧ Binds K fd ps []
theorem Ok.up {x : Str} {j k : Nat} {sp : SpF} (h : Ok P w K mg base x j sp) (hk : j ≤ k) : Ok P w K mg base x k sp := let ⟨f, fd, ps, F, r⟩ := h; ⟨f, fd, ps, F.up hk, r⟩
theorem ok_of {x : Str} {st : Stmt} {N ps : List Str} {k : Nat} {sp : SpF} (D : DefAt K mg x st ps) (S : FnScope N ps (defScope st)) (len : ∀ vs H Q, sp vs H Q → vs.length = ps.length)
    (body : ∀ (f : Addr) (cd : Value) (A : Around) (out : List Env) (s : Shared) (H : Hp) (vs : List V) (Q : VK), A.guards = some [] → Room k (A.deeper (envOfC x (defScope st) s.heap.objs.size f cd)) → sp vs H Q →
      ∃ t, PSs (cxOf CX0 P w K mg base N x (defScope st) f cd A out s H E0).nox (defBody st) t ∧ t { nx := fun _ H' => Q .non H', rt := Q } (start N vs) H) : Ok P w K mg base x (k + 1) sp := by
  obtain ⟨f, fd, F, g, b⟩ := D
  exact ⟨f, fd, ps, fnG_of F S len (body f), g, F.kp, b⟩
end
section
variable {X : Cx} {x : Str} {k : Nat} {sp : SpF} {p pos : Pos} {e : Expr} {es : List Expr} {t : TA}
def tCal (sp : SpF) (t : TA) : TE := fun σ H Q => t σ H fun vs H1 => sp vs H1 Q
theorem run_okG {pins : List (Addr × Obj)} {σ : L2.St} {H : Hp} {s : Shared} {Q : VK} {us : List Value} {vs : List V} {f : Addr} {fd : FuncData} {ps : List Str} (F : FnG X.prog X.w X.K X.mg X.base k f fd ps sp) (hG : X.A.guards = some []) (room : Room k X.A) (b : Binds X.K fd ps [])
    (I : Inv X pins σ H s) (rel : Vals vs us) (h : sp vs H Q) : wpAny (model X.prog X.w) X.A (call (.ref f) us) (EP X pins σ Q) X.xe s := by
  have l : (us ++ []).length = ps.length := by rw [List.append_nil, ← rel.length]; exact F.len _ _ _ h
  have bt := b s us I.kIn l
  rw [List.append_nil] at bt
  refine wpAny_call (codeAny_mono (F.go X.A X.stack s H ⟨us, []⟩ us vs Q hG room I.env0 bt rel h) fun res s' hq => ?_)
  match res, hq with
  | .error _, hq => exact (show False from hq).elim
  | .ok (.ret u), hq => exact I.after hq
  | .ok .next, hq => exact (show False from hq).elim
  | .ok .brk, hq => exact (show False from hq).elim
  | .ok .cont, hq => exact (show False from hq).elim
/-- x(e, ..) -/
theorem pe_ok (O : Ok X.prog X.w X.K X.mg X.base x k sp) (hG : X.A.guards = some []) (room : Room k X.A) (gl : Gl X x) (ha : PA X (e :: es) t) (nd : (x == ("__debug__" : Str)) = false := by decide)
    (st : starEach (e :: es) X.env = (false, eval e X.env) :: starEach es X.env := by rfl) (pl : (backTo pos (starEach es X.env)).any (·.1) = false := by rfl) : PE X (.Call (.Name x p) (e :: es) [] pos) (tCal sp t) := by
  obtain ⟨f, fd, ps, F, g, kp, b⟩ := O
  constructor
  intro pins s σ H Q I h
  refine wpAny_Call_Name_kw (ld_glob I gl g ?_ nd)
  refine PySem.W.callWith_K (h₀ := X.base) I.ok.mod.kin kp (thn (ha.run pos pins s σ H _ I h) fun us s1 ⟨vs, H1, I1, rel, q⟩ => ⟨I1.kIn, run_okG F hG room b I1 rel q⟩) st pl
/-- x() -/
theorem pe_ok0 (O : Ok X.prog X.w X.K X.mg X.base x k sp) (hG : X.A.guards = some []) (room : Room k X.A) (gl : Gl X x) (nd : (x == ("__debug__" : Str)) = false := by decide) : PE X (.Call (.Name x p) [] [] pos) (tCal sp tNil) := by
  obtain ⟨f, fd, ps, F, g, kp, b⟩ := O
  constructor
  intro pins s σ H Q I h
  exact wpAny_Call_Name_kw (ld_glob I gl g (PySem.W.callWith_K0 I.kIn kp (run_okG (us := []) F hG room b I .nil h)) nd)
/-- what is walked is a list or a tuple -/
def iOr (a b : TI) : TI := fun σ H R => a σ H R ∨ b σ H R
theorem pi_or {tg it : Expr} {a b : TI} (h1 : PI X tg it a) (h2 : PI X tg it b) : PI X tg it (iOr a b) := ⟨fun pins s σ H R I h => h.elim (h1.run pins s σ H R I) (h2.run pins s σ H R I)⟩
theorem pi_seq {tg it : Expr} {te : TE} (h : PE X it te) : PI X tg it (iOr (iList X.K te) (iTup X.K te)) := pi_or (pi_list h) (pi_tup h)
/-- repr of data -/
def rRepr (K : PySem.W.Frag) : List V → Hp → VK → Prop := fun vs H Q => ∃ a d, vs = [.ref a] ∧ Dp K H (.ref a) d ∧ d.showable = true ∧ d.hasDict = false ∧ d.depth ≤ 60 ∧ d.shown.length ≤ sizeLine ∧ Q (.str d.shown) H
theorem call_reprD (hG : X.A.guards = some []) (room : X.A.units + 64 < cLine) : CallR X (.builtin "repr") (rRepr X.K) := by
  intro pins s σ H vs us Q I rel h
  obtain ⟨a, d, rfl, hd, sh, nd, dp, sz, q⟩ := h
  rw [Vals.ref1 rel]
  obtain ⟨as, rd⟩ := Dp.reads I d (.ref a) (.ref a) hd rfl
  refine repr_of_reads' rd sh (fun z => by rw [nd] at z; cases z) hG (by omega) (fun _ _ z => z) (fun h' u tk kp => ?_) sz
  exact ⟨.str d.shown, H, I.kept kp, ⟨_, rfl⟩, q⟩
end
end Pz
namespace Pz
open PySem PySem.Spec L2 PyProof.Rows
/-! ### data, every part of it tracked -/
mutual
inductive Dh (H : Hp) : V → PyData → Prop
  | non : Dh H .non .none
  | bl (b : Bool) : Dh H (.bl b) (.bool b)
  | int (i : Int) : Dh H (.int i) (.int i)
  | str (x : Str) : Dh H (.str x) (.str x)
  | lst {a : Addr} {xs : List V} {ds : List PyData} : H a = some (.lst xs) → DhA H xs ds → Dh H (.ref a) (.list ds)
  | tup {a : Addr} {xs : List V} {ds : List PyData} : H a = some (.tup xs) → DhA H xs ds → Dh H (.ref a) (.tuple ds)
inductive DhA (H : Hp) : List V → List PyData → Prop
  | nil : DhA H [] []
  | cons {v : V} {vs : List V} {d : PyData} {ds : List PyData} : Dh H v d → DhA H vs ds → DhA H (v :: vs) (d :: ds)
end
/-- lists, tuples and what is locked stand -/
def keepO : HO → Prop
  | .lst _ => True
  | .tup _ => True
  | .frz _ _ => True
  | _ => False
def Sx (H H' : Hp) : Prop := ∀ a o, keepO o → H a = some o → H' a = some o
theorem Sx.refl (H : Hp) : Sx H H := fun _ _ _ h => h
theorem Sx.trans {H H1 H2 : Hp} (a : Sx H H1) (b : Sx H1 H2) : Sx H H2 := fun p o k h => b p o k (a p o k h)
theorem Sx.of {H H' : Hp} (e : Evl.Ex H H') : Sx H H' := fun a o _ h => e a o h
/-- a dict changed -/
theorem Sx.dict {H : Hp} {a : Addr} {o u : HO} (h : H a = some u) (n : ¬ keepO u) : Sx H (upd H a o) := fun b w k e => by
  rw [upd_ne (fun z => by subst z; rw [h] at e; cases e; exact n k)]
  exact e
mutual
theorem Dh.mono {H H' : Hp} (e : Sx H H') : ∀ {v : V} {d : PyData}, Dh H v d → Dh H' v d
  | _, _, .non => .non
  | _, _, .bl b => .bl b
  | _, _, .int i => .int i
  | _, _, .str x => .str x
  | _, _, .lst h t => .lst (e _ _ trivial h) (DhA.mono e t)
  | _, _, .tup h t => .tup (e _ _ trivial h) (DhA.mono e t)
theorem DhA.mono {H H' : Hp} (e : Sx H H') : ∀ {vs : List V} {ds : List PyData}, DhA H vs ds → DhA H' vs ds
  | _, _, .nil => .nil
  | _, _, .cons h t => .cons (Dh.mono e h) (DhA.mono e t)
end
mutual
theorem Dh.dp {K : PySem.W.Frag} {H : Hp} : ∀ {v : V} {d : PyData}, Dh H v d → Dp K H v d
  | _, _, .non => .non
  | _, _, .bl b => .bl b
  | _, _, .int i => .int i
  | _, _, .str x => .str x
  | _, _, .lst h t => .lst (.inl (.inl h)) (DhA.dp t)
  | _, _, .tup h t => .tup (.inl (.inl h)) (DhA.dp t)
theorem DhA.dp {K : PySem.W.Frag} {H : Hp} : ∀ {vs : List V} {ds : List PyData}, DhA H vs ds → DpAll K H vs ds
  | _, _, .nil => .nil
  | _, _, .cons h t => .cons (Dh.dp h) (DhA.dp t)
end
theorem DhA.len {H : Hp} : ∀ {vs : List V} {ds : List PyData}, DhA H vs ds → vs.length = ds.length
  | _, _, .nil => rfl
  | _, _, .cons _ t => by rw [List.length_cons, List.length_cons, DhA.len t]
theorem DhA.get {H : Hp} : ∀ {vs : List V} {ds : List PyData} {i : Nat} {d : PyData}, DhA H vs ds → ds[i]? = some d → ∃ v, vs[i]? = some v ∧ Dh H v d
  | _, _, 0, _, .cons h _, e => by
    simp at e; subst e; exact ⟨_, rfl, h⟩
  | _, _, i + 1, d, .cons _ t, e => by
    obtain ⟨v, h1, h2⟩ := DhA.get (i := i) (d := d) t (by simpa using e)
    exact ⟨v, by simpa using h1, h2⟩
theorem DhA.get' {H : Hp} : ∀ {vs : List V} {ds : List PyData} {i : Nat} {v : V}, DhA H vs ds → vs[i]? = some v → ∃ d, ds[i]? = some d ∧ Dh H v d
  | _, _, 0, _, .cons h _, e => by
    simp at e; subst e; exact ⟨_, rfl, h⟩
  | _, _, i + 1, v, .cons _ t, e => by
    obtain ⟨d, h1, h2⟩ := DhA.get' (i := i) (v := v) t (by simpa using e)
    exact ⟨d, by simpa using h1, h2⟩
theorem DhA.app {H : Hp} : ∀ {vs ws : List V} {ds es : List PyData}, DhA H vs ds → DhA H ws es → DhA H (vs ++ ws) (ds ++ es)
  | _, _, _, _, .nil, h => h
  | _, _, _, _, .cons h t, k => .cons h (DhA.app t k)
theorem DhA.ints {H : Hp} : ∀ {vs : List V} {ns : List Int}, DhA H vs (ns.map .int) → vs = ns.map V.int
  | _, [], .nil => rfl
  | _, n :: ns, .cons h t => by
    cases h
    rw [DhA.ints t]; rfl
theorem dha_ints {H : Hp} : ∀ ns : List Int, DhA H (ns.map V.int) (ns.map .int)
  | [] => .nil
  | n :: ns => .cons (.int n) (dha_ints ns)
theorem DhA.bls {H : Hp} : ∀ {vs : List V} {bs : List Bool}, DhA H vs (bs.map .bool) → vs = bs.map V.bl
  | _, [], .nil => rfl
  | _, b :: bs, .cons h t => by
    cases h
    rw [DhA.bls t]; rfl
theorem dh_ptI {H : Hp} {v : V} {ns : List Int} (h : Dh H v (.tuple (ns.map .int))) : ∃ a, v = .ref a ∧ H a = some (.tup (ns.map V.int)) := by
  cases h with
  | tup h t => exact ⟨_, rfl, by rw [h, DhA.ints t]⟩
section
variable {w : World} {prog : Program} {E : Value → Shared → Prop} {A : Around} {s : Shared}
theorem sum_tupRaw {t : Addr} {its : List Value} {ns : List Int} {Q : Value → Shared → Prop} (hh : A.handled = none) (ht : s.heap.IsTuple t its.toArray) (hi : IntsAre its ns)
    (h : ∀ h' tk t', (∀ b o, s.heap.get? b = some o → h'.get? b = some o) → Q (.int ns.sum t') { s with heap := h', toks := tk }) : wpAny (model prog w) A (call (.builtin "sum") [.ref t]) Q E s := by
  have ⟨pairs, made⟩ := hi.allInts.items
  have nums : numsOf (intItems pairs).toList = ns := made ▸ hi.numsOf
  rw [nums_intItems] at nums
  rw [made] at ht
  have total : preSum (numAt pairs) pairs.size = ns.sum := by rw [preSum_eq, List.take_of_length_le (by simp), nums]
  exact PySem.W.ktm_sumG hh ht fun h' tk t' keeps => total ▸ h h' tk t' keeps
end
section
variable {X : Cx}
/-- sum of a tuple of ints, of a list of ints -/
def rSumA : List V → Hp → VK → Prop := fun vs H Q => ∃ (v : V) (ns : List Int), vs = [v] ∧ (Dh H v (.tuple (ns.map .int)) ∨ Dh H v (.list (ns.map .int))) ∧ Q (.int ns.sum) H
theorem cr_sumA (hc : X.calm = true) : CallR X (.builtin "sum") rSumA := by
  intro pins s σ H vs us Q I r h; obtain ⟨v, ns, rfl, hd | hd, q⟩ := h
  · obtain ⟨a, rfl, ha⟩ := dh_ptI hd
    obtain ⟨its, rv, ht, _⟩ := I.tuple (.inl (.inl ha))
    rw [Vals.ref1 r]
    exact sum_tupRaw (I.ok.hd hc) (show s.heap.IsTuple a its.toArray from ht) rv.ints fun h' tk t' hk => ⟨.int _, H, I.kept hk, ⟨_, rfl⟩, q⟩
  · cases hd with
    | lst ha t =>
      rw [DhA.ints t] at ha
      exact cr_sum hc pins s σ H _ us Q I r ⟨_, ns, rfl, .inl (.inl ha), q⟩
/-- t >= u of tuples of ints: t is the lesser -/
def rGeF : R2 := fun x y H Q => ∃ (ns ms : List Int), Dh H x (.tuple (ns.map .int)) ∧ Dh H y (.tuple (ms.map .int)) ∧ ns.length = ms.length ∧ ns < ms ∧ Q (.bl false) H
theorem lexAt_ge : ∀ (ns ms : List Int) (z : Bool), ns.length = ms.length → ns < ms → ∀ (i : Nat) (e r : Nat → Bool), (∀ j, e (i + j) = decide (ns.getD j 0 = ms.getD j 0)) → (∀ j, r (i + j) = decide (ms.getD j 0 ≤ ns.getD j 0)) →
    Ob.lexAt e r z i ns.length = false
  | [], [], _, _, h, _, _, _, _, _ => absurd h (List.lt_irrefl [])
  | n :: ns, m :: ms, z, hl, h, i, e, r, he, hr => by
    show Ob.lexAt e r z i (ns.length + 1) = false
    rw [Ob.lexAt_succ]
    have e0 : e i = decide (n = m) := by simpa using he 0
    have r0 : r i = decide (m ≤ n) := by simpa using hr 0
    rw [List.cons_lt_cons_iff] at h
    rcases h with h | ⟨h1, h2⟩
    · rw [e0, decide_eq_false (by omega), if_neg Bool.false_ne_true, r0, decide_eq_false (by omega)]
    · rw [e0, decide_eq_true h1, if_pos rfl]
      refine lexAt_ge ns ms z (by simpa using hl) h2 (i + 1) e r (fun j => ?_) fun j => ?_
      · have := he (j + 1)
        rw [show i + (j + 1) = i + 1 + j by omega] at this
        simpa using this
      · have := hr (j + 1)
        rw [show i + (j + 1) = i + 1 + j by omega] at this
        simpa using this
  | [], _ :: _, _, h, _, _, _, _, _, _ => by simp at h
  | _ :: _, [], _, h, _, _, _, _, _, _ => by simp at h
theorem op_geF (hu : X.A.units < cLine) : OpR X (compareOp .GtE) rGeF := by
  intro pins s σ H x y v u Q I rx ry h; obtain ⟨ns, ms, hx, hy, hl, lt, q⟩ := h
  obtain ⟨a, rfl, ha⟩ := dh_ptI hx
  obtain ⟨b, rfl, hb⟩ := dh_ptI hy
  cases rx
  cases ry
  obtain ⟨is, r1, p1, _⟩ := I.tuple (.inl (.inl ha))
  obtain ⟨js, r2, p2, _⟩ := I.tuple (.inl (.inl hb))
  have i1 : IntsAre is ns := Vals.ints r1
  have i2 : IntsAre js ms := Vals.ints r2
  have z1 : is.toArray.size = ns.length := by rw [List.size_toArray]; exact i1.length
  have z2 : js.toArray.size = ms.length := by rw [List.size_toArray]; exact i2.length
  have w1 : ∀ j (h1 : j < is.toArray.size), ∃ t, is.toArray[j] = .int (ns.getD j 0) t := fun j h1 => PyProof.Rows.IntsAre.int_at i1 _ _ (by simp at h1; simp [h1])
  have w2 : ∀ j (h1 : j < js.toArray.size), ∃ t, js.toArray[j] = .int (ms.getD j 0) t := fun j h1 => PyProof.Rows.IntsAre.int_at i2 _ _ (by simp at h1; simp [h1])
  have R := Ob.RcOp.tuples_ge (A := X.A) (s := s) (e := fun j => decide (ns.getD j 0 = ms.getD j 0)) (r := fun j => decide (ms.getD j 0 ≤ ns.getD j 0)) p1 p2 hu (fun j h1 h2 => by
    obtain ⟨t, et⟩ := w1 j h1
    obtain ⟨t', et'⟩ := w2 j h2
    rw [et, et', show decide (ns.getD j 0 = ms.getD j 0) = (ns.getD j 0 == ms.getD j 0) from rfl]
    exact SeqAt.EqAt.int_int _ _ _ _) (fun j h1 h2 _less => by
    obtain ⟨t, et⟩ := w1 j h1
    obtain ⟨t', et'⟩ := w2 j h2
    rw [et, et']
    exact Ob.RcOp.ge_int _ _ _ _)
  rw [z1, z2, ← hl, Nat.min_self, lexAt_ge ns ms _ hl lt 0 _ _ (fun j => by simp) fun j => by simp] at R
  exact R X.prog X.w X.xe (EP X pins σ Q) ⟨.bl false, H, I, rfl, q⟩
end
section
theorem tup_mul1 (l : Addr) (items : Array Value) (n : Nat) (dd : Option Addr) (sl : Array (Option Value)) (u : Tok) :
    Meets (Builtin.«tuple.__mul__» ⟨[.ref l, .int 1 u], []⟩) (fun _ R s => s.heap.get? l = some { cls := .type "tuple", dict := dd, data := .seq items n, slots := sl } ∧ R (.ok (.ret (Value.ref l))) s) := .of_wp fun prog w A R s h => by
    obtain ⟨hl, h⟩ := h
    obtain ⟨hp, gn, dr, tk, os⟩ := s
    have ix := AutoSeq1.idx_int
    have c1 : (items.isEmpty || (1 : Int) == 1) = true := by simp
    wp_walk using wpAny_loadPart' hl; repeat (first
      | (refine wpAny_ite_true (by rw [c1]; exact rfl) ?_; wp_walk using wpAny_loadPart' hl)
      | (refine wpAny_ite_false (by decide) ?_; wp_walk using wpAny_loadPart' hl))
    all_goals exact ⟨_, rfl, h⟩
end
end Pz
namespace Pz
open PySem PySem.Spec L2 PyProof.Rows
/-- a tuple whose object is known: an exact tuple without a dict of its own -/
def Plain (o : Obj) : Prop := o.cls = .type "tuple" ∧ o.dict = none
def TupF (H : Hp) (v : V) (ds : List PyData) : Prop := ∃ a o xs, v = .ref a ∧ H a = some (.frz o (.tup xs)) ∧ Plain o ∧ DhA H xs ds
section
variable {X : Cx}
/-- tuple(xs), the new tuple's object known -/
def rTupF : List V → Hp → VK → Prop := fun vs H Q => ∃ p ys, vs = [.ref p] ∧ H p = some (.lst ys) ∧ ∀ l o, Plain o → H l = none → Q (.ref l) (upd H l (.frz o (.tup ys)))
theorem cr_tupF : CallR X (.type "tuple") rTupF := by
  intro pins s σ H vs us Q I r h; obtain ⟨p, ys, rfl, hp, q⟩ := h
  rw [Vals.ref1 r]
  obtain ⟨is, rel, pl, hz⟩ := I.list (.inl (.inl hp))
  have hlen := rel.length
  refine call_tuple_list pl.isList (fun h' kp => ?_) (by simp only [List.size_toArray] <;> omega); have J : Inv X pins σ H { s with heap := h' } := I.kept (t' := s.toks) kp
  have J2 : Inv X pins σ (upd H h'.objs.size (.frz { cls := .type "tuple", data := .seq is.toArray } (.tup ys))) { s with heap := h'.push { cls := .type "tuple", data := .seq is.toArray } } :=
    J.laid (t' := s.toks) (fun b ob z => Heap.get?_push_of_some _ z) (Nat.le_refl _) ⟨Heap.get?_push_size _ rfl, hz, is, rel, IsTup.new _ _⟩
  exact ⟨.ref h'.objs.size, _, J2, rfl, q _ _ ⟨rfl, rfl⟩ (J.hok.fresh (Nat.le_refl _))⟩
/-- t * k, one to eight times -/
def rRepA : R2 := fun x y H Q => ∃ l k xs, x = .ref l ∧ y = .int k ∧ H l = some (.tup xs) ∧ xs ≠ [] ∧ xs.length ≤ 1000 ∧ 1 ≤ k ∧ k ≤ 8 ∧ ∀ p H', p = l ∨ H p = none → Evl.Ex H H' → H' p = some (.tup (List.replicate k.toNat xs).flatten) → Q (.ref p) H'
theorem op_repA : OpR X (binaryOp .Mult) rRepA := by
  intro pins s σ H x y v u Q I rx ry h; obtain ⟨l, k, xs, rfl, rfl, hl, hne, hz, h1, h8, q⟩ := h
  by_cases hk : 2 ≤ k
  · exact op_repT pins s σ H _ _ v u Q I rx ry ⟨l, k, xs, rfl, rfl, .inl (.inl hl), hne, hk, by omega, hz, fun p hp => q p _ (.inr hp) (Evl.Ex.new hp) upd_same⟩
  · have e1 : k = 1 := by omega
    subst e1
    cases rx
    obtain ⟨t, rfl⟩ := ry
    obtain ⟨is, r, ⟨⟨cls, dd, data, sl⟩, ho, hc, n, hd⟩, hs⟩ := I.tuple (.inl (.inl hl))
    simp only at hc hd
    subst hc hd
    refine wpAny_binaryOp_repeat_ref (T := "tuple") (U := "int") (by decide) ⟨_, ho, rfl⟩ (fun s' => typeIs_int s' 1 t) noFill_tuple_mul F.fills_int_mul F.slot_int_rmul repeat_tuple F.slot_int_index.lookup
      (call_meets F.slot_int_rmul (typeIs_int s 1 t) F.entry_int_rmul (F.args_int_rmul_2 _ _) (int_rmul_tuple 1 t l is.toArray n dd sl)
        ⟨ho, rfl, ⟨_, ho, rfl⟩, call_meets F.slot_tuple_mul ⟨_, ho, rfl⟩ F.entry_tuple_mul (F.args_tuple_mul_2 _ _) (tup_mul1 l is.toArray n dd sl t) ⟨ho, ?_⟩⟩)
    refine ⟨.ref l, H, I.tok _, rfl, q l H (.inl rfl) (Evl.Ex.refl H) ?_⟩
    rw [hl]
    simp
end
/-! ### sorted of data -/
theorem each_of {H : Hp} {h : Heap} : ∀ {vs : List V} {us : List Value} {ds : List PyData}, Vals vs us → DhA H vs ds → PySem.W.EachIs (fun u d => ∃ x, RelV x u ∧ Dh H x d) us ds
  | _, _, _, .nil, .nil => .nil
  | _, _, _, .cons r t, .cons d e => .cons ⟨_, r, d⟩ (each_of (h := h) t e)
theorem of_each {H : Hp} : ∀ {us : List Value} {ds : List PyData}, PySem.W.EachIs (fun u d => ∃ x, RelV x u ∧ Dh H x d) us ds → ∃ vs, Vals vs us ∧ DhA H vs ds
  | _, _, .nil => ⟨[], .nil, .nil⟩
  | _, _, .cons ⟨x, r, d⟩ t => by
    obtain ⟨vs, h1, h2⟩ := of_each t
    exact ⟨x :: vs, .cons r h1, .cons d h2⟩
section
variable {σ : L2.St} {H : Hp} {s : Shared} {X : Cx} {pins : List (Addr × Obj)}
theorem each_reads (I : Inv X pins σ H s) : ∀ {vs : List V} {us : List Value} {ds : List PyData}, Vals vs us → DhA H vs ds → PySem.W.EachIs (fun u d => ∃ as, Reads s.heap u d as) us ds
  | _, _, _, .nil, .nil => .nil
  | _, _, _, .cons r t, .cons d e => .cons (Dp.reads I _ _ _ (Dh.dp d) r) (each_reads I t e)
abbrev SortOk (ds : List PyData) : Prop := PySem.W.AllAlike ds ∧ PySem.W.Sortable ds ∧ (∀ d ∈ ds, d.depth ≤ 60) ∧ ds.length ≤ sizeLine
def sortD (ds : List PyData) : List PyData := ds.mergeSort (PySem.W.dataLe false id)
/-- sorted(xs) of a list of data -/
def rSortD : List V → Hp → VK → Prop := fun vs H Q => ∃ v ds G, vs = [v] ∧ Evl.Ex G H ∧ Dh G v (.list ds) ∧ SortOk ds ∧ ∀ p ys, H p = none → DhA G ys (sortD ds) → Q (.ref p) (upd H p (.lst ys))
theorem cr_sortD (room : X.A.units + 64 < cLine) : CallR X (.builtin "sorted") rSortD := by
  intro pins s σ H vs us Q I r h; obtain ⟨v, ds, G, rfl, hG, hd, ⟨al, so, dp, ln⟩, q⟩ := h
  cases hd with
  | @lst a xs _ ha hx =>
    have ha := hG _ _ ha
    have hy := hx.mono (Sx.of hG)
    rw [Vals.ref1 r]
    obtain ⟨is, rv, hl, hz⟩ := I.list (.inl (.inl ha))
    have em : ds.map id = ds := List.map_id _
    refine PySem.W.sorted_data (enc := id) (R := fun u d => ∃ x, RelV x u ∧ Dh G x d) hl.isList (each_of (h := s.heap) rv hx) (each_reads I rv hy) (by rw [em]; exact al) (by rw [em]; exact so) ln
      (fun d hm => by show X.A.units + 2 + d.depth < cLine; have := dp d hm; omega) fun out hlen hout => ?_
    obtain ⟨ys, y1, y2⟩ := of_each hout
    obtain ⟨ep, hat⟩ := PyProof.Rows.sortedAll_at s.heap is out.toArray
    have hle : ys.length ≤ sizeLine := by rw [y1.length, hlen]; exact ln
    exact ⟨.ref _, upd H (s.heap.objs.size + 1) (.lst ys), I.laid (t' := s.toks) (fun _ _ => PyProof.Rows.sortedAll_old) (Nat.le_succ _) ⟨hle, out, ep, y1, hat⟩, rfl, q _ ys (I.hok.fresh (Nat.le_succ _)) y2⟩
/-- sorted(d) of a dict with tuple keys -/
def keyD (k : List Int) : PyData := .tuple (k.map .int)
abbrev kI (k : List Int) : List Key := k.map Sum.inl
theorem kI_kV (k : List Int) : (kI k).map kV = k.map V.int := by simp [kI, Function.comp_def, kV]
end
section
variable {X : Cx}
def rSortK : List V → Hp → VK → Prop := fun vs H Q => ∃ (a : Addr) (kvs : List (List Key × V)) (ks : List (List Int)), vs = [.ref a] ∧ H a = some (.dT kvs) ∧ kvs.map (·.1) = ks.map kI ∧ SortOk (ks.map keyD) ∧
  ∀ p ys, H p = none → DhA H ys (sortD (ks.map keyD)) → Q (.ref p) (upd H p (.lst ys))
theorem keys_dha {H : Hp} : ∀ {kvs : List (List Key × V)} {ks : List (List Int)} {bs : List Addr}, kvs.map (·.1) = ks.map kI → IsKeys H kvs bs → DhA H (bs.map V.ref) (ks.map keyD)
  | [], [], _, _, .nil => .nil
  | (k, v) :: kvs, n :: ks, b :: bs, e, .cons h t => by
    have e1 : k = kI n ∧ kvs.map (·.1) = ks.map kI := by simpa using e
    obtain ⟨rfl, e2⟩ := e1
    have h' : H b = some (.tup ((kI n).map kV)) := h
    rw [kI_kV] at h'
    exact .cons (.tup h' (dha_ints n)) (keys_dha e2 t)
  | [], _ :: _, _, e, _ => by simp at e
  | _ :: _, [], _, e, _ => by simp at e
theorem cr_sortK (hc : X.calm = true) (room : X.A.units + 64 < cLine) : CallR X (.builtin "sorted") rSortK := by
  intro pins s σ H vs us Q I r h; obtain ⟨a, kvs, ks, rfl, ha, ek, ⟨al, so, dp, ln⟩, q⟩ := h
  rw [Vals.ref1 r]
  obtain ⟨hz, lo, xs, kt, o, es, ep, ho, hx, hdt, he, hnd⟩ := (show ObjOk X.prog X.w H s.heap a (.dT kvs) from I.hok a _ ha)
  have hsz : es.size = xs.length := size_of_entries he; have hkx : kvs.length = xs.length := Paired.length kt
  have hlk : kvs.length = ks.length := by simpa using congrArg List.length ek
  refine Calls.call_function_entry PyProof.Rows.kind_sorted PyProof.Rows.plain_sorted PyProof.Rows.entry_sorted (PyProof.Rows.args_sorted1 _) ?_; unfold Builtin.«sorted»
  refine wpAny_bind (m := checkCount "sorted" 1 1 _) (wpAny_pure ?_); refine wpAny_bind (PySem.W.kdu_collect (A := X.A.in1) (kdl_raw (es := es) (ep := ep) lo hx hdt) (I.ok.hd hc) ho (by omega) fun h' tk acc kp hacc => ?_)
  have J : Inv X pins σ H { s with heap := h', toks := tk } := I.kept kp
  have hl : acc.toList.length = ks.length := by rw [Array.length_toList, hacc.1, hsz, ← hkx, hlk]
  have hb := keys_dha ek (isKeys_of kt)
  have hv : Vals ((xs.map fun x => x.2.1).map V.ref) acc.toList := by
    refine vals_of_at (by rw [List.length_map, List.length_map, hl, ← hlk, hkx]) fun j x u h1 h2 => ?_
    obtain ⟨en, hen, eu⟩ := hacc.2 j u (by rw [← Array.getElem?_toList]; exact h2)
    rw [entry_at he j] at hen
    rw [List.getElem?_map, List.getElem?_map] at h1
    cases e3 : xs[j]? with
    | none => rw [e3] at hen; cases hen
    | some y =>
      rw [e3] at hen h1
      cases hen
      cases h1
      rw [eu]
      rfl
  refine wpAny_bind (wpAny_newList ?_ (by rw [hl]; exact Nat.le_trans (by simp) ln))
  have hL : (h'.push { cls := .type "list", data := .seq acc.toList.toArray }).get? h'.objs.size = some (seqObj "list" acc.toList.toArray 0) := Heap.get?_push_size _ rfl
  have J2 : Inv X pins σ (upd H h'.objs.size (.lst ((xs.map fun x => x.2.1).map V.ref))) { s with heap := h'.push { cls := .type "list", data := .seq acc.toList.toArray }, toks := tk } :=
    J.laid (t' := tk) (fun b ob z => Heap.get?_push_of_some _ z) (Nat.le_refl _) ⟨by simp; omega, acc.toList, 0, hv, hL⟩
  have hn : H h'.objs.size = none := J.hok.fresh (Nat.le_refl _)
  have em : (ks.map keyD).map id = ks.map keyD := List.map_id _
  have hb2 := DhA.mono (Sx.of (Evl.Ex.new (o := .lst ((xs.map fun x => x.2.1).map V.ref)) hn)) hb
  refine wpAny_bind (wpAny_holding (wpAny_mono (PySem.W.list_sort_data (enc := id) (R := fun u d => ∃ x, RelV x u ∧ Dh H x d) (Q := fun _ s' => EP X pins σ Q (.ref h'.objs.size) s') hL (each_of (h := h') hv hb) ?_ (by rw [em]; exact al) (by rw [em]; exact so) (by simpa using ln)
    (fun d hm => by show X.A.units + 1 + 1 + d.depth < cLine; have := dp d hm; omega) fun out hlen hout => ?_) (fun _ s' x => ?_) fun _ _ z => z))
  · have rd : ∀ {vs : List V} {us : List Value} {ks : List (List Int)}, Vals vs us → DhA H vs (ks.map keyD) →
        PySem.W.EachIs (fun u d => ∃ as, Reads (h'.push { cls := .type "list", data := .seq acc.toList.toArray }) u (id d) as ∧ h'.objs.size ∉ as) us (ks.map keyD) := by
      intro vs us ks r e
      induction ks generalizing vs us with
      | nil =>
        cases e
        cases r
        exact .nil
      | cons k ks ih =>
        cases e with
        | cons e1 e2 =>
          cases r with
          | cons r1 r2 =>
            refine .cons ?_ (ih r2 e2)
            obtain ⟨b, rfl, hb⟩ := dh_ptI e1
            cases r1
            obtain ⟨is, ri, ⟨o2, ho2, hc2, n2, hd2⟩, _⟩ := J.tuple (.inl (.inl hb))
            have hi : IntsAre is k := Vals.ints ri
            have rdl : ∀ {is : List Value} {k : List Int}, IntsAre is k → ReadsAll (h'.push { cls := .type "list", data := .seq acc.toList.toArray }) is (k.map .int) [] := by
              intro is k hi
              induction hi with
              | nil => exact .nil
              | cons n t _ ih => exact .cons (as := []) (.int _ _) ih
            exact ⟨[], .tuple (Heap.get?_push_of_some _ ho2) hc2 hd2 (rdl hi), by simp⟩
    exact rd hv hb
  · obtain ⟨ys, y1, y2⟩ := of_each hout
    refine ⟨.ref h'.objs.size, upd (upd H h'.objs.size (.lst ((xs.map fun x => x.2.1).map V.ref))) h'.objs.size (.lst ys), ?_, rfl, by rw [upd_upd]; exact q _ ys hn y2⟩
    obtain ⟨ep2, hat⟩ := PyProof.Rows.sortedHeap_at hL (out := out.toArray)
    refine J2.write (x := h'.objs.size) (e := h'.objs.size) (t' := tk) (by rw [upd_same]; trivial) (.inl rfl) (fun b ob hne z => ?_) ⟨_, hat⟩ ⟨?_, out, ep2, y1, hat⟩
    · exact (PyProof.Rows.sortedHeap_old hne (Heap.lt_size z)).trans z
    · rw [y1.length, hlen]
      exact ln
  · exact wpAny_pure ⟨_, rfl, x⟩
end
end Pz
namespace Pz
open PySem PySem.Spec L2 PyProof.Rows
/-! ### d.items() of a locked dict with tuple keys -/
section
variable {σ : L2.St} {H : Hp} {s : Shared} {X : Cx} {pins : List (Addr × Obj)} {d : Addr} {o : Obj}
/-- what is known of a locked dict whose keys are tuples: its object, its entries -/
structure LockT (H : Hp) (s : Shared) (d : Addr) (o : Obj) (kvs : List (List Key × V)) (es : Array DictEntry) (ep : Nat) : Prop where
  notSys : (d == sysModules) = false
  here : s.heap.get? d = some o
  exact : o.ExactDict
  dat : o.data = .dict es ep
  len : es.size = kvs.length
  ent : ∀ {i : Nat} {k : List Key} {v : V}, kvs[i]? = some (k, v) → ∃ (en : DictEntry) (q : Addr), es[i]? = some en ∧ en.key = .ref q ∧ H q = some (.tup (k.map kV)) ∧ RelV v en.val
theorem lockedT {kvs : List (List Key × V)} (I : Inv X pins σ H s) (h : H d = some (.frz o (.dT kvs))) : ∃ es ep, LockT H s d o kvs es ep := by
  obtain ⟨here, _, ns, xs, kt, o2, es, ep, here2, ex, dat, ents, _⟩ := I.hok d _ h
  obtain rfl : o = o2 := Option.some.inj (here.symm.trans here2)
  refine ⟨es, ep, ns, here, ex, dat, (size_of_entries ents).trans (Paired.length kt).symm, fun {i _ _} hi => ?_⟩
  obtain ⟨y, hy, e1, e2, e3⟩ := paired_get kt hi
  have z := entry_at ents i
  rw [hy] at z
  exact ⟨_, y.2.1, z, rfl, e2, e3⟩
end
/-- the pairs of key and value, each a new tuple -/
def ItiT (d : Addr) (o : Obj) (kvs : List (List Key × V)) : It where
  go := fun i H => H d = some (.frz o (.dT kvs)) ∧ i < kvs.length
  yld := fun i H x H' => ∃ (T : Addr) (k : List Key) (v : V) (q : Addr), kvs[i]? = some (k, v) ∧ H q = some (.tup (k.map kV)) ∧ x = .ref T ∧ H T = none ∧ H' = upd H T (.tup [.ref q, v])
  stop := fun i H => H d = some (.frz o (.dT kvs)) ∧ kvs.length ≤ i
section
variable {P : Program} {w : World} {K : PySem.W.Frag} {d : Addr} {o : Obj} {es : Array DictEntry} {ep : Nat}
theorem turn_itemsT {kvs : List (List Key × V)} {elts : List Expr} {kk : Nat} {tpos : Pos} (it : Addr) (hod : o.data = .dict es ep) (hn : es.size = kvs.length) :
    Turn P w K (.Tuple elts kk tpos) (ItiT d o kvs) [it] it (fun i h => ∃ ok ov, IsItemIter h it d i es.size ep ok ov) where
  mem := List.mem_singleton.mpr rfl
  obj := fun i h st b hb => by
    obtain rfl : b = it := List.mem_singleton.mp hb
    obtain ⟨_, _, z⟩ := st
    exact ⟨_, z, fun v q => nomatch q⟩
  keep := fun i h h' ⟨ok, ov, z⟩ k => ⟨ok, ov, k it (List.mem_singleton.mpr rfl) _ z⟩
  item := by
    rintro X rfl rfl rfl calm i pins s σ H E I fpo ⟨ok, ov, st⟩ ⟨hd, lt⟩
    obtain ⟨es2, ep2, L⟩ := lockedT I hd
    obtain ⟨rfl, rfl⟩ := dict_ep hod L.dat
    have hkv : kvs[i]? = some (kvs[i].1, kvs[i].2) := List.getElem?_eq_getElem lt
    obtain ⟨en, q, he, hkey, hq, hval⟩ := L.ent hkv
    have lt2 : i < es2.size := by omega
    have een : es2[i] = en := by
      rw [Array.getElem?_eq_getElem lt2] at he
      exact Option.some.inj he
    have itlt : it < s.heap.objs.size := Heap.lt_size st
    refine wpAny_pyNext_items_item_raw st ⟨o, L.here, L.exact, L.dat⟩ lt2 fun h1 out tup sz kp => ?_
    rw [een] at out tup
    refine ⟨_, rfl, wpAny_letOwnedTupleGo_items (s := { s with heap := h1 }) out fun h2 it2 sb => ?_⟩
    have tup2 : h2.get? s.heap.objs.size = some { cls := .type "tuple", data := .seq #[en.key, en.val] } := (sb.2 _ (Nat.ne_of_gt itlt)).trans tup
    have ok2 : ObjOk X.prog X.w (upd H s.heap.objs.size (.tup [.ref q, kvs[i].2])) h2 s.heap.objs.size (.tup [.ref q, kvs[i].2]) := by
      refine ⟨?_, [en.key, en.val], .cons ?_ (.cons hval .nil), _, tup2, rfl, _, rfl⟩
      · show 2 ≤ sizeLine
        decide
      · exact hkey
    have J := I.turnedNew (t' := s.toks) (ch := [it]) (fun b ob nb z => (sb.2 b (fun y => nb (List.mem_singleton.mpr y))).trans (kp b ob (fun y => nb (List.mem_singleton.mpr y)) z)) fpo (Nat.le_refl _) ok2
    refine ⟨.ref s.heap.objs.size, _, J, rfl, ⟨_, _, _, q, hkv, hq, rfl, I.hok.fresh (Nat.le_refl _), rfl⟩, ⟨_, _, it2⟩, fun b hb => ?_⟩
    obtain rfl : b = it := List.mem_singleton.mp hb
    rw [upd_ne (Nat.ne_of_lt itlt)]
    exact (fpo b hb).1
  done := by
    rintro X rfl rfl rfl calm i pins s σ H E I fpo ⟨ok, ov, st⟩ ⟨hd, ge⟩
    obtain ⟨es2, ep2, L⟩ := lockedT I hd
    obtain ⟨rfl, rfl⟩ := dict_ep hod L.dat
    obtain ⟨f0, f1, _, f3, f4, f5⟩ := fpo it (List.mem_singleton.mpr rfl)
    exact wpAny_pyNext_items_end_raw (I.ok.hd calm) st ⟨o, L.here, L.exact, L.dat⟩ (by omega) fun h' eb => ⟨rfl, I.turned (t' := s.toks) (fun b ob nb z => eb b ob nb z) f0 f1 f3 f4 f5⟩
  self := fun A i s Q E ⟨_, _, st⟩ h => PySem.W.kcp_self st h
end
def iItemsT (td : TE) : TI := fun σ H R => td σ H fun x H1 => ∃ d o kvs, x = .ref d ∧ H1 d = some (.frz o (.dT kvs)) ∧ R (ItiT d o kvs) H1
theorem pi_itemsT {X : Cx} {e : Expr} {td : TE} {apos cpos tpos : Pos} {elts : List Expr} {kk : Nat} (he : PE X e td) (base : attributeBase e "items" X.env (eval e X.env) = eval e X.env := by rfl) (line : (apos.endLine == cpos.line) = true := by rfl) :
    PI X (.Tuple elts kk tpos) (.Call (.Attribute e "items" apos) [] [] cpos) (iItemsT td) := by
  constructor
  intro pins s σ H R I h
  refine wpAny_Call_method (T := "dict") (id := "dict.items") base rfl line F.plainAttrs_dict F.slot_dict_items F.type_dict_items (thn (he.run pins s σ H _ I h) fun u s1 ⟨x, H1, J, rx, d, o, kvs, ex, hd, q⟩ => ?_)
  subst ex
  cases rx
  obtain ⟨es, ep, L⟩ := lockedT J hd
  have raw : s1.heap.DictRaw d es ep := ⟨o, L.here, L.exact, L.dat⟩
  refine ⟨raw.typeIs, fun b z => by
    cases z
    exact ⟨o, L.here, L.exact.2.1⟩, ?_⟩
  have J2 : Inv X pins σ H1 { s1 with heap := s1.heap.push { cls := .type "dict_items", data := .fields #[.ref d] } } := J.kept (t' := s1.toks) fun b ob z => Heap.get?_push_of_some _ z
  have fin : wpAny (model X.prog X.w) X.A (pyIter (.ref s1.heap.objs.size)) (PIE X pins σ (.Tuple elts kk tpos) R) X.xe { s1 with heap := s1.heap.push { cls := .type "dict_items", data := .fields #[.ref d] } } :=
    wpAny_pyIter_items_raw (d := d) (es := es) (ep := ep) ⟨_, Heap.get?_push_size _ rfl, rfl, rfl⟩ (raw.at fun ob z => Heap.get?_push_of_some _ z) (pi_one (tk := s1.toks) J2 _ (turn_itemsT _ L.dat L.len) ⟨.none, .none, Heap.get?_push_size _ rfl⟩ q)
  show wpAny _ _ (callWith cpos (.builtin "dict.items") [.ref d] [] []) _ X.xe s1; exact method_meetsIn F.slot_dict_items F.entry_dict_items rfl (PySem.evalArgs_none ⟨rfl, raw.typeIs, F.args_dict_items_1 _, _, meets_dict_items_raw d L.notSys, ⟨es, ep, raw⟩, fin⟩)

/-! ### dict(t) of a tuple of pairs with tuple keys -/
section
variable {σ : L2.St} {H : Hp} {s : Shared} {X : Cx} {pins : List (Addr × Obj)}
theorem dh_term {H : Hp} {v : V} {k : List Int} {c : Int} (h : Dh H v (.tuple [keyD k, .int c])) : ∃ a b, v = .ref a ∧ H a = some (.tup [.ref b, .int c]) ∧ H b = some (.tup (k.map V.int)) := by
  cases h with
  | tup ha hx =>
    cases hx with
    | cons hk hx =>
      cases hx with
      | cons hi hx =>
        cases hx
        cases hi
        obtain ⟨b, rfl, hb⟩ := dh_ptI hk
        exact ⟨_, b, rfl, ha, hb⟩
/-- the pairs (key, value) of a poly, as they stand: the pair's tuple, the key's -/
theorem pairs_at (I : Inv X pins σ H s) : ∀ {xs : List V} {us : List Value} {q : List (List Int × Int)}, Vals xs us → DhA H xs (q.map fun t => .tuple [keyD t.1, .int t.2]) →
    ∃ (Ts : List Addr) (ps : List (List Key × Addr × Value)), us = Ts.map Value.ref ∧ Ts.length = q.length ∧ ps.length = q.length ∧ ps.map (·.1) = q.map (fun t => kI t.1) ∧
      (∀ (j : Nat) (T : Addr) (y : List Key × Addr × Value), Ts[j]? = some T → ps[j]? = some y → s.heap.IsTuple T #[.ref y.2.1, y.2.2]) ∧ KT H (q.map fun t => (kI t.1, V.int t.2)) ps
  | _, _, [], .nil, .nil => ⟨[], [], rfl, rfl, rfl, rfl, fun _ _ _ h => by simp at h, .nil⟩
  | _, _, t :: q, .cons r1 r2, .cons e0 e2 => by
    obtain ⟨Ts, ps, e1, l1, l2, l3, f, kt⟩ := pairs_at I r2 e2
    obtain ⟨a0, b, rfl, ha, hb⟩ := dh_term e0
    cases r1
    obtain ⟨is, ri, p1, _⟩ := I.tuple (.inl (.inl ha))
    obtain ⟨u1, u2, rfl, ra, rc⟩ := vals2 ri
    cases ra
    refine ⟨a0 :: Ts, (kI t.1, b, u2) :: ps, by rw [e1]; rfl, by simp [l1], by simp [l2], by simp [l3], fun j T y h1 h2 => ?_, .cons ⟨rfl, ?_, rc⟩ kt⟩
    · cases j with
      | zero =>
        simp at h1 h2
        subst h1 h2
        exact p1
      | succ j => exact f j T y (by simpa using h1) (by simpa using h2)
    · show H b = some (.tup ((kI t.1).map kV))
      rw [kI_kV]
      exact hb
def rDictT : List V → Hp → VK → Prop := fun vs H Q => ∃ (v : V) (q : List (List Int × Int)), vs = [v] ∧ TupF H v (q.map fun t => .tuple [keyD t.1, .int t.2]) ∧ (q.map (·.1)).Nodup ∧ q.length ≤ sizeLine ∧
  ∀ p, H p = none → Q (.ref p) (upd H p (.dT (q.map fun t => (kI t.1, V.int t.2))))
theorem kI_inj {a b : List Int} (h : kI a = kI b) : a = b := by
  have := congrArg (List.map fun k : Key => match k with | .inl i => i | .inr _ => 0) h
  simpa [Function.comp_def] using this
theorem nodup_kI : ∀ {q : List (List Int)}, q.Nodup → (q.map kI).Nodup
  | [], _ => .nil
  | k :: q, h => by
    obtain ⟨h1, h2⟩ := List.nodup_cons.mp h; refine List.nodup_cons.mpr ⟨fun m => ?_, nodup_kI h2⟩
    obtain ⟨k', m', e⟩ := List.mem_map.mp m
    exact h1 (kI_inj e ▸ m')
theorem call_dictT (hc : X.calm = true) (room : X.A.units + 8 < cLine) : CallR X (.type "dict") rDictT := by
  intro pins s σ H vs us Q I r h; obtain ⟨v, q, rfl, ⟨a, o, xs, rfl, ha, pl, hx⟩, nd, ln, k⟩ := h
  rw [Vals.ref1 r]
  obtain ⟨at0, hz, is, rel, o2, at1, hcl, n, hdat⟩ := I.hok a _ ha
  obtain rfl : o = o2 := Option.some.inj (at0.symm.trans at1)
  obtain ⟨Ts, ps, e1, l1, l2, l3, f, kt⟩ := pairs_at I rel hx
  have plain : PlainSeq "tuple" s.heap a is.toArray := ⟨o, n, at0, hcl, pl.2, hdat⟩
  have ndk : (ps.map (·.1)).Nodup := by
    have := nodup_kI nd
    rw [List.map_map] at this
    rw [l3]
    exact this
  have isz : is.length = q.length := by rw [e1, List.length_map, l1]
  refine call_dict_pairsH (knd := tupleKind (mixKind X.prog X.w)) (ps := ps) (PairArg.tuple a is.toArray (fun j => Ts.getD j 0) (ps.map fun y => (Value.ref y.2.1, y.2.2))) (I.ok.hd hc) (by show X.A.units + 1 + 1 < cLine; omega)
    ⟨plain, ?_, fun j k' v' hj => ?_⟩ ⟨?_, fun i key v' hr => ?_⟩ (fun h' hk x hm => ?_) ?_ fun h' tk hd' hk => ?_
  · rw [List.size_toArray, isz, List.length_map, l2]
  · rw [List.getElem?_map] at hj
    cases e2 : ps[j]? with
    | none => rw [e2] at hj; cases hj
    | some y =>
      rw [e2] at hj
      cases hj
      have jl : j < Ts.length := by
        have := (List.getElem?_eq_some_iff.mp e2).1
        omega
      have e3 : Ts[j]? = some Ts[j] := List.getElem?_eq_getElem jl
      refine ⟨?_, .inl ?_⟩
      · rw [e1]
        simp [jl]
      · have := f j _ y e3 e2
        simpa [jl] using this
  · rw [List.length_map]
  · have hr' : (ps.map fun y => (Value.ref y.2.1, y.2.2))[i]? = some (key, v') := hr
    rw [List.getElem?_map] at hr'
    cases e2 : ps[i]? with
    | none => rw [e2] at hr'; cases hr'
    | some y =>
      rw [e2] at hr'
      cases hr'
      exact ⟨y.1, y.2.1, rfl, rfl⟩
  · have all : ∀ {l : List (List Key × V)} {m : List (List Key × Addr × Value)}, KT H l m → ∀ x ∈ m, (tupleKind (mixKind X.prog X.w)).is s.heap x.1 x.2.1 ∧ x.2.1 < s.heap.objs.size := by
      intro l m z
      induction z with
      | nil => intro y hy; exact nomatch hy
      | @cons p q ps qs hq t ih =>
        intro x hx
        obtain e | hx := List.mem_cons.mp hx
        · subst e
          have hb : H x.2.1 = some (.tup (x.1.map kV)) := by rw [← hq.1]; exact hq.2.1
          exact ⟨key_of I.hok hb, I.hok.lt hb⟩
        · exact ih x hx
    obtain ⟨⟨o3, it3, n3, g1, g2, g3, g4⟩, lt⟩ := all kt x hm
    exact ⟨o3, it3, n3, hk _ _ (Nat.ne_of_lt lt) (by simp) g1, g2, g3, g4⟩
  · rw [List.length_map, l2]
    exact ln
  · rw [PySem.storedAllH_nil_of_nodup ps (by simpa using ndk)] at hd'
    obtain ⟨o3, es, ep, g1, g2, g3, g4, g5, g6⟩ := hd'
    have hn : H s.heap.objs.size = none := I.hok.fresh (Nat.le_refl _); refine ⟨.ref s.heap.objs.size, upd H s.heap.objs.size (.dT (q.map fun t => (kI t.1, V.int t.2))), I.laid (t' := tk) (fun b ob z => hk b ob (by simp) z) (Nat.le_refl _) ⟨?_, ?_, ps, ?_, o3, es, ep, g1, g2, g3, g4, g6⟩, rfl, k _ hn⟩
    · rw [List.length_map]
      exact ln
    · exact beq_eq_false_iff_ne.mpr (Nat.ne_of_gt I.big)
    · exact KT.keeps kt fun b ys z => by rw [upd_ne (ne_of_none z hn)]; exact z
end
end Pz
namespace Pz
open PySem PySem.Spec L2 PyProof.Rows
/-! ### {k: v for target in iter}, keys tuples -/
section
variable {σ : L2.St} {H : Hp} {s : Shared} {X : Cx} {pins : List (Addr × Obj)} {E : Value → Shared → Prop}
theorem dictSetT {D b : Addr} {kvs : List (List Key × V)} {k : List Key} {v : V} {u r : Value} {Q : Unit → Shared → Prop} (room : X.A.units < cLine) (I : Inv X pins σ H s) (hD : H D = some (.dT kvs)) (hz : kvs.length < sizeLine)
    (hb : H b = some (.tup (k.map kV))) (ru : RelV (.ref b) u) (rr : RelV v r) (h : ∀ s', Inv X pins σ (upd H D (.dT (putK kvs k v))) s' → Q () s') : wpAny (model X.prog X.w) X.A (dictSet D u r) Q E s := by
  cases ru
  obtain ⟨z, ns, xs, kt, dd⟩ := dt_of I.hok hD
  have hx : xs.length ≤ sizeLine := Paired.length kt ▸ z
  have hl := length_putK kvs k v
  refine wpAny_dictSet_heap (hsz := hx) (knd := tupleKind (mixKind X.prog X.w)) room (key_of I.hok hb) dd fun h' ⟨ob, es, ep, a1, a2, a3, a4, _, a6⟩ sb => h _ ?_
  refine d_write I (by rw [hD]; trivial) sb ⟨ob, a1⟩ ⟨Nat.le_trans hl hz, ns, _, (kt.put k hb rr).keeps fun c ys e => ?_, ob, es, ep, a1, a2, a3, a4, a6⟩
  rw [upd_ne (ne_of e hD nofun)]
  exact e
end
section
variable {X : Cx}
abbrev AllBlk (X : Cx) (scope : Scope) (F : Cx → Prop) : Prop := ∀ (s : Shared) (H : Hp) (C : Addr) (cl : List (Str × Addr)) (fp : List Addr), F (X.blk s H scope (compEnvC scope cl C X.env) fp)
def tDcT (wi : TI) (g : TG) (tk tv : TE) (vs : List Nat) : TE := fun σ H Q => wi σ H fun J H1 => ∀ D, H1 D = none → ∃ W : Nat → Nat → Hp → Prop, (∃ m, W 0 m (upd H1 D (.dT []))) ∧ ∀ i m H, W i m H →
  (J.stop i H ∧ Q (.ref D) H) ∨ (J.go i H ∧ ∃ Nx : Hp → Prop, (∀ H', Nx H' → ∃ m', m' < m ∧ W (i + 1) m' H') ∧ ∀ x H', J.yld i H x H' → g x (wipe σ vs) H' fun σ2 H2 => wipe σ2 vs = wipe σ vs ∧
    tk σ2 H2 fun y H4 => tv σ2 H4 fun z H5 => ∃ kvs k b, y = .ref b ∧ H5 b = some (.tup (k.map kV)) ∧ H5 D = some (.dT kvs) ∧ kvs.length < sizeLine ∧ Nx (upd H5 D (.dT (putK kvs k z))))
theorem pe_dcT {kx vx tg iter : Expr} {scope : Scope} {own : List (Str × Nat)} {pos : Pos} {wi : TI} {g : TG} {tk tv : TE} (room : X.A.units < cLine) (calm : X.calm = true) (nd : X.N.Nodup) (hi : PI X tg iter wi) (blk : BlkOk X.N X.env.scope scope own)
    (hg : AllBlk X scope fun Y => PG Y tg g) (hk : AllBlk X scope fun Y => PE Y kx tk) (hv : AllBlk X scope fun Y => PE Y vx tv) (hs : ∀ x, foldedSetIterable iter X.env x = pure x := by intro _; rfl) :
    PE X (.DictComp kx vx [⟨tg, iter, [], 0⟩] scope pos) (tDcT wi g tk tv (own.map (·.2))) := by
  constructor
  intro pins s σ H Q I h
  rw [arm_eval_DictComp]
  have caught : ∀ y ∈ scope.names, y.2 = .free → ∃ c, X.env.cells.lookup y.1 = some c := by
    intro y hy hf
    exact (blk.free y hy hf).elim (fun z => I.ok.has _ (.inl z)) fun z => I.ok.has _ (.inr z)
  refine wpAny_comprehension_free rfl hs (closure_ok caught) blk.kind (fun y hy e => (blk.uniq y hy).trans (by rw [e])) (thn (hi.run pins s σ H _ I h) fun src sa ha => thn ha fun itv sb hb => ?_)
  obtain ⟨it, fp, tn, J, Hb, rfl, Ib, T, stb, fpb, rd⟩ := hb
  refine wpAny_newObj_type (newEnv_comp ?_); have hNew : Hb sb.heap.objs.size = none := Ib.hok.fresh (Nat.le_refl _)
  obtain ⟨W, ⟨m0, w0⟩, turn⟩ := rd _ hNew
  -- the state with the new dict, the block's frame
  let sc : Shared := { sb with heap := sb.heap.push { cls := .type "dict", data := .dict #[] } }
  let Hc : Hp := upd Hb sb.heap.objs.size (.dT [])
  have Ic : Inv X pins σ Hc sc := Ib.laid (t' := sb.toks) (fun b ob z => Heap.get?_push_of_some _ z) (Nat.le_refl _) (dt_empty sb.heap Ib.big)
  have old : ∀ b ∈ fp, b < sb.heap.objs.size := fun b hb => (T.obj 0 sb.heap stb b hb).elim fun _ z => Heap.lt_size z.1
  have fpc : ∀ b ∈ fp, FpOk X pins Hc b ∧ b < sc.heap.objs.size := by
    intro b hb
    refine ⟨⟨?_, (fpb b hb).2⟩, ?_⟩
    · show upd Hb sb.heap.objs.size (.dT []) b = none
      rw [upd_ne (Nat.ne_of_lt (old b hb))]
      exact (fpb b hb).1
    · show b < (sb.heap.push _).objs.size
      rw [Heap.size_push]
      exact Nat.lt_succ_of_lt (old b hb)
  have stc : tn 0 sc.heap := T.keep 0 sb.heap _ stb fun b _ ob z => Heap.get?_push_of_some _ z
  have Id := block_start Ic blk nd fpc
  show codeAny _ _ (.compStart (.DictComp kx vx [⟨tg, iter, [], 0⟩] scope pos) 0 (.ref it) (.ref sb.heap.objs.size) (compEnvC scope (cellsFrom (sc.heap.objs.size + 1) scope.names (cloFrom X.env.cells scope.names [])) sc.heap.objs.size X.env)) _ { sc with heap := pushCells (sc.heap.push { cls := .type "dict", data := .dict #[] }) scope.names }
  generalize hcl : cellsFrom (sc.heap.objs.size + 1) scope.names (cloFrom X.env.cells scope.names []) = cl at Id ⊢
  have pg := hg sc Hc sc.heap.objs.size cl fp
  have pk := hk sc Hc sc.heap.objs.size cl fp
  have pv := hv sc Hc sc.heap.objs.size cl fp
  generalize hce : compEnvC scope cl sc.heap.objs.size X.env = ce at Id pg pk pv ⊢
  have frame : ce.locals = sc.heap.objs.size := by rw [← hce]; rfl
  have noneF : ∀ b ∈ fp, Hc b = none := fun b hb => (fpc b hb).1.1
  generalize hsd : ({ sc with heap := pushCells (sc.heap.push { cls := .type "dict", data := .dict #[] }) scope.names } : Shared) = sd at Id ⊢
  have std : tn 0 sd.heap := T.keep 0 _ _ stc fun b _ ob z => by rw [← hsd]; exact pushCells_keeps _ _ _ _ (Heap.get?_push_of_some _ z)
  have stays : ∀ {σ' : L2.St} {H' : Hp} {s' : Shared}, Inv (X.blk sc Hc scope ce fp) [] σ' H' s' → (∀ b ∈ fp, H' b = none) → ∀ b ∈ fp, FpOk (X.blk sc Hc scope ce fp) [] H' b := by
    intro σ' H' s' I' no b hb
    have e1 := I'.ok.exf b hb
    exact ⟨no b hb, e1.1, I'.ok.exfs b hb, .inl hb, fun x c z => e1.2 x c z, fun p hp => by simp at hp⟩
  let G : Nat → Shared → Prop := fun n s' => ∃ i H', Inv (X.blk sc Hc scope ce fp) [] (wipe σ (own.map (·.2))) H' s' ∧ tn i s'.heap ∧ (∀ b ∈ fp, H' b = none) ∧ W i n H'
  have loop : codeAny (model X.prog X.w) X.A (.compLoop (.DictComp kx vx [⟨tg, iter, [], 0⟩] scope pos) 0 (.ref it) (.ref sb.heap.objs.size) ce) (compPost (model X.prog X.w) X.A X.xe none (EP X pins σ Q) (.ref sb.heap.objs.size) sc.heap.objs.size) sd := by
    refine compLoop_anyD G ?_ m0 ⟨0, Hc, Id, std, noneF, w0⟩
    intro n se ⟨i, He, Ie, ste, noe, we⟩
    have fpe := stays Ie noe
    rcases turn i n He we with ⟨stop, fin⟩ | ⟨go, Nx, next, step⟩
    · refine thnF (T.done (X.blk sc Hc scope ce fp) rfl rfl rfl calm i [] se _ He (fun _ _ => False) Ie fpe ste stop) fun res sf ⟨eres, If⟩ => ?_
      subst eres
      have Ig : Inv X pins σ He sf := Ic.call' (ch := fp) If.os If.base If.hok If.bare fun b hb => let ⟨_, z1, z2, z3, z4, z5⟩ := (fpc b hb).1; ⟨z3, z1, z4, z5⟩
      have noC : He sc.heap.objs.size = none := by rw [← frame]; exact If.free
      obtain ⟨m, ns, _⟩ := If.loc
      have ns' : sf.heap.Ns sc.heap.objs.size m := by rw [← frame]; exact ns
      obtain ⟨q0, q1, q2, q3, q4, q5⟩ := Ic.fpOk (H' := He) (Nat.le_refl _) noC
      exact ⟨m, ns', fun h2 sb2 => ⟨.ref _, He, Ig.turned (t' := sf.toks) (fun b ob hne z => (sb2.2 b hne).trans z) q0 q1 q3 q4 q5, rfl, fin⟩⟩
    · refine thnF (T.item (X.blk sc Hc scope ce fp) rfl rfl rfl calm i [] se _ He (fun _ _ => False) Ie fpe ste go) fun res sf ⟨u, eres, hf⟩ => ?_
      subst eres
      refine thnF hf fun _ sg ⟨x, Hg, Ig, rx, yl, stg, nog⟩ => ?_
      have Ip := Ig.pinned (stays Ig nog) (T.obj _ _ stg)
      refine thnF (pg.run _ sg _ Hg x u _ Ip rx (step x Hg yl)) fun _ sh ⟨σh, Hh, Ih, wiped, qh⟩ => ?_
      refine wpAny_tests_nil ?_
      simp only [if_true]
      refine thnF (pk.run _ sh σh Hh _ Ih qh) fun kw si ⟨y, Hi, Ii, ry, qi⟩ => ?_
      refine thnF (pv.run _ si σh Hi _ Ii qi) fun vw sj ⟨z, Hj, Ij, rz, kvs, k, b, ey, hb, hD, hz, nx⟩ => ?_
      subst ey
      refine dictSetT (X := X.blk sc Hc scope ce fp) room Ij hD hz hb ry rz fun sk Ik => ?_
      obtain ⟨m', lt, w'⟩ := next _ nx
      have pinned : ∀ c ∈ fp, ∀ ob, sg.heap.get? c = some ob → sk.heap.get? c = some ob ∧ (upd Hj sb.heap.objs.size (.dT (putK kvs k z))) c = none := by
        intro c hc ob z
        have q := Ik.pin (c, ob) (List.mem_append_right _ (List.mem_append_right _ (mem_pinsAt hc z)))
        exact ⟨q.1, q.2.1⟩
      refine ⟨m', lt, i + 1, _, (Ik.unpinned (pins := [])).weak (by rw [← wiped, wipe_length]) (fun j v e => ?_), T.keep _ _ _ stg fun c hc ob z => (pinned c hc ob z).1, fun c hc => ?_, w'⟩
      · rw [← wiped] at e
        exact (wipe_some e).1
      · obtain ⟨ob, z, _⟩ := T.obj _ _ stg c hc
        exact (pinned c hc ob z).2
  exact codeAny_compStart_dict loop (T.self X.A 0 _ _ _ std loop)
/-! ### {(): e} -/
def tDispT (tk tv : TE) : TE := fun σ H Q => ∀ p, H p = none → tPairs [(tk, tv)] σ (upd H p (.dT [])) fun ps H2 => ∃ y b k, ps = [(.ref b, y)] ∧ H2 b = some (.tup (k.map kV)) ∧ H2 p = some (.dT []) ∧ Q (.ref p) (upd H2 p (.dT [(k, y)]))
theorem pe_dispT {kx vx : Expr} {pos : Pos} {tk tv : TE} (room : X.A.units < cLine) (hk : PE X kx tk) (hv : PE X vx tv) : PE X (.Dict [some kx] [vx] pos) (tDispT tk tv) := by
  constructor
  intro pins s σ H Q I h
  have hn := I.hok.fresh (Nat.le_refl s.heap.objs.size); have J := I.laid (a := s.heap.objs.size) (o := .dT []) (h' := s.heap.push { cls := .type "dict", data := .dict #[] }) (t' := s.toks) (fun _ _ z => Heap.get?_push_of_some _ z) (Nat.le_refl _) (dt_empty s.heap I.big)
  have shape : (evalEachOpt [some kx] X.env).zip ((evalEach [vx] X.env).map fun v => do let x ← v; standAt pos; pure x) = ([(eval kx X.env, do let x ← eval vx X.env; standAt pos; pure x)] : List (Sem Value × Sem Value)).map fun p => (some p.1, p.2) := rfl
  rw [arm_eval_Dict, shape, dictDisplay_pairs _ (by simp) (by simp)]
  refine wpAny_bind (wpAny_standAt (wpAny_bind (wpAny_subDictH (knd := tupleKind (mixKind X.prog X.w)) (Q := fun d s' => wpAny (model X.prog X.w) X.A (pure (Value.ref d)) (EP X pins σ Q) X.xe s') room (by simp) ?_)))
  refine thn ((pps_cons (pos := pos) hk hv pps_nil).run pins { s with heap := s.heap.push { cls := .type "dict", data := .dict #[] } } σ _ _ J (h _ hn)) fun vs s2 ⟨ps, H2, J2, rel, y, b, k, e1, hb, hp, q⟩ => ?_
  subst e1
  obtain ⟨u, w, rfl, ru, rw'⟩ : ∃ u w, vs = [(u, w)] ∧ RelV (.ref b) u ∧ RelV y w := by
    cases rel with
    | @cons _ pq _ _ r1 r2 =>
      cases r2
      exact ⟨pq.1, pq.2, rfl, r1.1, r1.2⟩
  cases ru
  obtain ⟨_, ns, xs, kt, dd⟩ := dt_of J2.hok hp
  cases kt
  refine ⟨[(k, b, w)], ⟨rfl, rfl, key_of J2.hok hb, trivial⟩, dd, fun h' tk ⟨ob, es, ep, a1, a2, a3, a4, _, a6⟩ sb => wpAny_pure ⟨.ref s.heap.objs.size, upd H2 s.heap.objs.size (.dT [(k, y)]), ?_, rfl, q⟩⟩
  refine J2.write (t' := tk) (by rw [hp]; trivial) (.inl rfl) (fun c ob' hc z => (sb.2 c hc).trans z) ⟨ob, a1⟩ ⟨?_, ns, [(k, b, w)], .cons ⟨rfl, ?_, rw'⟩ .nil, ob, es, ep, a1, a2, a3, a4, a6⟩
  · show 1 ≤ sizeLine
    decide
  · show upd H2 s.heap.objs.size (.dT [(k, y)]) b = some (.tup (k.map kV))
    rw [upd_ne (ne_of hb hp nofun)]
    exact hb
end
end Pz
namespace Pz
open PySem L2 Evl StX
/-! ### what evaluates to what data: no heap in sight -/
inductive EV where
  | d (x : PyData)
  | f (ds : List PyData)
  | t (kvs : List (List Int × PyData))
  | z (p : Addr) (kvs : List (List Int × PyData))
  | a (p : Addr)
def DicT (H : Hp) (v : V) (kvs : List (List Int × PyData)) : Prop := ∃ a es, v = .ref a ∧ H a = some (.dT es) ∧ Paired (fun (e : List Key × V) (q : List Int × PyData) => e.1 = kI q.1 ∧ Dh H e.2 q.2) es kvs
/-- a dict that is locked while it is walked -/
def DicZ (H : Hp) (v : V) (a : Addr) (kvs : List (List Int × PyData)) : Prop := ∃ o es, v = .ref a ∧ H a = some (.frz o (.dT es)) ∧ Paired (fun (e : List Key × V) (q : List Int × PyData) => e.1 = kI q.1 ∧ Dh H e.2 q.2) es kvs
def Dv (H : Hp) (v : V) : EV → Prop
  | .d x => Dh H v x
  | .f ds => TupF H v ds
  | .t kvs => DicT H v kvs
  | .z p kvs => DicZ H v p kvs
  | .a p => v = .ref p
theorem TupF.mono {H H' : Hp} (e : Sx H H') {v : V} {ds : List PyData} (h : TupF H v ds) : TupF H' v ds :=
  let ⟨a, o, xs, e1, e2, e3, e4⟩ := h
  ⟨a, o, xs, e1, e _ _ trivial e2, e3, e4.mono e⟩
theorem paired_imp {α β : Type} {F G : α → β → Prop} : ∀ {l : List α} {m : List β}, Paired F l m → (∀ a b, F a b → G a b) → Paired G l m
  | _, _, .nil, _ => .nil
  | _, _, .cons h t, k => .cons (k _ _ h) (paired_imp t k)
theorem Dv.mono {H H' : Hp} (e : Ex H H') {v : V} : ∀ {x : EV}, Dv H v x → Dv H' v x
  | .d _, h => Dh.mono (Sx.of e) h
  | .f _, h => TupF.mono (Sx.of e) h
  | .t _, ⟨a, es, e1, e2, e3⟩ => ⟨a, es, e1, e _ _ e2, paired_imp e3 fun _ _ z => ⟨z.1, z.2.mono (Sx.of e)⟩⟩
  | .z _ _, ⟨o, es, e1, e2, e3⟩ => ⟨o, es, e1, e _ _ e2, paired_imp e3 fun _ _ z => ⟨z.1, z.2.mono (Sx.of e)⟩⟩
  | .a _, h => h
def DvA (H : Hp) : List V → List EV → Prop := Paired (Dv H)
theorem DvA.dha {H : Hp} : ∀ {vs : List V} {ds : List PyData}, DvA H vs (ds.map .d) → DhA H vs ds
  | _, [], .nil => .nil
  | _, _ :: _, .cons h t => .cons h (DvA.dha t)
theorem DvA.mono {H H' : Hp} (e : Ex H H') {vs : List V} {xs : List EV} (h : DvA H vs xs) : DvA H' vs xs := paired_imp h fun _ _ z => z.mono e
abbrev Env1 := List (Option EV)
def Envs (H : Hp) (σ : L2.St) (ρ : Env1) : Prop := Paired (fun (o : Option V) (e : Option EV) => ∀ x, e = some x → ∃ v, o = some v ∧ Dv H v x) σ ρ
theorem Envs.mono {H H' : Hp} (e : Ex H H') {σ : L2.St} {ρ : Env1} (h : Envs H σ ρ) : Envs H' σ ρ := paired_imp h fun _ _ z x q => let ⟨v, a, b⟩ := z x q; ⟨v, a, b.mono e⟩
theorem Envs.get {H : Hp} : ∀ {σ : L2.St} {ρ : Env1} {i : Nat} {x : EV}, Envs H σ ρ → ρ[i]? = some (some x) → ∃ v, σ[i]? = some (some v) ∧ Dv H v x
  | _, b :: _, 0, x, .cons h _, e => by
    have e' : b = some x := by simpa using e
    obtain ⟨v, a, b⟩ := h x e'
    exact ⟨v, by simp [a], b⟩
  | _, _, i + 1, x, .cons _h t, e => by
    obtain ⟨v, a, b⟩ := Envs.get (i := i) (x := x) t (by simpa using e)
    exact ⟨v, by simpa using a, b⟩
  | _, _, _, _, .nil, e0 => by simp at e0
theorem Envs.set {H : Hp} {v : V} {x : EV} (d : Dv H v x) : ∀ {σ : L2.St} {ρ : Env1} (i : Nat), Envs H σ ρ → Envs H (σ.set i (some v)) (ρ.set i (some x))
  | _, _, _, .nil => .nil
  | _, _, 0, .cons _ t => .cons (fun y e => by cases e; exact ⟨v, rfl, d⟩) t
  | _, _, i + 1, .cons h t => .cons h (Envs.set d i t)
theorem Envs.drop1 {H : Hp} {o : Option V} : ∀ {σ : L2.St} {ρ : Env1} (i : Nat), Envs H σ ρ → Envs H (σ.set i o) (ρ.set i none)
  | _, _, _, .nil => .nil
  | _, _, 0, .cons _ t => .cons (fun y e => nomatch e) t
  | _, _, i + 1, .cons h t => .cons h (Envs.drop1 i t)
def wipeR (ρ : Env1) : List Nat → Env1
  | [] => ρ
  | v :: vs => (wipeR ρ vs).set v none
theorem Envs.wipe {H : Hp} {σ : L2.St} {ρ : Env1} (h : Envs H σ ρ) : ∀ vs : List Nat, Envs H (wipe σ vs) (wipeR ρ vs)
  | [] => h
  | v :: vs => (Envs.wipe h vs).drop1 v
def Le (ρ ρ' : Env1) : Prop := Paired (fun a b => a = none ∨ a = b) ρ ρ'
theorem Envs.weak {H : Hp} : ∀ {σ : L2.St} {ρ ρ' : Env1}, Le ρ ρ' → Envs H σ ρ' → Envs H σ ρ
  | _, _, _, .nil, .nil => .nil
  | _, _, _, .cons h t, .cons k u => .cons (fun x e => by
      rcases h with h | h
      · rw [h] at e; cases e
      · exact k x (h ▸ e)) (Envs.weak t u)
theorem Le.refl : ∀ ρ : Env1, Le ρ ρ
  | [] => .nil
  | _ :: ρ => .cons (.inr rfl) (Le.refl ρ)
theorem wipe_set {j : Nat} {x : Option V} : ∀ {vs : List Nat} {σ : L2.St}, j ∈ vs → wipe (σ.set j x) vs = wipe σ vs
  | v :: vs, σ, h => by
    show (wipe (σ.set j x) vs).set v none = (wipe σ vs).set v none
    by_cases hm : j ∈ vs
    · rw [wipe_set hm]
    · have e : v = j := by
        rcases List.mem_cons.mp h with h | h
        · exact h.symm
        · exact absurd h hm
      subst e
      have : ∀ (ws : List Nat) (τ : L2.St), v ∉ ws → wipe (τ.set v x) ws = (wipe τ ws).set v x := by
        intro ws
        induction ws with
        | nil => intro τ _; rfl
        | cons w ws ih =>
          intro τ hn
          have h1 : v ≠ w := fun e => hn (e ▸ List.mem_cons_self)
          have h2 : v ∉ ws := fun m => hn (List.mem_cons_of_mem _ m)
          show (wipe (τ.set v x) ws).set w none = ((wipe τ ws).set w none).set v x
          rw [ih τ h2, List.set_comm _ _ h1]
      rw [this vs σ hm, List.set_set]
theorem wipe_wipe (σ : L2.St) (vs : List Nat) : wipe (wipe σ vs) vs = wipe σ vs := by
  have : ∀ (ws : List Nat) (τ : L2.St), (∀ w ∈ ws, w ∈ vs) → wipe (wipe τ ws) vs = wipe τ vs := by
    intro ws
    induction ws with
    | nil => intro τ _; rfl
    | cons w ws ih =>
      intro τ h
      show wipe ((wipe τ ws).set w none) vs = _
      rw [wipe_set (h w List.mem_cons_self), ih τ fun u hu => h u (List.mem_cons_of_mem _ hu)]
  exact this vs σ fun _ h => h

/-! ### a heap without what may change -/
abbrev Hid := Addr → Bool
def hide (H : Hp) (d : Hid) : Hp := fun a => if d a = true then none else H a
/-- what is hidden stands, and is no tuple -/
def Vw (d : Hid) (H : Hp) : Prop := ∀ a, d a = true → ∃ o, H a = some o ∧ ∀ xs, o ≠ .tup xs
section
variable {H H' : Hp} {d : Hid} {a : Addr} {o : HO}
theorem hide_some (h : hide H d a = some o) : H a = some o := by
  unfold hide at h
  split at h
  · cases h
  · exact h
theorem hide_not (h : hide H d a = some o) : d a = false := by
  unfold hide at h
  split at h
  · cases h
  · rename_i q; simpa using q
theorem hide_of (h : H a = some o) (n : d a = false) : hide H d a = some o := by
  unfold hide
  rw [if_neg (by rw [n]; decide)]
  exact h
theorem exh (e : Ex H H') : Ex (hide H d) (hide H' d) := fun a o h => hide_of (e a o (hide_some h)) (hide_not h)
theorem Vw.mono (w : Vw d H) (e : Ex H H') : Vw d H' := fun a h => let ⟨o, z, n⟩ := w a h; ⟨o, e a o z, n⟩
theorem Vw.fresh (w : Vw d H) (h : H a = none) : d a = false := by
  cases q : d a with
  | false => rfl
  | true =>
    obtain ⟨o, z, _⟩ := w a q
    rw [h] at z
    cases z
theorem vw_none (H : Hp) : Vw (fun _ => false) H := fun a h => by cases h
theorem hide_none (H : Hp) : hide H (fun _ => false) = H := by funext a; rfl
/-- one more hidden -/
def hid1 (d : Hid) (l : Addr) : Hid := fun a => d a || decide (a = l)
theorem hid1_self {l : Addr} : hid1 d l l = true := by simp [hid1]
theorem hide1_upd {l : Addr} : hide (upd H l o) (hid1 d l) = hide H (hid1 d l) := by
  funext b
  unfold hide
  by_cases h : hid1 d l b = true
  · rw [if_pos h, if_pos h]
  · rw [if_neg h, if_neg h, upd_ne]
    intro e
    subst e
    exact h hid1_self
theorem hide1_le {l : Addr} : Ex (hide H (hid1 d l)) (hide H d) := fun b o h => hide_of (hide_some h) (by
  have := hide_not h
  unfold hid1 at this
  rw [Bool.or_eq_false_iff] at this
  exact this.1)
/-- what was seen ahead of a new object is seen with it hidden -/
theorem hide1_new {l : Addr} (n : H l = none) (e : Ex H H') : Ex (hide H d) (hide H' (hid1 d l)) := fun b o h => hide_of (e b o (hide_some h)) (by
  unfold hid1
  rw [hide_not h, Bool.false_or]
  exact decide_eq_false fun z => by
    have := hide_some h
    rw [z, n] at this
    cases this)
theorem Vw.one {l : Addr} (w : Vw d H) (h : H l = some o) (n : ∀ xs, o ≠ .tup xs) : Vw (hid1 d l) H := fun a q => by
  unfold hid1 at q
  rw [Bool.or_eq_true] at q
  rcases q with q | q
  · exact w a q
  · rw [of_decide_eq_true q]; exact ⟨o, h, n⟩
/-! data without lists: tuples, numbers, texts -/
mutual
def noList : PyData → Bool
  | .list _ => false
  | .dict _ => false
  | .tuple xs => noLists xs
  | _ => true
def noLists : List PyData → Bool
  | [] => true
  | x :: xs => noList x && noLists xs
end
mutual
theorem Dh.view (w : Vw d H) : ∀ {v : V} {x : PyData}, Dh H v x → noList x = true → Dh (hide H d) v x
  | _, _, .non, _ => .non
  | _, _, .bl b, _ => .bl b
  | _, _, .int i, _ => .int i
  | _, _, .str x, _ => .str x
  | _, _, .lst _ _, h => by simp [noList] at h
  | _, _, .tup (a := a) hp t, h => .tup (hide_of hp (by
      cases q : d a with
      | false => rfl
      | true =>
        obtain ⟨o, z, n⟩ := w a q
        rw [hp] at z
        cases z
        exact absurd rfl (n _))) (DhA.view w t (by simpa [noList] using h))
theorem DhA.view (w : Vw d H) : ∀ {vs : List V} {xs : List PyData}, DhA H vs xs → noLists xs = true → DhA (hide H d) vs xs
  | _, _, .nil, _ => .nil
  | _, _, .cons h t, n => by
    simp only [noLists, Bool.and_eq_true] at n
    exact .cons (Dh.view w h n.1) (DhA.view w t n.2)
end
end
/-! ### expressions -/
def EvE (te : TE) (ρ : Env1) (x : EV) : Prop := ∀ (σ : L2.St) (H : Hp) (d : Hid), Vw d H → Envs (hide H d) σ ρ → ∀ Q : VK, (∀ v H2, Ex H H2 → Dv (hide H2 d) v x → Q v H2) → te σ H Q
def EvB (tt : TT) (ρ : Env1) (b : Bool) : Prop := ∀ (σ : L2.St) (H : Hp) (d : Hid), Vw d H → Envs (hide H d) σ ρ → ∀ Q : Bool → Hp → Prop, (∀ H2, Ex H H2 → Q b H2) → tt σ H Q
def EvAs (ta : TA) (ρ : Env1) (xs : List EV) : Prop := ∀ (σ : L2.St) (H : Hp) (d : Hid), Vw d H → Envs (hide H d) σ ρ → ∀ Q : List V → Hp → Prop, (∀ vs H2, Ex H H2 → DvA (hide H2 d) vs xs → Q vs H2) → ta σ H Q
abbrev iv (n : Int) : EV := .d (.int n)
abbrev bv (b : Bool) : EV := .d (.bool b)
section
variable {K : PySem.W.Frag} {ρ : Env1} {ta tb tc te : TE} {x y z : EV} {a b : Int}
theorem ee_var {i : Nat} (h : ρ[i]? = some (some x)) : EvE (tVar i) ρ x := fun σ H d w en Q q => let ⟨v, e, dv⟩ := en.get h; ⟨v, e, q v H (Ex.refl H) dv⟩
theorem ee_cst {v : V} {d : PyData} (h : ∀ H, Dh H v d) : EvE (tC v) ρ (.d d) := fun σ H _ _ _ Q q => q v H (Ex.refl H) (h _)
theorem ee_int {n : Int} : EvE (tC (.int n)) ρ (iv n) := ee_cst fun _ => .int n
theorem ee_bl {c : Bool} : EvE (tC (.bl c)) ρ (bv c) := ee_cst fun _ => .bl c
theorem ee_non : EvE (tC .non) ρ (.d .none) := ee_cst fun _ => .non
theorem ee_str {s : Str} : EvE (tC (.str s)) ρ (.d (.str s)) := ee_cst fun _ => .str s
/-- two parts, then what follows of their values -/
theorem ee_bin {r : R2} (ha : EvE ta ρ x) (hb : EvE tb ρ y) (hr : ∀ u v H d, Vw d H → Dv (hide H d) u x → Dv (hide H d) v y → ∀ Q : VK, (∀ w H2, Ex H H2 → Dv (hide H2 d) w z → Q w H2) → r u v H Q) : EvE (tOp r ta tb) ρ z := fun σ H d w en Q q =>
  ha σ H d w en _ fun u H1 e1 d1 => hb σ H1 d (w.mono e1) (en.mono (exh e1)) _ fun v H2 e2 d2 => hr u v H2 d (w.mono (e1.trans e2)) (d1.mono (exh e2)) d2 Q fun w H3 e3 d3 => q w H3 ((e1.trans e2).trans e3) d3
theorem ee_op0 {g : Int → Int → V} {d : PyData} (ha : EvE ta ρ (iv a)) (hb : EvE tb ρ (iv b)) (hd : ∀ H, Dh H (g a b) d) : EvE (tOp (rI0 g) ta tb) ρ (.d d) := ee_bin ha hb fun u v H _ _ d1 d2 Q q => by
  cases d1
  cases d2
  exact ⟨a, b, rfl, rfl, q _ H (Ex.refl H) (hd _)⟩
theorem ee_opc {C : Int → Int → Prop} {g : Int → Int → V} {d : PyData} (ha : EvE ta ρ (iv a)) (hb : EvE tb ρ (iv b)) (hc : C a b) (hd : ∀ H, Dh H (g a b) d) : EvE (tOp (rI C g) ta tb) ρ (.d d) := ee_bin ha hb fun u v H _ _ d1 d2 Q q => by
  cases d1
  cases d2
  exact ⟨a, b, rfl, rfl, hc, q _ H (Ex.refl H) (hd _)⟩
theorem ee_add (ha : EvE ta ρ (iv a)) (hb : EvE tb ρ (iv b)) : EvE (tOp (rI0 fun i j => .int (i + j)) ta tb) ρ (iv (a + b)) := ee_op0 ha hb fun _ => .int _
theorem ee_sub (ha : EvE ta ρ (iv a)) (hb : EvE tb ρ (iv b)) : EvE (tOp (rI0 fun i j => .int (i - j)) ta tb) ρ (iv (a - b)) := ee_op0 ha hb fun _ => .int _
theorem ee_lt (ha : EvE ta ρ (iv a)) (hb : EvE tb ρ (iv b)) : EvE (tOp (rI0 fun i j => .bl (decide (i < j))) ta tb) ρ (bv (decide (a < b))) := ee_op0 ha hb fun _ => .bl _
theorem ee_le (ha : EvE ta ρ (iv a)) (hb : EvE tb ρ (iv b)) : EvE (tOp (rI0 fun i j => .bl (decide (i ≤ j))) ta tb) ρ (bv (decide (a ≤ b))) := ee_op0 ha hb fun _ => .bl _
theorem ee_gt (ha : EvE ta ρ (iv a)) (hb : EvE tb ρ (iv b)) : EvE (tOp (rI0 fun i j => .bl (decide (j < i))) ta tb) ρ (bv (decide (b < a))) := ee_op0 ha hb fun _ => .bl _
theorem ee_mul (ha : EvE ta ρ (iv a)) (hb : EvE tb ρ (iv b)) (h : CMul a b) : EvE (tOp (rI CMul fun i j => .int (i * j)) ta tb) ρ (iv (a * b)) := ee_opc ha hb h fun _ => .int _
theorem ee_mod (ha : EvE ta ρ (iv a)) (hb : EvE tb ρ (iv b)) (h : 0 < b) : EvE (tOp (rI (fun _ j => 0 < j) fun i j => .int (i % j)) ta tb) ρ (iv (a % b)) := ee_opc ha hb h fun _ => .int _
theorem ee_div (ha : EvE ta ρ (iv a)) (hb : EvE tb ρ (iv b)) (h : CDiv a b) : EvE (tOp (rI CDiv fun i j => .int (i / j)) ta tb) ρ (iv (a / b)) := ee_opc ha hb h fun _ => .int _
theorem ee_pow (ha : EvE ta ρ (iv a)) (hb : EvE tb ρ (iv b)) (h : CPow a b) : EvE (tOp (rI CPow fun i j => .int (i ^ j.toNat)) ta tb) ρ (iv (a ^ b.toNat)) := ee_opc ha hb h fun _ => .int _
theorem ee_neg (ha : EvE ta ρ (iv a)) : EvE (tUn (rU fun i => .int (-i)) ta) ρ (iv (-a)) := fun σ H d w en Q q => ha σ H d w en _ fun u H1 e1 d1 => by
  cases d1
  exact ⟨a, rfl, q _ H1 e1 (.int _)⟩
theorem ee_eqI (ha : EvE ta ρ (iv a)) (hb : EvE tb ρ (iv b)) : EvE (tOp rEq ta tb) ρ (bv (decide (a = b))) := ee_bin ha hb fun u v H _ _ d1 d2 Q q => by
  cases d1
  cases d2
  refine ⟨rfl, q _ H (Ex.refl H) ?_⟩
  have : decide (V.int a = V.int b) = decide (a = b) := by by_cases h : a = b <;> simp [h]
  rw [this]
  exact .bl _
theorem ee_neI (ha : EvE ta ρ (iv a)) (hb : EvE tb ρ (iv b)) : EvE (tOp rNe ta tb) ρ (bv (!decide (a = b))) := ee_bin ha hb fun u v H _ _ d1 d2 Q q => by
  cases d1
  cases d2
  refine ⟨rfl, q _ H (Ex.refl H) ?_⟩
  have : decide (V.int a = V.int b) = decide (a = b) := by by_cases h : a = b <;> simp [h]
  rw [this]
  exact .bl _
theorem ee_eqS {s t : Str} (ha : EvE ta ρ (.d (.str s))) (hb : EvE tb ρ (.d (.str t))) : EvE (tOp rEq ta tb) ρ (bv (decide (s = t))) := ee_bin ha hb fun u v H _ _ d1 d2 Q q => by
  cases d1
  cases d2
  refine ⟨rfl, q _ H (Ex.refl H) ?_⟩
  have : decide (V.str s = V.str t) = decide (s = t) := by by_cases h : s = t <;> simp [h]
  rw [this]
  exact .bl _
theorem ee_neS {s t : Str} (ha : EvE ta ρ (.d (.str s))) (hb : EvE tb ρ (.d (.str t))) : EvE (tOp rNe ta tb) ρ (bv (!decide (s = t))) := ee_bin ha hb fun u v H _ _ d1 d2 Q q => by
  cases d1
  cases d2
  refine ⟨rfl, q _ H (Ex.refl H) ?_⟩
  have : decide (V.str s = V.str t) = decide (s = t) := by by_cases h : s = t <;> simp [h]
  rw [this]
  exact .bl _
/-- the items of a sequence -/
def Its1 (H : Hp) (v : V) (ds : List PyData) : Prop := ∃ a xs, v = .ref a ∧ DhA H xs ds ∧ (H a = some (.lst xs) ∨ H a = some (.tup xs) ∨ ∃ o, H a = some (.frz o (.tup xs)))
/-- x is a sequence of ds -/
def SeqV (x : EV) (ds : List PyData) : Prop := x = .d (.list ds) ∨ x = .d (.tuple ds) ∨ x = .f ds
theorem SeqV.its {H : Hp} {v : V} {ds : List PyData} (s : SeqV x ds) (d : Dv H v x) : Its1 H v ds := by
  rcases s with rfl | rfl | rfl
  · have d' : Dh H v (.list ds) := d
    cases d' with
    | lst h t => exact ⟨_, _, rfl, t, .inl h⟩
  · have d' : Dh H v (.tuple ds) := d
    cases d' with
    | tup h t => exact ⟨_, _, rfl, t, .inr (.inl h)⟩
  · obtain ⟨a, o, xs, e1, e2, _, e3⟩ := d
    exact ⟨a, xs, e1, e3, .inr (.inr ⟨o, e2⟩)⟩
theorem sv_l (ds : List PyData) : SeqV (.d (.list ds)) ds := .inl rfl
theorem sv_t (ds : List PyData) : SeqV (.d (.tuple ds)) ds := .inr (.inl rfl)
theorem sv_f (ds : List PyData) : SeqV (.f ds) ds := .inr (.inr rfl)
theorem ee_ix {ds : List PyData} {n : Nat} {d : PyData} (ha : EvE ta ρ x) (s : SeqV x ds) (hb : EvE tb ρ (iv (n : Int))) (h : ds[n]? = some d) : EvE (tOp (rIx K) ta tb) ρ (.d d) := ee_bin ha hb fun u v H hd _ d1 d2 Q q => by
  obtain ⟨p, xs, rfl, hx, hp⟩ := s.its d1
  cases d2
  obtain ⟨w, hw, dw⟩ := hx.get h
  have k := q w H (Ex.refl H) dw
  rcases hp with hp | hp | ⟨o, hp⟩
  · exact .inl ⟨p, xs, n, w, rfl, rfl, .inl (.inl (hide_some hp)), atI_nat hw, k⟩
  · exact .inr (.inl ⟨p, xs, n, w, rfl, rfl, .inl (.inl (hide_some hp)), atI_nat hw, k⟩)
  · exact .inr (.inl ⟨p, xs, n, w, rfl, rfl, .inl (.inr ⟨o, hide_some hp⟩), atI_nat hw, k⟩)
theorem ea_nil : EvAs tNil ρ [] := fun σ H _ _ _ Q q => q [] H (Ex.refl H) .nil
theorem ea_cons {tr : TA} {xs : List EV} (h : EvE ta ρ x) (hr : EvAs tr ρ xs) : EvAs (tCons ta tr) ρ (x :: xs) := fun σ H d w en Q q =>
  h σ H d w en _ fun v H1 e1 d1 => hr σ H1 d (w.mono e1) (en.mono (exh e1)) _ fun vs H2 e2 d2 => q _ H2 (e1.trans e2) (.cons (d1.mono (exh e2)) d2)
theorem ea_star {tr : TA} {xs : List EV} {ds : List PyData} (h : EvE ta ρ x) (s : SeqV x ds) (hr : EvAs tr ρ xs) : EvAs (tStar K ta tr) ρ (ds.map .d ++ xs) := fun σ H d w en Q q =>
  h σ H d w en _ fun v H1 e1 d1 => by
    obtain ⟨p, ys, rfl, hy, hp⟩ := s.its d1
    refine ⟨p, ys, rfl, ?_, hr σ H1 d (w.mono e1) (en.mono (exh e1)) _ fun vs H2 e2 d2 => q _ H2 (e1.trans e2) ?_⟩
    · rcases hp with hp | hp | ⟨o, hp⟩
      · exact .inr (.inl (.inl (hide_some hp)))
      · exact .inl (.inl (.inl (hide_some hp)))
      · exact .inl (.inl (.inr ⟨o, hide_some hp⟩))
    · have : ∀ {ys : List V} {ds : List PyData}, DhA (hide H2 d) ys ds → DvA (hide H2 d) (ys ++ vs) (ds.map .d ++ xs) := by
        intro ys ds h
        induction ds generalizing ys with
        | nil => cases h; exact d2
        | cons d ds ih =>
          cases h with
          | cons h1 h2 => exact .cons h1 (ih h2)
      exact this (hy.mono (Sx.of (exh e2)))
theorem ee_tup {ta : TA} {ds : List PyData} (h : EvAs ta ρ (ds.map .d)) (hl : ds.length ≤ 100000) : EvE (tTup ta) ρ (.d (.tuple ds)) := fun σ H d w en Q q =>
  h σ H d w en _ fun vs H1 e1 d1 => by
    have da := d1.dha
    refine ⟨sz_of (by rw [da.len]; exact hl), fun p hp => q _ _ (e1.trans (Ex.new hp)) (.tup (hide_of upd_same ((w.mono e1).fresh hp)) (da.mono (Sx.of (exh (Ex.new hp)))))⟩
theorem ee_lst {ta : TA} {ds : List PyData} (h : EvAs ta ρ (ds.map .d)) (hl : ds.length ≤ 100000) : EvE (tLst ta) ρ (.d (.list ds)) := fun σ H d w en Q q =>
  h σ H d w en _ fun vs H1 e1 d1 => by
    have da := d1.dha
    refine ⟨sz_of (by rw [da.len]; exact hl), fun p hp => q _ _ (e1.trans (Ex.new hp)) (.lst (hide_of upd_same ((w.mono e1).fresh hp)) (da.mono (Sx.of (exh (Ex.new hp)))))⟩
/-! ### calls -/
def spD (R : List EV → EV → Prop) : SpF := fun vs H Q => ∃ d xs r, Vw d H ∧ DvA (hide H d) vs xs ∧ R xs r ∧ ∀ v H', Ex H H' → Dv (hide H' d) v r → Q v H'
theorem ee_cal {R : List EV → EV → Prop} {ta : TA} {xs : List EV} (h : EvAs ta ρ xs) (r : R xs z) : EvE (tCal (spD R) ta) ρ z := fun σ H d w en Q q =>
  h σ H d w en _ fun vs H1 e1 d1 => ⟨d, xs, z, w.mono e1, d1, r, fun v H' e dv => q v H' (e1.trans e) dv⟩
theorem ee_cb {r : List V → Hp → VK → Prop} {ta : TA} {xs : List EV} (h : EvAs ta ρ xs) (hr : ∀ vs H d, Vw d H → DvA (hide H d) vs xs → ∀ Q : VK, (∀ w H2, Ex H H2 → Dv (hide H2 d) w z → Q w H2) → r vs H Q) : EvE (tCB r ta) ρ z := fun σ H d w en Q q =>
  h σ H d w en _ fun vs H1 e1 d1 => hr vs H1 d (w.mono e1) d1 Q fun w H2 e2 d2 => q w H2 (e1.trans e2) d2
theorem dv1 {H : Hp} {vs : List V} (h : DvA H vs [x]) : ∃ v, vs = [v] ∧ Dv H v x := by
  cases h with
  | cons h t => cases t; exact ⟨_, rfl, h⟩
theorem dv2 {H : Hp} {vs : List V} (h : DvA H vs [x, y]) : ∃ u v, vs = [u, v] ∧ Dv H u x ∧ Dv H v y := by
  cases h with
  | cons h t =>
    obtain ⟨v, rfl, hv⟩ := dv1 t
    exact ⟨_, v, rfl, h, hv⟩
theorem dv3 {H : Hp} {vs : List V} (h : DvA H vs [x, y, z]) : ∃ u v w, vs = [u, v, w] ∧ Dv H u x ∧ Dv H v y ∧ Dv H w z := by
  cases h with
  | cons h t =>
    obtain ⟨v, w, rfl, hv, hw⟩ := dv2 t
    exact ⟨_, v, w, rfl, h, hv, hw⟩
theorem ee_sum {ns : List Int} (h : EvE ta ρ x) (s : x = .d (.tuple (ns.map .int)) ∨ x = .d (.list (ns.map .int))) : EvE (tCB rSumA (tCons ta tNil)) ρ (iv ns.sum) :=
  ee_cb (ea_cons h ea_nil) fun vs H hd w d0 Q q => by
    obtain ⟨v, rfl, d⟩ := dv1 d0
    refine ⟨v, ns, rfl, ?_, q _ H (Ex.refl H) (.int _)⟩
    rcases s with rfl | rfl
    · exact .inl (Dh.mono (Sx.of fun b o z => hide_some z) d)
    · exact .inr (Dh.mono (Sx.of fun b o z => hide_some z) d)
theorem ee_max {ns : List Int} {m : Int} (h : EvE ta ρ (.d (.list (ns.map .int)))) (hn : 0 < ns.length) (hm : ∀ m', m' ∈ ns → (∀ y, y ∈ ns → y ≤ m') → m' = m) : EvE (tCB (rMax K) (tCons ta tNil)) ρ (iv m) :=
  ee_cb (ea_cons h ea_nil) fun vs H hd w d0 Q q => by
    obtain ⟨v, rfl, d⟩ := dv1 d0
    have d' : Dh (hide H hd) v (.list (ns.map .int)) := d
    cases d' with
    | lst hp t =>
      rw [t.ints] at hp
      exact ⟨_, ns, rfl, .inl (.inl (hide_some hp)), hn, fun m' h1 h2 => by rw [hm m' h1 h2]; exact q _ H (Ex.refl H) (.int _)⟩
theorem ee_len {ds : List PyData} (h : EvE ta ρ x) (s : SeqV x ds) : EvE (tCB (rLenS K) (tCons ta tNil)) ρ (iv (ds.length : Int)) :=
  ee_cb (ea_cons h ea_nil) fun vs H hd w d0 Q q => by
    obtain ⟨v, rfl, d⟩ := dv1 d0
    obtain ⟨p, xs, rfl, hx, hp⟩ := s.its d
    refine ⟨p, xs, rfl, ?_, by rw [hx.len]; exact q _ H (Ex.refl H) (.int _)⟩
    rcases hp with hp | hp | ⟨o, hp⟩
    · exact .inl (.inl (.inl (hide_some hp)))
    · exact .inr (.inl (.inl (hide_some hp)))
    · exact .inr (.inl (.inr ⟨o, hide_some hp⟩))
theorem ee_all {bs : List Bool} (h : EvE ta ρ (.d (.list (bs.map .bool)))) : EvE (tCB (rAll K) (tCons ta tNil)) ρ (bv (bs.all id)) :=
  ee_cb (ea_cons h ea_nil) fun vs H hd w d0 Q q => by
    obtain ⟨v, rfl, d⟩ := dv1 d0
    have d' : Dh (hide H hd) v (.list (bs.map .bool)) := d
    cases d' with
    | lst hp t =>
      rw [t.bls] at hp
      exact ⟨_, bs, rfl, .inl (.inl (hide_some hp)), q _ H (Ex.refl H) (.bl _)⟩
end
end Pz
namespace Pz
open PySem L2 Evl StX
section
variable {K : PySem.W.Frag} {ρ ρ1 ρ2 : Env1} {ta tb tc te : TE} {t u : TT} {x y z : EV} {a b : Int}
/-! ### tests, conditions -/
theorem eb_test {c : Bool} (h : EvE te ρ (bv c)) : EvB (tTest te) ρ c := fun σ H hd w en Q q => h σ H hd w en _ fun v H1 e d => by
  cases d
  exact ⟨c, rfl, q H1 e⟩
theorem eb_B {c : Bool} (h : EvE te ρ (bv c)) : EvB (tB te) ρ c := fun σ H hd w en Q q => h σ H hd w en _ fun v H1 e d => by
  cases d
  exact ⟨c, rfl, q H1 e⟩
theorem eb_not {c : Bool} (h : EvB t ρ c) : EvB (tNot t) ρ (!c) := fun σ H hd w en Q q => h σ H hd w en _ q
theorem eb_or {c d : Bool} (h : EvB t ρ c) (k : c = false → EvB u ρ d) : EvB (tOr t u) ρ (c || d) := fun σ H hd w en Q q => h σ H hd w en _ fun H1 e => by
  cases c with
  | true => exact q H1 e
  | false => exact k rfl σ H1 hd (w.mono e) (en.mono (exh e)) _ fun H2 e2 => q H2 (e.trans e2)
theorem eb_and {c d : Bool} (h : EvB t ρ c) (k : c = true → EvB u ρ d) : EvB (tAnd t u) ρ (c && d) := fun σ H hd w en Q q => h σ H hd w en _ fun H1 e => by
  cases c with
  | false => exact q H1 e
  | true => exact k rfl σ H1 hd (w.mono e) (en.mono (exh e)) _ fun H2 e2 => q H2 (e.trans e2)
theorem ee_orV {c d : Bool} (h : EvE ta ρ (bv c)) (k : c = false → EvE tb ρ (bv d)) : EvE (tOrV ta tb) ρ (bv (c || d)) := fun σ H hd w en Q q => h σ H hd w en _ fun v H1 e dv => by
  cases dv
  refine ⟨c, rfl, ?_⟩
  cases c with
  | true => exact q _ H1 e (.bl true)
  | false => exact k rfl σ H1 hd (w.mono e) (en.mono (exh e)) _ fun w' H2 e2 => q w' H2 (e.trans e2)
theorem ee_andV {c d : Bool} (h : EvE ta ρ (bv c)) (k : c = true → EvE tb ρ (bv d)) : EvE (tAndV ta tb) ρ (bv (c && d)) := fun σ H hd w en Q q => h σ H hd w en _ fun v H1 e dv => by
  cases dv
  refine ⟨c, rfl, ?_⟩
  cases c with
  | false => exact q _ H1 e (.bl false)
  | true => exact k rfl σ H1 hd (w.mono e) (en.mono (exh e)) _ fun w' H2 e2 => q w' H2 (e.trans e2)
theorem ee_notV {c : Bool} (h : EvE ta ρ (bv c)) : EvE (tNotV ta) ρ (bv (!c)) := fun σ H hd w en Q q => h σ H hd w en _ fun v H1 e dv => by
  cases dv
  exact ⟨c, rfl, q _ H1 e (.bl _)⟩
theorem ee_if {c : Bool} (h : EvB t ρ c) (k1 : c = true → EvE ta ρ x) (k2 : c = false → EvE tb ρ x) : EvE (tIf t ta tb) ρ x := fun σ H hd w en Q q => h σ H hd w en _ fun H1 e => by
  cases c with
  | true => exact k1 rfl σ H1 hd (w.mono e) (en.mono (exh e)) _ fun w' H2 e2 => q w' H2 (e.trans e2)
  | false => exact k2 rfl σ H1 hd (w.mono e) (en.mono (exh e)) _ fun w' H2 e2 => q w' H2 (e.trans e2)
theorem ee_is (h : EvE te ρ x) (e : x = y) : EvE te ρ y := e ▸ h
theorem eb_is {c d : Bool} (h : EvB t ρ c) (e : c = d) : EvB t ρ d := e ▸ h
/-- a <= b <= c of ints -/
theorem ee_chain {c : Int} (ha : EvE ta ρ (iv a)) (hb : EvE tb ρ (iv b)) (hc : EvE tc ρ (iv c)) :
    EvE (tChain (rI0 fun i j => .bl (decide (i ≤ j))) (rI0 fun i j => .bl (decide (i ≤ j))) ta tb tc) ρ (bv (decide (a ≤ b) && decide (b ≤ c))) := fun σ H hd w en Q q =>
  ha σ H hd w en _ fun u H1 e1 d1 => hb σ H1 hd (w.mono e1) (en.mono (exh e1)) _ fun v H2 e2 d2 => by
    cases d1
    cases d2
    refine ⟨a, b, rfl, rfl, decide (a ≤ b), rfl, ?_⟩
    by_cases h : a ≤ b
    · rw [decide_eq_true h, if_pos rfl]
      refine hc σ H2 hd (w.mono (e1.trans e2)) (en.mono (exh (e1.trans e2))) _ fun w' H3 e3 d3 => ?_
      cases d3
      refine ⟨b, c, rfl, rfl, q _ H3 ((e1.trans e2).trans e3) ?_⟩
      rw [decide_eq_true h, Bool.true_and]
      exact .bl _
    · rw [decide_eq_false h, if_neg Bool.false_ne_true]
      refine q _ H2 (e1.trans e2) ?_
      rw [decide_eq_false h, Bool.false_and]
      exact .bl _
end
/-! ### isinstance -/
def IsT (H : Hp) (x : V) (T : String) (b : Bool) : Prop := (RZ.Ty4 H x T ∧ b = true) ∨ ((∃ n, x = .int n) ∧ T = "bool" ∧ b = false)
def rIsD : List V → Hp → VK → Prop := fun vs H Q => ∃ x T b, vs = [x, .ty T] ∧ IsT H x T b ∧ Q (.bl b) H
theorem call_isD {X : Cx} : CallR X (.builtin "isinstance") rIsD := by
  intro pins s σ H vs us Q I r h; obtain ⟨x, T, b, rfl, hi, q⟩ := h
  rcases hi with ⟨ty, rfl⟩ | ⟨⟨n, rfl⟩, rfl, rfl⟩
  · exact RZ.call_isTy pins s σ H _ us Q I r ⟨x, T, rfl, ty, q⟩
  · exact call_isi pins s σ H _ us Q I r ⟨.int n, .ty "bool", .type "int", .type "bool", false, rfl, .ty _, .base (.int n), rfl, q⟩
section
variable {K : PySem.W.Frag} {ρ : Env1} {te : TE} {x : EV}
theorem ee_isInt {n : Int} (h : EvE te ρ (iv n)) : EvE (tCB rIsD (tCons te (tCons (tC (.ty "int")) tNil))) ρ (bv true) := fun σ H hd w en Q q =>
  h σ H hd w en _ fun v H1 e d => by
    cases d
    exact ⟨_, _, true, rfl, .inl ⟨.int n, rfl⟩, q _ H1 e (.bl _)⟩
theorem ee_isBool {n : Int} (h : EvE te ρ (iv n)) : EvE (tCB rIsD (tCons te (tCons (tC (.ty "bool")) tNil))) ρ (bv false) := fun σ H hd w en Q q =>
  h σ H hd w en _ fun v H1 e d => by
    cases d
    exact ⟨_, _, false, rfl, .inr ⟨⟨n, rfl⟩, rfl, rfl⟩, q _ H1 e (.bl _)⟩
theorem ee_isTup {ds : List PyData} (h : EvE te ρ (.d (.tuple ds))) : EvE (tCB rIsD (tCons te (tCons (tC (.ty "tuple")) tNil))) ρ (bv true) := fun σ H hd w en Q q =>
  h σ H hd w en _ fun v H1 e d => by
    have d' : Dh (hide H1 hd) v (.tuple ds) := d
    cases d' with
    | tup hp t => exact ⟨_, _, true, rfl, .inl ⟨.tup (hide_some hp), rfl⟩, q _ H1 e (.bl _)⟩
end
/-! ### statements -/
def SN (t : TS) (ρ ρ' : Env1) : Prop := ∀ (D : Ends) (σ : L2.St) (H : Hp) (d : Hid), Vw d H → Envs (hide H d) σ ρ → (∀ σ' H', Ex H H' → Envs (hide H' d) σ' ρ' → D.nx σ' H') → t D σ H
def SR (t : TS) (ρ : Env1) (r : EV) : Prop := ∀ (D : Ends) (σ : L2.St) (H : Hp) (d : Hid), Vw d H → Envs (hide H d) σ ρ → (∀ v H', Ex H H' → Dv (hide H' d) v r → D.rt v H') → t D σ H
section
variable {K : PySem.W.Frag} {ρ ρ1 ρ2 ρ3 : Env1} {ta te : TE} {tt : TT} {t u w : TS} {x y r : EV} {g : TG} {wi : TI}
theorem sr_seq (h : SN t ρ ρ1) (k : SR u ρ1 r) : SR (tSeq t u) ρ r := fun D σ H hd w en q => h _ σ H hd w en fun σ' H' e en' => k D σ' H' hd (w.mono e) en' fun v H2 e2 => q v H2 (e.trans e2)
theorem sn_seq (h : SN t ρ ρ1) (k : SN u ρ1 ρ2) : SN (tSeq t u) ρ ρ2 := fun D σ H hd w en q => h _ σ H hd w en fun σ' H' e en' => k D σ' H' hd (w.mono e) en' fun v H2 e2 => q v H2 (e.trans e2)
theorem sn_next : SN tNext ρ ρ := fun D σ H hd w en q => q σ H (Ex.refl H) en
theorem sn_one (h : SN t ρ ρ1) : SN (tSeq t tNext) ρ ρ1 := sn_seq h sn_next
theorem sr_one (h : SR t ρ r) : SR (tSeq t u) ρ r := fun D σ H hd w en q => h _ σ H hd w en q
theorem sn_weak (h : SN t ρ ρ1) (l : Le ρ2 ρ1) : SN t ρ ρ2 := fun D σ H hd w en q => h D σ H hd w en fun σ' H' e en' => q σ' H' e (en'.weak l)
theorem sn_pre (h : SN t ρ2 ρ1) (l : Le ρ2 ρ) : SN t ρ ρ1 := fun D σ H hd w en q => h D σ H hd w (en.weak l) q
theorem sr_ret (h : EvE te ρ r) : SR (tRet te) ρ r := fun D σ H hd w en q => h σ H hd w en _ q
theorem sr_if {c : Bool} (h : EvB tt ρ c) (k1 : c = true → SR t ρ r) (k2 : c = false → SR u ρ r) : SR (tIfS tt t u) ρ r := fun D σ H hd w en q => h σ H hd w en _ fun H1 e => by
  cases c with
  | true => exact k1 rfl D σ H1 hd (w.mono e) (en.mono (exh e)) fun v H2 e2 => q v H2 (e.trans e2)
  | false => exact k2 rfl D σ H1 hd (w.mono e) (en.mono (exh e)) fun v H2 e2 => q v H2 (e.trans e2)
theorem sn_if {c : Bool} (h : EvB tt ρ c) (k1 : c = true → SN t ρ ρ1) (k2 : c = false → SN u ρ ρ1) : SN (tIfS tt t u) ρ ρ1 := fun D σ H hd w en q => h σ H hd w en _ fun H1 e => by
  cases c with
  | true => exact k1 rfl D σ H1 hd (w.mono e) (en.mono (exh e)) fun v H2 e2 => q v H2 (e.trans e2)
  | false => exact k2 rfl D σ H1 hd (w.mono e) (en.mono (exh e)) fun v H2 e2 => q v H2 (e.trans e2)
/-- an if that is not taken -/
theorem sn_pass (h : EvB tt ρ false) : SN (tIfS tt t tNext) ρ ρ := sn_if h (fun z => nomatch z) fun _ => sn_next
/-- an if that is taken and returns -/
theorem sr_take (h : EvB tt ρ true) (k : SR t ρ r) : SR (tSeq (tIfS tt t u) w) ρ r := fun D σ H hd w en q => h σ H hd w en _ fun H1 e => by
  show t _ σ H1
  exact k _ σ H1 hd (w.mono e) (en.mono (exh e)) fun v H2 e2 => q v H2 (e.trans e2)
/-- a target -/
def GE (g : TG) (js : List Nat) (ρ : Env1) (x : EV) (ρ' : Env1) : Prop := ∀ (v : V) (σ : L2.St) (H : Hp) (d : Hid) (Q : L2.St → Hp → Prop), Envs (hide H d) σ ρ → Dv (hide H d) v x → (∀ σ', Envs (hide H d) σ' ρ' → (∀ vs, (∀ j ∈ js, j ∈ vs) → wipe σ' vs = wipe σ vs) → Q σ' H) → g v σ H Q
theorem ge_name {i : Nat} : GE (gName i) [i] ρ x (ρ.set i (some x)) := fun v σ H hd Q en d k => k _ (en.set d i) fun vs h => wipe_set (h i List.mem_cons_self)
theorem ge_two {i j : Nat} {d1 d2 : PyData} : GE (gTup K 2 (gCons (gName i) (gCons (gName j) gNil))) [i, j] ρ (.d (.tuple [d1, d2])) ((ρ.set i (some (.d d1))).set j (some (.d d2))) := fun v σ H hd Q en d k => by
  have d' : Dh (hide H hd) v (.tuple [d1, d2]) := d
  cases d' with
  | tup hp t =>
    cases t with
    | cons h1 t =>
      cases t with
      | cons h2 t =>
        cases t
        refine ⟨_, _, rfl, .inl (.inl (hide_some hp)), rfl, _, _, rfl, _, _, rfl, rfl, ?_⟩
        refine k _ ((en.set (x := .d d1) h1 i).set (x := .d d2) h2 j) fun vs h => ?_
        rw [wipe_set (h j (by simp)), wipe_set (h i (by simp))]
theorem ge_four {i j k l : Nat} {d1 d2 d3 d4 : PyData} : GE (gTup K 4 (gCons (gName i) (gCons (gName j) (gCons (gName k) (gCons (gName l) gNil))))) [i, j, k, l] ρ (.d (.tuple [d1, d2, d3, d4])) ((((ρ.set i (some (.d d1))).set j (some (.d d2))).set k (some (.d d3))).set l (some (.d d4))) := fun v σ H hd Q en d q => by
  have d' : Dh (hide H hd) v (.tuple [d1, d2, d3, d4]) := d
  cases d' with
  | tup hp t =>
    cases t with
    | cons h1 t =>
      cases t with
      | cons h2 t =>
        cases t with
        | cons h3 t =>
          cases t with
          | cons h4 t =>
            cases t
            refine ⟨_, _, rfl, .inl (.inl (hide_some hp)), rfl, _, _, rfl, _, _, rfl, _, _, rfl, _, _, rfl, rfl, ?_⟩
            refine q _ ((((en.set (x := .d d1) h1 i).set (x := .d d2) h2 j).set (x := .d d3) h3 k).set (x := .d d4) h4 l) fun vs h => ?_
            rw [wipe_set (h l (by simp)), wipe_set (h k (by simp)), wipe_set (h j (by simp)), wipe_set (h i (by simp))]
theorem sn_asgG {js : List Nat} (h : EvE te ρ x) (hg : GE g js ρ x ρ1) : SN (tAsg te g) ρ ρ1 := fun D σ H hd w en q => h σ H hd w en _ fun v H1 e d => hg v σ H1 hd _ (en.mono (exh e)) d fun σ' en' _ => q σ' H1 e en'
theorem sn_asg {i : Nat} (h : EvE te ρ x) : SN (tAsg te (gName i)) ρ (ρ.set i (some x)) := sn_asgG h ge_name
theorem sn_par {i j : Nat} {ta : TA} (h : EvAs ta ρ [x, y]) : SN (tPar i j ta) ρ ((ρ.set i (some x)).set j (some y)) := fun D σ H hd w en q => h σ H hd w en _ fun vs H1 e d => by
  obtain ⟨v, v2, rfl, d1, d2⟩ := dv2 d
  exact ⟨v, v2, rfl, q _ H1 e (((en.mono (exh e)).set d1 i).set d2 j)⟩
theorem sn_aug {i : Nat} {f : Int → Int → Int} {a b : Int} (hx : ρ[i]? = some (some (iv a))) (h : EvE te ρ (iv b)) : SN (tAug i te (ipI f)) ρ (ρ.set i (some (iv (f a b)))) := fun D σ H hd w en q => by
  obtain ⟨v, e, d⟩ := en.get hx
  cases d
  exact ⟨.int a, e, h σ H hd w en _ fun w' H1 e1 d1 => by
    cases d1
    exact ⟨a, b, rfl, rfl, q _ H1 e1 ((en.mono (exh e1)).set (x := iv (f a b)) (.int _) i)⟩⟩
/-! ### loops -/
def Wk (J : It) (H1 : Hp) (hd : Hid) (ds : List PyData) : Prop :=
  Walk J ds.length (fun H2 => ∃ d', Vw d' H2 ∧ Ex (hide H1 hd) (hide H2 d')) fun i H x H' => Ex H H' ∧ ∃ d, ds[i]? = some d ∧ ∀ d', Vw d' H → Ex (hide H1 hd) (hide H d') → Dh (hide H' d') x d
def WiE (wi : TI) (ρ : Env1) (ds : List PyData) : Prop := ∀ (σ : L2.St) (H : Hp) (d : Hid), Vw d H → Envs (hide H d) σ ρ → ∀ R : It → Hp → Prop, (∀ J H1, Ex H H1 → Wk J H1 d ds → R J H1) → wi σ H R
theorem wk_list {a : Addr} {xs : List V} {ds : List PyData} {H1 : Hp} {hd : Hid} (h : hide H1 hd a = some (.lst xs)) (hx : DhA (hide H1 hd) xs ds) : Wk (Itl K a) H1 hd ds := by
  have w := walk_list (K := K) (a := a) (xs := xs)
  rw [hx.len] at w
  refine w.mono (fun H2 ⟨d', _, s⟩ => .inl (.inl (hide_some (s _ _ h)))) fun i H x H' _ _ y => ?_
  obtain ⟨rfl, hy⟩ := y
  obtain ⟨d, e, dd⟩ := hx.get' hy
  exact ⟨Ex.refl _, d, e, fun d' _ s => dd.mono (Sx.of s)⟩
theorem wk_tup {a : Addr} {xs : List V} {ds : List PyData} {H1 : Hp} {hd : Hid} (h : Rd (hide H1 hd) a (.tup xs)) (hx : DhA (hide H1 hd) xs ds) : Wk (Itt K a) H1 hd ds := by
  have w := walk_tup (K := K) (a := a) (xs := xs)
  rw [hx.len] at w
  refine w.mono (fun H2 ⟨d', _, s⟩ => ?_) fun i H x H' _ _ y => ?_
  · rcases h with h | ⟨o, h⟩
    · exact .inl (.inl (hide_some (s _ _ h)))
    · exact .inl (.inr ⟨o, hide_some (s _ _ h)⟩)
  · obtain ⟨rfl, hy⟩ := y
    obtain ⟨d, e, dd⟩ := hx.get' hy
    exact ⟨Ex.refl _, d, e, fun d' _ s => dd.mono (Sx.of s)⟩
theorem wi_seq {ds : List PyData} (h : EvE te ρ x) (s : SeqV x ds) : WiE (iOr (iList K te) (iTup K te)) ρ ds := fun σ H hd w en R k => by
  rcases s with rfl | rfl | rfl
  · refine .inl (h σ H hd w en _ fun v H1 e d => ?_)
    have d' : Dh (hide H1 hd) v (.list ds) := d
    cases d' with
    | lst hp t => exact ⟨_, rfl, ⟨_, .inl (.inl (hide_some hp))⟩, k _ H1 e (wk_list hp t)⟩
  · refine .inr (h σ H hd w en _ fun v H1 e d => ?_)
    have d' : Dh (hide H1 hd) v (.tuple ds) := d
    cases d' with
    | tup hp t => exact ⟨_, rfl, ⟨_, .inl (.inl (hide_some hp))⟩, k _ H1 e (wk_tup (.inl hp) t)⟩
  · refine .inr (h σ H hd w en _ fun v H1 e d => ?_)
    obtain ⟨a, o, xs, rfl, hp, _, t⟩ := d
    exact ⟨_, rfl, ⟨_, .inl (.inr ⟨o, hide_some hp⟩)⟩, k _ H1 e (wk_tup (.inr ⟨o, hp⟩) t)⟩
def rngD (lo : Int) (n : Nat) : List PyData := (List.range n).map fun (i : Nat) => .int (lo + i)
theorem rngD_len (lo : Int) (n : Nat) : (rngD lo n).length = n := by simp [rngD]
theorem rngD_get {lo : Int} {n i : Nat} (h : i < n) : (rngD lo n)[i]? = some (.int (lo + i)) := by simp [rngD, h]
theorem wk_rng {lo : Int} {n : Nat} {H1 : Hp} {hd : Hid} : Wk (Itr lo n) H1 hd (rngD lo n) := by
  have w := walk_range (lo := lo) (n := n)
  unfold Wk
  rw [rngD_len]
  refine w.mono (fun _ _ => trivial) fun i H x H' hi s y => ?_
  obtain ⟨rfl, rfl⟩ := y
  exact ⟨Ex.refl _, _, rngD_get hi, fun _ _ _ => .int _⟩
theorem wi_rng1 {ta : TA} {n : Int} (h : EvAs ta ρ [iv n]) (h1 : -(2 ^ 62) ≤ n) (h2 : n < 2 ^ 62) : WiE (iRng1 ta) ρ (rngD 0 n.toNat) := fun σ H hd w en R k => h σ H hd w en _ fun vs H1 e d0 => by
  obtain ⟨v, rfl, d⟩ := dv1 d0
  cases d
  exact ⟨n, rfl, h1, h2, k _ H1 e wk_rng⟩
theorem wi_rng2 {ta : TA} {m n : Int} (h : EvAs ta ρ [iv m, iv n]) (h0 : -(2 ^ 62) ≤ m ∧ m < 2 ^ 62) (h1 : -(2 ^ 62) ≤ n ∧ n < 2 ^ 62) : WiE (iRng2 ta) ρ (rngD m (n - m).toNat) := fun σ H hd w en R k => h σ H hd w en _ fun vs H1 e d0 => by
  obtain ⟨v, v2, rfl, d1, d2⟩ := dv2 d0
  cases d1
  cases d2
  exact ⟨m, n, rfl, ⟨h0.1, h0.2, h1.1, h1.2⟩, k _ H1 e wk_rng⟩
def enumD (ds : List PyData) : List PyData := ds.zipIdx.map fun p => .tuple [.int (p.2 : Nat), p.1]
theorem enumD_len (ds : List PyData) : (enumD ds).length = ds.length := by simp [enumD]
theorem enumD_get {ds : List PyData} {i : Nat} {d : PyData} (h : ds[i]? = some d) : (enumD ds)[i]? = some (.tuple [.int (i : Nat), d]) := by simp [enumD, h]
theorem new_tup {H : Hp} {d : Hid} {T : Addr} {xs : List V} (w : Vw d H) (h : H T = none) : hide (upd H T (.tup xs)) d T = some (.tup xs) := hide_of upd_same (w.fresh h)
/-- what a walk of pairs gives -/
theorem wk_pairs {J : It} {n : Nat} {G : Hp → Prop} {f g : Nat → Option V} {H1 : Hp} {hd : Hid} {ds : List PyData} (w : Walk J n G (YPair f g)) (hn : ds.length = n) (hG : ∀ H2 d', Vw d' H2 → Ex (hide H1 hd) (hide H2 d') → G H2)
    (h : ∀ i u v, i < n → f i = some u → g i = some v → ∃ a b, ds[i]? = some (.tuple [a, b]) ∧ Dh (hide H1 hd) u a ∧ Dh (hide H1 hd) v b) : Wk J H1 hd ds := by
  unfold Wk
  rw [hn]
  refine w.mono (fun H2 ⟨d', a, b⟩ => hG H2 d' a b) fun i H x H' hi s y => ?_
  obtain ⟨T, u, v, rfl, hT, rfl, hu, hv⟩ := y
  obtain ⟨a, b, e, da, db⟩ := h i u v hi hu hv
  refine ⟨Ex.new hT, _, e, fun d' w s => ?_⟩
  have k := Sx.of (s.trans (exh (Ex.new (o := .tup [u, v]) hT)))
  exact .tup (new_tup w hT) (.cons (da.mono k) (.cons (db.mono k) .nil))
theorem wi_enum {ta : TA} {ds : List PyData} (h : EvAs ta ρ [.d (.list ds)]) : WiE (iEnum K ta) ρ (enumD ds) := fun σ H hd w en R k => h σ H hd w en _ fun vs H1 e d0 => by
  obtain ⟨v, rfl, d⟩ := dv1 d0
  have d' : Dh (hide H1 hd) v (.list ds) := d
  cases d' with
  | @lst a xs _ hp t =>
    refine ⟨a, xs, rfl, .inl (.inl (hide_some hp)), k _ H1 e ?_⟩
    refine wk_pairs (walk_enum (K := K) (a := a) (xs := xs)) (by rw [enumD_len, ← t.len]) (fun H2 d' _ s => .inl (.inl (hide_some (s _ _ hp)))) fun i u v hi hu hv => ?_
    cases hu
    obtain ⟨d, e, dd⟩ := t.get' hv
    exact ⟨_, _, enumD_get e, .int _, dd⟩
def zipD (ds es : List PyData) : List PyData := List.zipWith (fun d e => .tuple [d, e]) ds es
theorem walk_zipT {a b : Addr} {xs ys : List V} (hl : xs.length = ys.length) : Walk (RZ.ItzT K a b) xs.length (fun H => SqT K H a xs ∧ SqT K H b ys) (YPair (fun i => xs[i]?) (fun i => ys[i]?)) := by
  refine ⟨fun i _ hi q => ?_, fun _ q => ⟨xs, ys, q.1, q.2, .inl (Nat.le_refl _)⟩, fun i H v H' _ q y => ?_⟩
  · exact ⟨xs, ys, xs[i], ys[i]'(by omega), q.1, q.2, by simp [hi], by simp [show i < ys.length by omega]⟩
  · obtain ⟨T, x, z, isT, free, made, left, right⟩ := y
    exact ⟨T, x, z, isT, free, made, left _ q.1, right _ q.2⟩
/-- zip of two tuples of one length -/
theorem wi_zip {ta : TA} {ds es : List PyData} (h : EvAs ta ρ [.d (.tuple ds), .d (.tuple es)]) (hl : ds.length = es.length) : WiE (RZ.iZipA K ta) ρ (zipD ds es) := fun σ H hd w en R k => h σ H hd w en _ fun vs H1 e d0 => by
  obtain ⟨v, v2, rfl, d1, d2⟩ := dv2 d0
  have d1' : Dh (hide H1 hd) v (.tuple ds) := d1
  have d2' : Dh (hide H1 hd) v2 (.tuple es) := d2
  cases d1' with
  | @tup a xs _ hp t =>
    cases d2' with
    | @tup b ys _ hp2 t2 =>
      refine ⟨a, b, xs, ys, rfl, .inr ⟨.inl (.inl (hide_some hp)), .inl (.inl (hide_some hp2)), k _ H1 e ?_⟩⟩
      refine wk_pairs (walk_zipT (K := K) (a := a) (b := b) (xs := xs) (ys := ys) (by rw [t.len, t2.len, hl])) (by simp [zipD, t.len, hl]) (fun H2 d' _ s => ⟨.inl (.inl (hide_some (s _ _ hp))), .inl (.inl (hide_some (s _ _ hp2)))⟩) fun i u v hi hu hv => ?_
      obtain ⟨d, e1, dd⟩ := t.get' hu
      obtain ⟨d2, e2, dd2⟩ := t2.get' hv
      exact ⟨d, d2, by simp [zipD, List.getElem?_zipWith, e1, e2], dd, dd2⟩
theorem sn_for {ds : List PyData} (inv : Nat → Env1) (hw : WiE wi ρ ds) (h0 : Le (inv 0) ρ)
    (hs : ∀ i d, ds[i]? = some d → ∃ js ρ1 ρ2, GE g js (inv i) (.d d) ρ1 ∧ SN t ρ1 ρ2 ∧ Le (inv (i + 1)) ρ2) : SN (tFor wi g t) ρ (inv ds.length) := fun D σ H hd w en q => hw σ H hd w en _ fun J H1 e wk =>
  for_it wk (fun i σ' H' => Ex H1 H' ∧ Envs (hide H' hd) σ' (inv i)) ⟨Ex.refl H1, (en.mono (exh e)).weak h0⟩ (fun i σ' H' _ p => ⟨hd, (w.mono e).mono p.1, exh p.1⟩) (fun i x σ' H2 H3 hi p y => by
    obtain ⟨e3, d, hdi, dd⟩ := y
    have w2 := (w.mono e).mono p.1
    obtain ⟨js, ρ1, ρ2, h1, h2, h3⟩ := hs i d hdi
    exact h1 x σ' H3 hd _ (p.2.mono (exh e3)) (dd hd w2 (exh p.1)) fun σ2 en2 _ => h2 _ σ2 H3 hd (w2.mono e3) en2 fun σ3 H4 e4 en3 => ⟨(p.1.trans e3).trans e4, en3.weak h3⟩) fun σ' H' p => q σ' H' (e.trans p.1) p.2
/-! ### comprehensions -/
/-- [te for g in wi if tt] -/
theorem ee_lc {α : Type} {te : TE} {vs : List Nat} (xs : List α) (enc : α → PyData) (P : α → Bool) (out : α → PyData) (hw : WiE wi ρ (xs.map enc)) (hz : xs.length ≤ 50000)
    (hs : ∀ x ∈ xs, ∃ js ρ1, GE g js (wipeR ρ vs) (.d (enc x)) ρ1 ∧ (∀ j ∈ js, j ∈ vs) ∧ EvB tt ρ1 (P x) ∧ (P x = true → EvE te ρ1 (.d (out x)))) : EvE (tLc wi g tt te vs) ρ (.d (.list ((xs.filter P).map out))) := fun σ H hd w en Q q =>
  hw σ H hd w en _ fun J H1 e wk => fun Dl hD => by
    unfold Wk at wk
    rw [List.length_map] at wk
    have w1 := w.mono e
    have en1 : Envs (hide H1 hd) (wipe σ vs) (wipeR ρ vs) := (en.mono (exh e)).wipe vs
    -- with the new list hidden
    have view : ∀ {H' : Hp} {xs : List V}, Ex H1 H' → H' Dl = some (.lst xs) → Vw (hid1 hd Dl) H' ∧ Ex (hide H1 hd) (hide H' (hid1 hd Dl)) := fun e' n => ⟨(w1.mono e').one n nofun, hide1_new hD e'⟩
    refine lc_it wk (fun i H' => Ex H1 H' ∧ ∃ acc, H' Dl = some (.lst acc) ∧ DhA (hide H' (hid1 hd Dl)) acc (((xs.take i).filter P).map out)) ⟨Ex.new hD, [], upd_same, .nil⟩ (fun i H' _ p => ?_) (fun i x H2 H3 hi p y => ?_) fun H' p => ?_
    · obtain ⟨e1, acc, ha, _⟩ := p
      exact ⟨_, view e1 ha⟩
    · obtain ⟨e1, acc, ha, hacc⟩ := p
      obtain ⟨e3, d, hdi, dd⟩ := y
      rw [List.getElem?_map, List.getElem?_eq_getElem hi] at hdi
      cases hdi
      obtain ⟨w2, s2⟩ := view e1 ha
      have s3 := s2.trans (exh e3)
      obtain ⟨js, ρ1, g1, g2, g3, g4⟩ := hs xs[i] (List.getElem_mem hi)
      have tk : xs.take (i + 1) = xs.take i ++ [xs[i]] := by rw [List.take_add_one, List.getElem?_eq_getElem hi]; rfl
      have la : acc.length ≤ 50000 := by
        rw [hacc.len, List.length_map]
        have := List.length_filter_le P (xs.take i)
        rw [List.length_take] at this
        omega
      refine g1 x _ H3 (hid1 hd Dl) _ (en1.mono s3) (dd _ w2 s2) fun σ2 en2 hwp => ⟨?_, ?_⟩
      · rw [hwp vs g2, wipe_wipe]
      · refine g3 σ2 H3 _ (w2.mono e3) en2 _ fun H4 e4 => ?_
        cases hP : P xs[i] with
        | false =>
          show Ex H1 H4 ∧ _
          refine ⟨(e1.trans e3).trans e4, acc, e4 _ _ (e3 _ _ ha), ?_⟩
          rw [tk, List.filter_append, List.filter_cons, if_neg (by rw [hP]; decide), List.filter_nil, List.append_nil]
          exact hacc.mono (Sx.of (exh (e3.trans e4)))
        | true =>
          show te σ2 H4 _
          refine g4 hP σ2 H4 _ ((w2.mono e3).mono e4) (en2.mono (exh e4)) _ fun yv H5 e5 d5 => ?_
          have eAll := (e3.trans e4).trans e5
          have hl : H5 Dl = some (.lst acc) := eAll _ _ ha
          refine ⟨acc, hl, Nat.lt_of_le_of_lt la (by decide), Ex.mut (e1.trans eAll) hD, acc ++ [yv], upd_same, ?_⟩
          rw [tk, List.filter_append, List.filter_cons, if_pos hP, List.filter_nil, List.map_append, hide1_upd]
          exact (hacc.mono (Sx.of (exh eAll))).app (.cons d5 .nil)
    · obtain ⟨e1, acc, ha, hacc⟩ := p
      rw [List.take_length] at hacc
      exact q _ H' (e.trans e1) (.lst (hide_of ha (w1.fresh hD)) (hacc.mono (Sx.of hide1_le)))
theorem eb_yes : EvB tYes ρ true := fun σ H hd w en Q q => q H (Ex.refl H)
/-- [te for g in wi] -/
theorem ee_lcm {α : Type} {te : TE} {vs : List Nat} (xs : List α) (enc : α → PyData) (out : α → PyData) (hw : WiE wi ρ (xs.map enc)) (hz : xs.length ≤ 50000)
    (hs : ∀ x ∈ xs, ∃ js ρ1, GE g js (wipeR ρ vs) (.d (enc x)) ρ1 ∧ (∀ j ∈ js, j ∈ vs) ∧ EvE te ρ1 (.d (out x))) : EvE (tLc wi g tYes te vs) ρ (.d (.list (xs.map out))) := by
  have h := ee_lc (tt := tYes) (te := te) (g := g) (vs := vs) xs enc (fun _ => true) out hw hz fun x hx => let ⟨js, ρ1, a, b, c⟩ := hs x hx; ⟨js, ρ1, a, b, eb_yes, fun _ => c⟩
  rwa [List.filter_eq_self.mpr fun _ _ => rfl] at h
end
end Pz
namespace Pz
open PySem L2 Evl StX
/-- a new thing made of what was seen -/
theorem ex_new {H : Hp} {d : Hid} {p : Addr} {o : HO} (h : H p = none) : Sx (hide H d) (hide (upd H p o) d) := Sx.of (exh (Ex.new h))
section
variable {K : PySem.W.Frag} {ρ ρ1 ρ2 : Env1} {ta tb tc te tk tv : TE} {t u : TT} {x y z : EV} {a b : Int} {g g1 : TG} {wi wi1 : TI} {tt tt1 : TT}
/-- tuple(xs) -/
def rTupOf (K : PySem.W.Frag) : List V → Hp → VK → Prop := fun xs H Q => ∃ p ys, xs = [.ref p] ∧ ((SqL K H p ys ∧ ∀ l, H l = none → Q (.ref l) (upd H l (.tup ys))) ∨ (SqT K H p ys ∧ Q (.ref p) H))
theorem cr_tupOf {X : Cx} : CallR X (.type "tuple") (rTupOf X.K) := call_tuple_of
theorem ee_tupOf {ds : List PyData} (h : EvE te ρ (.d (.list ds))) : EvE (tCB (rTupOf K) (tCons te tNil)) ρ (.d (.tuple ds)) := ee_cb (ea_cons h ea_nil) fun vs H hd w d0 Q q => by
  obtain ⟨v, rfl, d⟩ := dv1 d0
  have d' : Dh (hide H hd) v (.list ds) := d
  cases d' with
  | lst hp t => exact ⟨_, _, rfl, .inl ⟨.inl (.inl (hide_some hp)), fun l hl => q _ _ (Ex.new hl) (.tup (new_tup w hl) (t.mono (ex_new hl)))⟩⟩
/-- .. whose object is known -/
theorem ee_tupF {ds : List PyData} (h : EvE te ρ (.d (.list ds))) : EvE (tCB rTupF (tCons te tNil)) ρ (.f ds) := ee_cb (ea_cons h ea_nil) fun vs H hd w d0 Q q => by
  obtain ⟨v, rfl, d⟩ := dv1 d0
  have d' : Dh (hide H hd) v (.list ds) := d
  cases d' with
  | lst hp t => exact ⟨_, _, rfl, hide_some hp, fun l o pl hl => q _ _ (Ex.new hl) ⟨l, o, _, rfl, hide_of upd_same (w.fresh hl), pl, t.mono (ex_new hl)⟩⟩
/-- list(xs) -/
def rLstOf (K : PySem.W.Frag) : List V → Hp → VK → Prop := fun xs H Q => ∃ p ys, xs = [.ref p] ∧ (SqL K H p ys ∨ SqT K H p ys) ∧ ∀ l, H l = none → Q (.ref l) (upd H l (.lst ys))
theorem cr_lstOf {X : Cx} : CallR X (.type "list") (rLstOf X.K) := call_list_of
theorem ee_lstOf {ds : List PyData} (h : EvE te ρ (.d (.list ds))) : EvE (tCB (rLstOf K) (tCons te tNil)) ρ (.d (.list ds)) := ee_cb (ea_cons h ea_nil) fun vs H hd w d0 Q q => by
  obtain ⟨v, rfl, d⟩ := dv1 d0
  have d' : Dh (hide H hd) v (.list ds) := d
  cases d' with
  | lst hp t => exact ⟨_, _, rfl, .inl (.inl (.inl (hide_some hp))), fun l hl => q _ _ (Ex.new hl) (.lst (hide_of upd_same (w.fresh hl)) (t.mono (ex_new hl)))⟩
/-- list(range(n)) -/
theorem ee_lstRg {n : Int} (h : EvE te ρ (iv n)) (h0 : 0 ≤ n) (h1 : n ≤ 1000) : EvE (tLstRg (tRg1 te)) ρ (.d (.list (rngD 0 n.toNat))) := fun σ H hd w en Q q => h σ H hd w en _ fun v H1 e d => by
  cases d
  refine ⟨n, rfl, RgOk.of_le (Int.le_refl 0) (by omega) (by omega) h0, fun p hp => q _ _ (e.trans (Ex.new hp)) (.lst (hide_of upd_same ((w.mono e).fresh hp)) ?_)⟩
  have : ∀ (f : Nat → Int) (l : List Nat) (G : Hp), DhA G (l.map fun i => V.int (f i)) (l.map fun i => .int (f i)) := fun f l G => by
    induction l with
    | nil => exact .nil
    | cons a l ih => exact .cons (.int _) ih
  have e0 : (n - 0).toNat = n.toNat := by rw [Int.sub_zero]
  unfold rgV rngD
  rw [e0]
  exact this (fun i => 0 + (i : Int)) _ _
/-- lists, tuples: +, * -/
theorem ee_cat {ds es : List PyData} (ha : EvE ta ρ (.d (.list ds))) (hb : EvE tb ρ (.d (.list es))) (hl : ds.length + es.length ≤ 100000) : EvE (tOp rCat ta tb) ρ (.d (.list (ds ++ es))) := ee_bin ha hb fun u v H hd w d1 d2 Q q => by
  have d1' : Dh (hide H hd) u (.list ds) := d1
  have d2' : Dh (hide H hd) v (.list es) := d2
  cases d1' with
  | lst hp t =>
    cases d2' with
    | lst hp2 t2 => exact ⟨_, _, _, _, rfl, rfl, hide_some hp, hide_some hp2, sz_of (by rw [t.len, t2.len]; exact hl), fun p hn => q _ _ (Ex.new hn) (.lst (hide_of upd_same (w.fresh hn)) ((t.app t2).mono (ex_new hn)))⟩
theorem dha_rep {H : Hp} {xs : List V} {ds : List PyData} (h : DhA H xs ds) : ∀ n : Nat, DhA H (List.replicate n xs).flatten (List.replicate n ds).flatten
  | 0 => .nil
  | n + 1 => by
    rw [List.replicate_succ, List.replicate_succ, List.flatten_cons, List.flatten_cons]; exact h.app (dha_rep h n)
theorem ee_rep {ds : List PyData} (ha : EvE ta ρ (.d (.list ds))) (hb : EvE tb ρ (iv a)) (h0 : 0 ≤ a) (h1 : a ≤ 1000) (hl : ds.length ≤ 100) : EvE (tOp rRep ta tb) ρ (.d (.list (List.replicate a.toNat ds).flatten)) := ee_bin ha hb fun u v H hd w d1 d2 Q q => by
  have d1' : Dh (hide H hd) u (.list ds) := d1
  cases d2
  cases d1' with
  | @lst p xs _ hp t =>
    refine ⟨_, _, _, rfl, rfl, hide_some hp, by omega, by omega, ?_, fun p hn => q _ _ (Ex.new hn) (.lst (hide_of upd_same (w.fresh hn)) ((dha_rep t _).mono (ex_new hn)))⟩
    rw [t.len]
    exact sz_of (Nat.mul_le_mul hl (show a.toNat ≤ 1000 by omega))
theorem ee_catT {ds es : List PyData} (ha : EvE ta ρ (.d (.tuple ds))) (hb : EvE tb ρ (.d (.tuple es))) (hl : ds.length + es.length ≤ 100000) : EvE (tOp (rCatA K) ta tb) ρ (.d (.tuple (ds ++ es))) := ee_bin ha hb fun u v H hd w d1 d2 Q q => by
  have d1' : Dh (hide H hd) u (.tuple ds) := d1
  have d2' : Dh (hide H hd) v (.tuple es) := d2
  cases d1' with
  | @tup p xs _ hp t =>
    cases d2' with
    | @tup p2 ys _ hp2 t2 =>
      refine ⟨_, _, _, _, rfl, rfl, .inl (.inl (hide_some hp)), .inl (.inl (hide_some hp2)), sz_of (by rw [t.len, t2.len]; exact hl), fun e => ?_, fun _ e => ?_, fun _ _ p hn => q _ _ (Ex.new hn) (.tup (new_tup w hn) ((t.app t2).mono (ex_new hn)))⟩
      · refine q _ _ (Ex.refl H) ?_
        subst e
        cases t
        exact .tup hp2 t2
      · refine q _ _ (Ex.refl H) ?_
        subst e
        cases t2
        rw [List.append_nil]
        exact .tup hp t
theorem ee_repT {ds : List PyData} (ha : EvE ta ρ (.d (.tuple ds))) (hb : EvE tb ρ (iv a)) (h0 : 1 ≤ a) (h1 : a ≤ 8) (hl : ds.length ≤ 1000) (hn : ds ≠ []) : EvE (tOp rRepA ta tb) ρ (.d (.tuple (List.replicate a.toNat ds).flatten)) := ee_bin ha hb fun u v H hd w d1 d2 Q q => by
  have d1' : Dh (hide H hd) u (.tuple ds) := d1
  cases d2
  cases d1' with
  | @tup p xs _ hp t =>
    refine ⟨_, _, _, rfl, rfl, hide_some hp, fun e => hn ?_, by rw [t.len]; exact hl, h0, h1, fun p2 H' hw e hp2 => q _ _ e ?_⟩
    · subst e
      cases t
      rfl
    · refine .tup (hide_of hp2 ?_) ((dha_rep t _).mono (Sx.of (exh e)))
      rcases hw with rfl | hw
      · exact hide_not hp
      · exact w.fresh hw
/-- sorted(xs) -/
theorem ee_sortD {ds : List PyData} (h : EvE te ρ (.d (.list ds))) (so : SortOk ds) : EvE (tCB rSortD (tCons te tNil)) ρ (.d (.list (sortD ds))) := ee_cb (ea_cons h ea_nil) fun vs H hd w d0 Q q => by
  obtain ⟨v, rfl, d⟩ := dv1 d0
  exact ⟨v, ds, hide H hd, rfl, fun b o z => hide_some z, d, so, fun p ys hp hy => q _ _ (Ex.new hp) (.lst (hide_of upd_same (w.fresh hp)) (hy.mono (ex_new hp)))⟩
theorem ee_eqD {d e : PyData} (ha : EvE ta ρ (.d d)) (hb : EvE tb ρ (.d e)) (s1 : SeqAt.shaped d = true) (s2 : SeqAt.shaped e = true) : EvE (tOp (rEqD K) ta tb) ρ (bv (PyData.eqv d e)) := ee_bin ha hb fun u v H hd w d1 d2 Q q =>
  ⟨d, e, (Dh.mono (Sx.of fun b o z => hide_some z) d1).dp, (Dh.mono (Sx.of fun b o z => hide_some z) d2).dp, s1, s2, q _ H (Ex.refl H) (.bl _)⟩
theorem ee_neD {d e : PyData} (ha : EvE ta ρ (.d d)) (hb : EvE tb ρ (.d e)) (s1 : SeqAt.shaped d = true) (s2 : SeqAt.shaped e = true) : EvE (tOp (rNeD K) ta tb) ρ (bv (!PyData.eqv d e)) := ee_bin ha hb fun u v H hd w d1 d2 Q q =>
  ⟨d, e, (Dh.mono (Sx.of fun b o z => hide_some z) d1).dp, (Dh.mono (Sx.of fun b o z => hide_some z) d2).dp, s1, s2, q _ H (Ex.refl H) (.bl _)⟩
/-- repr(x) -/
def ShowOk (d : PyData) : Prop := d.showable = true ∧ d.hasDict = false ∧ d.depth ≤ 60 ∧ d.shown.length ≤ sizeLine
theorem ee_repr {ds : List PyData} (h : EvE te ρ (.d (.list ds))) (so : ShowOk (.list ds)) : EvE (tCB (rRepr K) (tCons te tNil)) ρ (.d (.str (PyData.shown (.list ds)))) := ee_cb (ea_cons h ea_nil) fun vs H hd w d0 Q q => by
  obtain ⟨v, rfl, d⟩ := dv1 d0
  have d' : Dh (hide H hd) v (.list ds) := d
  have d2 := (Dh.mono (Sx.of fun b o z => hide_some z) d').dp (K := K)
  cases d' with
  | lst hp t => exact ⟨_, _, rfl, d2, so.1, so.2.1, so.2.2.1, so.2.2.2, q _ H (Ex.refl H) (.str _)⟩
end
end Pz
namespace Pz
open PySem L2 Evl StX
/-! ### dicts with tuple keys, as lists of pairs -/
def look {α : Type} (kvs : List (List Int × α)) (k : List Int) : Option α := (kvs.find? fun p => decide (p.1 = k)).map (·.2)
def put {α : Type} (kvs : List (List Int × α)) (k : List Int) (v : α) : List (List Int × α) := if kvs.any (fun p => decide (p.1 = k)) then kvs.map (fun p => if p.1 = k then (k, v) else p) else kvs ++ [(k, v)]
theorem kI_iff {a b : List Int} : kI a = kI b ↔ a = b := ⟨kI_inj, fun h => by rw [h]⟩
/-- a dict's entries and what they hold -/
def Ent (H : Hp) : List (List Key × V) → List (List Int × PyData) → Prop := Paired fun (e : List Key × V) (q : List Int × PyData) => e.1 = kI q.1 ∧ Dh H e.2 q.2
theorem Ent.look {H : Hp} {k : List Int} : ∀ {es : List (List Key × V)} {kvs : List (List Int × PyData)}, Ent H es kvs →
    (valV es (kI k) = none ∧ look kvs k = none) ∨ ∃ v d, valV es (kI k) = some v ∧ look kvs k = some d ∧ Dh H v d
  | _, _, .nil => Or.inl ⟨rfl, rfl⟩
  | e :: es, q :: kvs, .cons h t => by
    obtain ⟨h1, h2⟩ := h
    have ih := Ent.look (k := k) t
    unfold valV Pz.look at ih ⊢
    rw [List.find?_cons, List.find?_cons]
    by_cases hk : q.1 = k
    · have : e.1 = kI k := by rw [h1, hk]
      rw [decide_eq_true this, decide_eq_true hk]
      exact .inr ⟨_, _, rfl, rfl, h2⟩
    · have : ¬ e.1 = kI k := fun z => hk (kI_inj (h1.symm.trans z))
      rw [decide_eq_false this, decide_eq_false hk]
      exact ih
theorem Ent.any {H : Hp} {k : List Int} : ∀ {es : List (List Key × V)} {kvs : List (List Int × PyData)}, Ent H es kvs → (es.any fun p => decide (p.1 = kI k)) = kvs.any fun p => decide (p.1 = k)
  | _, _, .nil => rfl
  | e :: es, q :: kvs, .cons h t => by
    rw [List.any_cons, List.any_cons, Ent.any t]
    congr 1
    rw [h.1]
    by_cases hk : q.1 = k
    · rw [decide_eq_true hk, decide_eq_true (by rw [hk])]
    · rw [decide_eq_false hk, decide_eq_false fun z => hk (kI_inj z)]
theorem Ent.put {H : Hp} {k : List Int} {v : V} {d : PyData} (hd : Dh H v d) {es : List (List Key × V)} {kvs : List (List Int × PyData)} (h : Ent H es kvs) : Ent H (putK es (kI k) v) (Pz.put kvs k d) := by
  unfold putK Pz.put
  rw [h.any]
  by_cases c : (kvs.any fun p => decide (p.1 = k)) = true
  · rw [if_pos c, if_pos c]
    clear c
    induction h with
    | nil => exact .nil
    | @cons e q es kvs h t ih =>
      refine .cons ?_ ih
      show (if e.1 = kI k then (e.1, v) else e).1 = kI (if q.1 = k then (k, d) else q).1 ∧ Dh H (if e.1 = kI k then (e.1, v) else e).2 (if q.1 = k then (k, d) else q).2
      by_cases hk : q.1 = k
      · rw [if_pos (show e.1 = kI k by rw [h.1, hk]), if_pos hk]
        exact ⟨h.1.trans (by rw [hk]), hd⟩
      · rw [if_neg (fun z => hk (kI_inj (h.1.symm.trans z))), if_neg hk]
        exact h
  · rw [if_neg c, if_neg c]
    exact Paired.snoc h ⟨rfl, hd⟩
theorem Ent.mono {H H' : Hp} (s : Sx H H') {es : List (List Key × V)} {kvs : List (List Int × PyData)} (h : Ent H es kvs) : Ent H' es kvs := paired_imp h fun _ _ z => ⟨z.1, z.2.mono s⟩
theorem Ent.len {H : Hp} {es : List (List Key × V)} {kvs : List (List Int × PyData)} (h : Ent H es kvs) : es.length = kvs.length := Paired.length h
theorem dh_key {H : Hp} {v : V} {k : List Int} (h : Dh H v (keyD k)) : ∃ b, v = .ref b ∧ H b = some (.tup ((kI k).map kV)) := by
  obtain ⟨b, rfl, hb⟩ := dh_ptI h
  exact ⟨b, rfl, by rw [kI_kV]; exact hb⟩
section
variable {K : PySem.W.Frag} {ρ ρ1 ρ2 : Env1} {td ty tx te tk tv : TE} {x : EV} {g g1 : TG} {wi wi1 : TI} {tt tt1 : TT} {vs vs1 : List Nat} {kvs : List (List Int × PyData)} {k : List Int}
theorem ee_inT (hk : EvE ty ρ (.d (keyD k))) (hd : EvE td ρ (.t kvs)) : EvE (tDIn ty td) ρ (bv (look kvs k).isSome) := fun σ H h w en Q q =>
  hk σ H h w en _ fun u H1 e1 d1 => hd σ H1 h (w.mono e1) (en.mono (exh e1)) _ fun v H2 e2 d2 => by
    obtain ⟨b, rfl, hb⟩ := dh_key d1
    obtain ⟨a, es, rfl, ha, ent⟩ := d2
    refine ⟨a, valV es (kI k), rfl, .inr ⟨es, kI k, b, .inl (hide_some ha), rfl, e2 _ _ (hide_some hb), rfl⟩, ?_⟩
    have hl : (valV es (kI k)).isSome = (look kvs k).isSome := by
      rcases Ent.look (k := k) ent with ⟨h1, h2⟩ | ⟨v, d, h1, h2, _⟩ <;> rw [h1, h2] <;> rfl
    rw [hl]
    exact q _ H2 (e1.trans e2) (.bl _)
theorem ee_get2T {d : PyData} (hd : EvE td ρ (.t kvs)) (hk : EvE ty ρ (.d (keyD k))) (hx : EvE tx ρ (.d d)) : EvE (tDGet2 td ty tx) ρ (.d ((look kvs k).getD d)) := fun σ H h w en Q q =>
  hd σ H h w en _ fun u H1 e1 d1 => by
    obtain ⟨a, es, rfl, ha, ent⟩ := d1
    refine ⟨a, rfl, .inr ⟨es, .inl (hide_some ha)⟩, hk σ H1 h (w.mono e1) (en.mono (exh e1)) _ fun v H2 e2 d2 => hx σ H2 h (w.mono (e1.trans e2)) (en.mono (exh (e1.trans e2))) _ fun y H3 e3 d3 => ?_⟩
    obtain ⟨b, rfl, hb⟩ := dh_key d2
    have e13 := e2.trans e3
    refine ⟨valV es (kI k), .inr ⟨es, kI k, b, .inl (e13 _ _ (hide_some ha)), rfl, e3 _ _ (hide_some hb), rfl⟩, ?_⟩
    rcases Ent.look (k := k) (Ent.mono (Sx.of (exh e13)) ent) with ⟨h1, h2⟩ | ⟨v, d, h1, h2, h3⟩
    · rw [h1]
      rw [h2] at q
      exact q _ H3 (e1.trans e13) d3
    · rw [h1]
      rw [h2] at q
      exact q _ H3 (e1.trans e13) h3
/-- an iterator of which is known that it goes on while all stands -/
def Wk1 (J : It) (H1 : Hp) (hd : Hid) (ds : List PyData) : Prop :=
  Walk J ds.length (fun H2 => Ex H1 H2) fun i H x H' => Ex H H' ∧ ∃ d, ds[i]? = some d ∧ ∀ d', Vw d' H → Ex (hide H1 hd) (hide H d') → Dh (hide H' d') x d
theorem Wk.one {J : It} {H1 : Hp} {hd : Hid} {ds : List PyData} (w : Vw hd H1) (h : Wk J H1 hd ds) : Wk1 J H1 hd ds := Walk.mono h (fun H2 e => ⟨hd, w.mono e, exh e⟩) fun _ _ _ _ _ _ y => y
/-- a dict comprehension's turns -/
theorem dc_run {α : Type} {J : It} {H1 : Hp} {hd : Hid} {σ : L2.St} (xs : List α) (enc : α → PyData) (key : α → List Int) (val : α → PyData) (wk : Wk1 J H1 hd (xs.map enc)) (w1 : Vw hd H1) (en1 : Envs (hide H1 hd) (wipe σ vs) ρ) (hz : xs.length ≤ 50000)
    (hs : ∀ x ∈ xs, ∃ js ρ1, GE g js ρ (.d (enc x)) ρ1 ∧ (∀ j ∈ js, j ∈ vs) ∧ EvE tk ρ1 (.d (keyD (key x))) ∧ EvE tv ρ1 (.d (val x)))
    {Dl : Addr} {Q : VK} (hD : H1 Dl = none) (q : ∀ H', Ex H1 H' → DicT (hide H' hd) (.ref Dl) (xs.foldl (fun acc x => put acc (key x) (val x)) []) → Q (.ref Dl) H') :
    ∃ W : Nat → Nat → Hp → Prop, (∃ m, W 0 m (upd H1 Dl (.dT []))) ∧ ∀ i m H, W i m H →
      (J.stop i H ∧ Q (.ref Dl) H) ∨ (J.go i H ∧ ∃ Nx : Hp → Prop, (∀ H', Nx H' → ∃ m', m' < m ∧ W (i + 1) m' H') ∧ ∀ x H', J.yld i H x H' → g x (wipe σ vs) H' fun σ2 H2 => wipe σ2 vs = wipe σ vs ∧
        tk σ2 H2 fun y H4 => tv σ2 H4 fun z H5 => ∃ kvs k b, y = .ref b ∧ H5 b = some (.tup (k.map kV)) ∧ H5 Dl = some (.dT kvs) ∧ kvs.length < sizeLine ∧ Nx (upd H5 Dl (.dT (putK kvs k z)))) := by
  let acc : Nat → List (List Int × PyData) := fun i => (xs.take i).foldl (fun acc x => put acc (key x) (val x)) []
  have accl : ∀ i, (acc i).length ≤ i := by
    intro i
    have : ∀ (l : List α) (a : List (List Int × PyData)), (l.foldl (fun acc x => put acc (key x) (val x)) a).length ≤ a.length + l.length := by
      intro l
      induction l with
      | nil => intro a; exact Nat.le_refl _
      | cons x l ih =>
        intro a
        refine Nat.le_trans (ih (put a (key x) (val x))) ?_
        have : (put a (key x) (val x)).length ≤ a.length + 1 := by
          unfold put
          split <;> simp
        rw [List.length_cons]
        omega
    have h := this (xs.take i) []
    rw [List.length_take, List.length_nil] at h
    show ((xs.take i).foldl _ []).length ≤ i
    omega
  let Pv : Nat → Hp → Prop := fun i H' => Ex H1 H' ∧ ∃ es, H' Dl = some (.dT es) ∧ Ent (hide H' (hid1 hd Dl)) es (acc i)
  unfold Wk1 at wk
  rw [List.length_map] at wk
  refine ⟨fun i m H => m = xs.length - i ∧ i ≤ xs.length ∧ Pv i H, ⟨_, rfl, Nat.zero_le _, Ex.new hD, [], upd_same, .nil⟩, ?_⟩
  rintro i m H ⟨rfl, hi, e1, es, ha, ent⟩
  have w2 : Vw (hid1 hd Dl) H := (w1.mono e1).one ha nofun
  have s2 : Ex (hide H1 hd) (hide H (hid1 hd Dl)) := hide1_new hD e1
  by_cases lt : i < xs.length
  · refine .inr ⟨wk.goes i H lt e1, Pv (i + 1), fun H' p => ⟨_, by omega, rfl, lt, p⟩, fun v H' y => ?_⟩
    obtain ⟨e3, d, hdi, dd⟩ := wk.yields i H v H' lt e1 y
    rw [List.getElem?_map, List.getElem?_eq_getElem lt] at hdi
    cases hdi
    obtain ⟨js, ρ1, g1, g2, g3, g4⟩ := hs xs[i] (List.getElem_mem lt)
    have tk1 : xs.take (i + 1) = xs.take i ++ [xs[i]] := by rw [List.take_add_one, List.getElem?_eq_getElem lt]; rfl
    refine g1 v _ H' (hid1 hd Dl) _ (en1.mono (s2.trans (exh e3))) (dd _ w2 s2) fun σ2 en2 hwp => ⟨?_, ?_⟩
    · rw [hwp vs g2, wipe_wipe]
    · refine g3 σ2 H' _ (w2.mono e3) en2 _ fun yv H4 e4 d4 => g4 σ2 H4 _ ((w2.mono e3).mono e4) (en2.mono (exh e4)) _ fun zv H5 e5 d5 => ?_
      obtain ⟨b, rfl, hb⟩ := dh_key d4
      have eAll := (e3.trans e4).trans e5
      refine ⟨es, kI (key xs[i]), b, rfl, e5 _ _ (hide_some hb), eAll _ _ ha, ?_, Ex.mut (e1.trans eAll) hD, _, upd_same, ?_⟩
      · rw [ent.len]
        have := accl i
        rw [sizeLine_eq]
        omega
      · rw [hide1_upd]
        have : acc (i + 1) = put (acc i) (key xs[i]) (val xs[i]) := by
          show (xs.take (i + 1)).foldl _ [] = _
          rw [tk1, List.foldl_append]
          rfl
        rw [this]
        exact Ent.put d5 (ent.mono (Sx.of (exh eAll)))
  · have : i = xs.length := by omega
    subst this
    refine .inl ⟨wk.stops H e1, q H e1 ⟨Dl, es, rfl, hide_of ha (w1.fresh hD), ?_⟩⟩
    have : acc xs.length = xs.foldl (fun acc x => put acc (key x) (val x)) [] := by
      show (xs.take xs.length).foldl _ [] = _
      rw [List.take_length]
    rw [← this]
    exact ent.mono (Sx.of hide1_le)
theorem ee_dcT {α : Type} (xs : List α) (enc : α → PyData) (key : α → List Int) (val : α → PyData) (hw : WiE wi ρ (xs.map enc)) (hz : xs.length ≤ 50000)
    (hs : ∀ x ∈ xs, ∃ js ρ1, GE g js (wipeR ρ vs) (.d (enc x)) ρ1 ∧ (∀ j ∈ js, j ∈ vs) ∧ EvE tk ρ1 (.d (keyD (key x))) ∧ EvE tv ρ1 (.d (val x))) :
    EvE (tDcT wi g tk tv vs) ρ (.t (xs.foldl (fun acc x => put acc (key x) (val x)) [])) := fun σ H hd w en Q q =>
  hw σ H hd w en _ fun J H1 e wk => fun Dl hD =>
    dc_run (Q := Q) xs enc key val (wk.one (w.mono e)) (w.mono e) ((en.mono (exh e)).wipe vs) hz hs hD fun H' e' dt => q _ H' (e.trans e') dt
/-- [te for g in wi for g1 in wi1] -/
theorem ee_lc2 {α β : Type} (xs : List α) (enc : α → PyData) (ys : α → List β) (enc1 : β → PyData) (out : α → β → PyData) (hw : WiE wi ρ (xs.map enc)) (hz : (xs.flatMap fun x => (ys x).map (out x)).length ≤ 50000)
    (hs : ∀ x ∈ xs, ∃ js ρ1, GE g js (wipeR ρ vs) (.d (enc x)) ρ1 ∧ (∀ j ∈ js, j ∈ vs) ∧ WiE wi1 ρ1 ((ys x).map enc1) ∧
      ∀ y ∈ ys x, ∃ js1 ρ2, GE g1 js1 (wipeR ρ1 vs1) (.d (enc1 y)) ρ2 ∧ (∀ j ∈ js1, j ∈ vs1) ∧ EvE te ρ2 (.d (out x y))) :
    EvE (tLc2 wi g tYes wi1 g1 tYes te vs vs1) ρ (.d (.list (xs.flatMap fun x => (ys x).map (out x)))) := fun σ H hd w en Q q =>
  hw σ H hd w en _ fun J H1 e wk => fun Dl hD => by
    have w1 := w.mono e
    have en1 : Envs (hide H1 hd) (wipe σ vs) (wipeR ρ vs) := (en.mono (exh e)).wipe vs
    have wk := wk.one w1
    unfold Wk1 at wk
    rw [List.length_map] at wk
    let f : α → List PyData := fun x => (ys x).map (out x)
    have hlen : ∀ i, ((xs.take i).flatMap f).length ≤ (xs.flatMap f).length := fun i => by
      conv => rhs; rw [← List.take_append_drop i xs, List.flatMap_append, List.length_append]
      omega
    let Pv : Nat → Hp → Prop := fun i H' => Ex H1 H' ∧ ∃ acc, H' Dl = some (.lst acc) ∧ DhA (hide H' (hid1 hd Dl)) acc ((xs.take i).flatMap f)
    refine ⟨fun i m H => m = xs.length - i ∧ i ≤ xs.length ∧ Pv i H, ⟨_, rfl, Nat.zero_le _, Ex.new hD, [], upd_same, .nil⟩, ?_⟩
    rintro i m H ⟨rfl, hi, e1, acc, ha, hacc⟩
    have w2 : Vw (hid1 hd Dl) H := (w1.mono e1).one ha nofun
    have s2 : Ex (hide H1 hd) (hide H (hid1 hd Dl)) := hide1_new hD e1
    by_cases lt : i < xs.length
    · refine .inr ⟨wk.goes i H lt e1, Pv (i + 1), fun H' p => ⟨_, by omega, rfl, lt, p⟩, fun v H' y => ?_⟩
      obtain ⟨e3, d, hdi, dd⟩ := wk.yields i H v H' lt e1 y
      rw [List.getElem?_map, List.getElem?_eq_getElem lt] at hdi
      cases hdi
      obtain ⟨js, ρ1, h1, h2, hw1, hs1⟩ := hs xs[i] (List.getElem_mem lt)
      have tk1 : (xs.take (i + 1)).flatMap f = (xs.take i).flatMap f ++ f xs[i] := by
        rw [List.take_add_one, List.getElem?_eq_getElem lt, List.flatMap_append]
        simp
      refine h1 v _ H' (hid1 hd Dl) _ (en1.mono (s2.trans (exh e3))) (dd _ w2 s2) fun σ2 en2 hwp => ⟨?_, ?_⟩
      · rw [hwp vs h2, wipe_wipe]
      · show wi1 σ2 H' _
        refine hw1 σ2 H' _ (w2.mono e3) en2 _ fun J1 H4 e4 wk1 => ?_
        have w4 := (w2.mono e3).mono e4
        unfold Wk at wk1
        rw [List.length_map] at wk1
        have e34 := e3.trans e4
        have l4 : H4 Dl = some (.lst acc) := e34 _ _ ha
        -- the inner loop: what it has put into the list so far
        let Pv1 : Nat → Hp → Prop := fun j H' => Ex (hide H4 (hid1 hd Dl)) (hide H' (hid1 hd Dl)) ∧ Vw (hid1 hd Dl) H' ∧ Ex H1 H' ∧ ∃ acc, H' Dl = some (.lst acc) ∧ DhA (hide H' (hid1 hd Dl)) acc ((xs.take i).flatMap f ++ ((ys xs[i]).take j).map (out xs[i]))
        refine ⟨fun j m H => m = (ys xs[i]).length - j ∧ j ≤ (ys xs[i]).length ∧ Pv1 j H, ⟨_, rfl, Nat.zero_le _, Ex.refl _, w4, e1.trans e34, acc, l4, ?_⟩, ?_⟩
        · rw [List.take_zero, List.map_nil, List.append_nil]
          exact hacc.mono (Sx.of (exh e34))
        · rintro j m5 H5 ⟨rfl, hj, x5, w5, e5, acc5, l5, hacc5⟩
          by_cases lj : j < (ys xs[i]).length
          · refine .inr ⟨wk1.goes j H5 lj ⟨_, w5, x5⟩, Pv1 (j + 1), fun H' p => ⟨_, by omega, rfl, lj, p⟩, fun u H6 y6 => ?_⟩
            obtain ⟨e6, d6, hd6, dd6⟩ := wk1.yields j H5 u H6 lj ⟨_, w5, x5⟩ y6
            rw [List.getElem?_map, List.getElem?_eq_getElem lj] at hd6
            cases hd6
            obtain ⟨js1, ρ2, k1, k2, k3⟩ := hs1 (ys xs[i])[j] (List.getElem_mem lj)
            have x6 := x5.trans (exh e6)
            refine k1 u _ H6 (hid1 hd Dl) _ (((en2.mono (exh e4)).mono x6).wipe vs1) (dd6 _ w5 x5) fun σ3 en3 hwp3 => ⟨?_, ?_⟩
            · rw [hwp3 vs1 k2, wipe_wipe]
            · show te σ3 H6 _
              refine k3 σ3 H6 _ (w5.mono e6) en3 _ fun yv H7 e7 d7 => ?_
              have e67 := e6.trans e7
              have tk2 : (ys xs[i]).take (j + 1) = (ys xs[i]).take j ++ [(ys xs[i])[j]] := by rw [List.take_add_one, List.getElem?_eq_getElem lj]; rfl
              refine ⟨acc5, e67 _ _ l5, ?_, ?_, ?_, Ex.mut (e5.trans e67) hD, acc5 ++ [yv], upd_same, ?_⟩
              · rw [hacc5.len, List.length_append, List.length_map, List.length_take]
                have h6 := hlen (i + 1)
                rw [tk1, List.length_append] at h6
                have h7 : (f xs[i]).length = (ys xs[i]).length := by simp [f]
                have h8 : (xs.flatMap f).length ≤ 50000 := hz
                rw [sizeLine_eq]
                omega
              · rw [hide1_upd]
                exact x6.trans (exh e7)
              · exact fun b hb => by
                  by_cases hbl : b = Dl
                  · subst hbl
                    exact ⟨_, upd_same, nofun⟩
                  · obtain ⟨o, z, n⟩ := (w5.mono e67) b hb
                    exact ⟨o, by rw [upd_ne hbl]; exact z, n⟩
              · rw [hide1_upd, tk2, List.map_append, ← List.append_assoc]
                exact (hacc5.mono (Sx.of (exh e67))).app (.cons d7 .nil)
          · have ej : j = (ys xs[i]).length := by omega
            subst ej
            refine .inl ⟨wk1.stops H5 ⟨_, w5, x5⟩, e5, acc5, l5, ?_⟩
            rw [tk1]
            rw [List.take_length] at hacc5
            exact hacc5
    · have : i = xs.length := by omega
      subst this
      refine .inl ⟨wk.stops H e1, q _ H (e.trans e1) (.lst (hide_of ha (w1.fresh hD)) ?_)⟩
      rw [List.take_length] at hacc
      exact hacc.mono (Sx.of hide1_le)
end
end Pz
namespace Pz
open PySem PySem.Spec L2 PyProof.Rows
/-! ### enumerate(tuple) -/
theorem mk_enum1 {v : Value} {o : Obj} {H : Heap → Prop} (B : Begins v o H) :
    Meets (Builtin.«enumerate.__new__» ⟨[.type "enumerate", v], []⟩) (fun _ R s => H s.heap ∧
      R (.ok (.ret (.ref (s.heap.push o).objs.size))) { s with heap := (s.heap.push o).push { cls := .type "enumerate", data := .fields #[.none, .bool false, .ref s.heap.objs.size, rawInt 0, .none, .none] } }) := .of_wp fun prog w A R s h => by
  obtain ⟨hp, g, d, tk, os⟩ := s; obtain ⟨hb, h⟩ := h
  have hsub := sub_enumerate
  have go : ∀ {A' : Around} {E Q : Value → Shared → Prop}, Q (.ref hp.objs.size) ⟨hp.push o, g, d, tk, os⟩ → wpAny (model prog w) A' (pyIter v) Q E ⟨hp, g, d, tk, os⟩ := fun q => B.iter prog w _ _ ⟨hp, g, d, tk, os⟩ _ hb q
  wp_walk using go
  refine wpAny_stack_any fun st => wpAny_pure ?_; split
  · rename_i c _ _ _ _ _
    cases (c == Value.type "enumerate") <;> wp_walk using go
    all_goals exact ⟨_, rfl, h⟩
  · wp_walk using go
    exact ⟨_, rfl, h⟩
/-- the tuple at a, each item in a new pair -/
def IeT (K : PySem.W.Frag) (a : Addr) : It where
  go := fun i H => ∃ (xs : List V) (x : V), SqT K H a xs ∧ xs[i]? = some x
  yld := fun i H v H' => ∃ T x, v = .ref T ∧ H T = none ∧ H' = upd H T (.tup [.int (i : Nat), x]) ∧ ∀ xs, SqT K H a xs → xs[i]? = some x
  stop := fun i H => ∃ xs : List V, SqT K H a xs ∧ xs.length = i
section
variable {w : World} {prog : Program} {E : Value → Shared → Prop} {A : Around} {s : Shared}
theorem next_enumT {e it t : Addr} {i : Nat} {items : Array Value} {x old : Value} {Q : Option Value → Shared → Prop} (he : IsEnum s.heap e it i old) (hit : s.heap.IsTupleIter it t i) (hl : s.heap.IsTuple t items) (hx : items[i]? = some x) (hne : e ≠ it) (hte : t ≠ it) (het : e ≠ t) (hh : A.handled = none)
    (hQ : ∀ h' tk, IsEnumOut h' e it ((i : Int) + 1) x s.heap.objs.size → h'.IsTupleIter it t (i + 1) → h'.get? s.heap.objs.size = some { cls := .type "tuple", data := .seq #[.int i tk, x] } →
      (∀ b o, b ≠ e → b ≠ it → s.heap.get? b = some o → h'.get? b = some o) → Q (some (.ref s.heap.objs.size)) { s with heap := h', toks := tk + 1 }) : wpAny (model prog w) A (pyNext (.ref e)) Q E s := by
  have lt : i < items.size := (Array.getElem?_eq_some_iff.mp hx).1
  refine wpAny_pyNext_enum_itemD (Draws.tuple (A := A.in1) hh it t hte items) he ⟨hit, hl⟩ lt hne (by simp [hne, het]) fun y h' tk hy ho st hT _ hk => ?_
  have hy : items[i]? = some y := hy
  rw [hx] at hy
  cases hy
  exact hQ h' tk ho st.1 hT hk
theorem done_enumT {e it t : Addr} {items : Array Value} {old : Value} {Q : Option Value → Shared → Prop} (hh : A.handled = none) (hte : t ≠ it) (he : IsEnum s.heap e it (items.size : Nat) old) (hit : s.heap.IsTupleIter it t items.size) (hl : s.heap.IsTuple t items)
    (hQ : ∀ h', Heap.ExtBut it s.heap h' → Q none { s with heap := h' }) : wpAny (model prog w) A (pyNext (.ref e)) Q E s :=
  wpAny_pyNext_enum_endD (Draws.tuple (A := A.in1) hh it t hte items) he ⟨hit, hl⟩ hQ
end
theorem turn_enumT {P : Program} {w : World} {K : PySem.W.Frag} {elts : List Expr} {kk : Nat} {tpos : Pos} (a e it : Addr) (hne : e ≠ it) (hae : e ≠ a) (hai : a ≠ it) :
    Turn P w K (.Tuple elts kk tpos) (IeT K a) [e, it] e (fun i h => (∃ old, IsEnum h e it ((i : Nat) : Int) old) ∧ h.IsTupleIter it a i) where
  mem := by simp
  obj := fun i h st b hb => by
    obtain ⟨⟨old, he⟩, ⟨o, ho, hc, hd⟩⟩ := st
    obtain z | z := List.mem_cons.mp hb
    · subst z; exact ⟨_, he, fun v q => nomatch q⟩
    · obtain rfl : b = it := List.mem_singleton.mp z
      exact ⟨o, ho, fun v q => by rw [hd] at q; cases q⟩
  keep := fun i h h' st k => by
    obtain ⟨⟨old, he⟩, hi⟩ := st
    exact ⟨⟨old, k e (by simp) _ he⟩, hi.at fun o q => k it (by simp) o q⟩
  item := by
    rintro X rfl rfl rfl calm i pins s σ H E I fpo ⟨⟨old, he⟩, hit⟩ ⟨xs, x, hq, hx⟩
    obtain ⟨its, rv, p, _⟩ := I.tuple hq
    obtain ⟨u, hu, ru⟩ := rv.get hx; have lte : e < s.heap.objs.size := Heap.lt_size he
    have lti : it < s.heap.objs.size := by
      obtain ⟨_, z, _⟩ := hit
      exact Heap.lt_size z
    refine next_enumT he hit p (x := u) (by simpa using hu) hne hai hae (I.ok.hd calm) fun h1 tk out it1 tup kp => ?_
    refine ⟨_, rfl, wpAny_letOwnedTupleGo_enum (s := { s with heap := h1, toks := tk + 1 }) out fun h2 he2 sb => ?_⟩
    have tup2 : h2.get? s.heap.objs.size = some { cls := .type "tuple", data := .seq #[.int i tk, u] } := (sb.2 _ (Nat.ne_of_gt lte)).trans tup
    have ok2 : ObjOk X.prog X.w (upd H s.heap.objs.size (.tup [.int (i : Nat), x])) h2 s.heap.objs.size (.tup [.int (i : Nat), x]) := by
      refine ⟨?_, [.int i tk, u], .cons ⟨_, rfl⟩ (.cons ru .nil), _, tup2, rfl, _, rfl⟩
      show 2 ≤ sizeLine
      decide
    have J := I.turnedNew (t' := tk + 1) (ch := [e, it]) (fun b ob nb z => (sb.2 b fun y => nb (by simp [y])).trans (kp b ob (fun y => nb (by simp [y])) (fun y => nb (by simp [y])) z)) fpo (Nat.le_refl _) ok2
    refine ⟨.ref s.heap.objs.size, _, J, rfl, ⟨_, x, rfl, I.hok.fresh (Nat.le_refl _), rfl, fun ys hy => by rw [I.tuple_inj hy hq]; exact hx⟩, ⟨⟨u, ?_⟩, it1.at fun o q => (sb.2 it hne.symm).trans q⟩, fun b hb => ?_⟩
    · rw [show ((i + 1 : Nat) : Int) = (i : Int) + 1 by omega]
      exact he2
    · have lt : b < s.heap.objs.size := by
        obtain z | z := List.mem_cons.mp hb
        · rw [z]; exact lte
        · rw [List.mem_singleton.mp z]; exact lti
      rw [upd_ne (Nat.ne_of_lt lt)]
      exact (fpo b hb).1
  done := by
    rintro X rfl rfl rfl calm i pins s σ H E I fpo ⟨⟨old, he⟩, hit⟩ ⟨xs, hq, rfl⟩
    obtain ⟨its, rv, p, _⟩ := I.tuple hq
    have hl : its.toArray.size = xs.length := by rw [List.size_toArray, ← rv.length]
    obtain ⟨f0, f1, f2, f3, f4, f5⟩ := fpo it (by simp)
    exact done_enumT (I.ok.hd calm) hai (by rw [hl]; exact he) (by rw [hl]; exact hit) p fun h1 eb => ⟨rfl, I.turned (t' := s.toks) (fun b o hb q => eb b o hb q) f0 f1 f3 f4 f5⟩
  self := by
    rintro A i s Q E ⟨⟨old, isE⟩, -⟩ h
    exact wpAny_pyIter_enum isE h
def iEnumT (K : PySem.W.Frag) (ta : TA) : TI := fun σ H R => ta σ H fun vs H1 => ∃ a xs, vs = [.ref a] ∧ H1 a = some (.tup xs) ∧ R (IeT K a) H1
section
variable {X : Cx}
theorem pi_enumT {e : Expr} {ta : TA} {p pos tpos : Pos} {elts : List Expr} {kk : Nat} (hg : Gl X "enumerate") (hm : X.mg "enumerate" = none) (ha : PA X [e] ta) (hs : starEach [e] X.env = [(false, eval e X.env)] := by rfl) :
    PI X (.Tuple elts kk tpos) (.Call (.Name "enumerate" p) [e] [] pos) (iEnumT X.K ta) := by
  constructor
  intro pins s σ H R I h
  refine Call_ (ld_blt I hg hm boot_enumerate (PyProof.Rows.callWith_type1 (thn (ha.run pos pins s σ H _ I h) fun us s1 ⟨vs, H1, I1, rel, a, xs, e1, hp, q⟩ => ?_) hs rfl))
  subst e1
  rw [Vals.ref1 rel]
  obtain ⟨its, rv, pl, _⟩ := I1.tuple (.inl (.inl hp))
  have la : a < s1.heap.objs.size := I1.hok.lt hp
  refine callType_new F.called_enumerate (by decide) (F.typeCall_enumerate_1 _) (F.newCall_enumerate_1 _) (fun obj => F.args_object_init_2 obj _) F.entry_enumerate_new (mk_enum1 (begins_tuple a its.toArray)) ⟨pl, ?_⟩
  have hz : (s1.heap.push { cls := .type "tuple_iterator", data := .fields #[.ref a, .int 0 0] }).objs.size = s1.heap.objs.size + 1 := Heap.size_push ..
  show _ ∧ _
  rw [hz]
  generalize hh : (s1.heap.push { cls := .type "tuple_iterator", data := .fields #[.ref a, .int 0 0] }).push { cls := .type "enumerate", data := .fields #[.none, .bool false, .ref s1.heap.objs.size, rawInt 0, .none, .none] } = h2
  have he : IsEnum h2 (s1.heap.objs.size + 1) s1.heap.objs.size 0 .none := by
    rw [← hh]
    have z := Heap.get?_push_size (s1.heap.push { cls := .type "tuple_iterator", data := .fields #[.ref a, .int 0 0] }) (o := { cls := .type "enumerate", data := .fields #[.none, .bool false, .ref s1.heap.objs.size, rawInt 0, .none, .none] }) rfl
    rw [hz] at z
    exact z
  have hit : h2.IsTupleIter s1.heap.objs.size a 0 := ⟨_, by rw [← hh]; exact Heap.get?_push_of_some _ (Heap.get?_push_size _ rfl), rfl, rfl⟩
  have hk : ∀ b o, s1.heap.get? b = some o → h2.get? b = some o := fun b o x => by rw [← hh]; exact Heap.get?_push_of_some _ (Heap.get?_push_of_some _ x)
  refine ⟨⟨_, he, rfl⟩, wpAny_pyIter_enum he ?_⟩
  have I2 : Inv X pins σ H1 { s1 with heap := h2 } := I1.kept (t' := s1.toks) hk
  refine ⟨s1.heap.objs.size + 1, [s1.heap.objs.size + 1, s1.heap.objs.size], _, _, H1, rfl, I2, turn_enumT a (s1.heap.objs.size + 1) s1.heap.objs.size (Nat.succ_ne_self _) (Nat.ne_of_gt (Nat.lt_succ_of_lt la)) (Nat.ne_of_lt la), ⟨⟨.none, he⟩, hit⟩, fun b hb => ?_, q⟩
  have above : b ≥ s1.heap.objs.size := (List.mem_cons.mp hb).elim (fun z => z ▸ Nat.le_succ _) fun z => List.mem_singleton.mp z ▸ Nat.le_refl _
  exact I1.fpOk above (I1.hok.fresh above)
end
theorem walk_enumT {K : PySem.W.Frag} {a : Addr} {xs : List V} : Walk (IeT K a) xs.length (fun H => SqT K H a xs) (YPair (fun i => some (.int (i : Nat))) (fun i => xs[i]?)) := by
  refine ⟨fun i _ hi q => ⟨xs, xs[i], q, by simp [hi]⟩, fun _ q => ⟨xs, q, rfl⟩, fun i H v H' _ q y => ?_⟩
  obtain ⟨T, x, isT, free, made, item⟩ := y
  exact ⟨T, _, x, isT, free, made, rfl, item _ q⟩
theorem wi_enumT {K : PySem.W.Frag} {ρ : Env1} {ta : TA} {ds : List PyData} (h : EvAs ta ρ [.d (.tuple ds)]) : WiE (iEnumT K ta) ρ (enumD ds) := fun σ H hd w en R k => h σ H hd w en _ fun vs H1 e d0 => by
  obtain ⟨v, rfl, d⟩ := dv1 d0
  have d' : Dh (hide H1 hd) v (.tuple ds) := d
  cases d' with
  | @tup a xs _ hp t =>
    refine ⟨a, xs, rfl, hide_some hp, k _ H1 e ?_⟩
    refine wk_pairs (walk_enumT (K := K) (a := a) (xs := xs)) (by rw [enumD_len, ← t.len]) (fun H2 d' _ s => .inl (.inl (hide_some (s _ _ hp)))) fun i u v hi hu hv => ?_
    cases hu
    obtain ⟨d, e, dd⟩ := t.get' hv
    exact ⟨_, _, enumD_get e, .int _, dd⟩
end Pz
namespace Pz
open PySem L2 Evl StX
/-! ### the text and what its top leaves -/
def topP (i : Nat) : Stmt := PySem.Challenge.pw_primezeros_k05_whole_promises.main.body.getD i (.Pass ⟨0, 0, 0, 0⟩)
structure Txt (K : PySem.W.Frag) (mg : Str → Option Value) : Prop where
  m_len : mg "len" = none
  m_sum : mg "sum" = none
  m_max : mg "max" = none
  m_min : mg "min" = none
  m_int : mg "int" = none
  m_bool : mg "bool" = none
  m_sorted : mg "sorted" = none
  m_list : mg "list" = none
  m_tuple : mg "tuple" = none
  m_dict : mg "dict" = none
  m_repr : mg "repr" = none
  m_isinstance : mg "isinstance" = none
  m_all : mg "all" = none
  m_range : mg "range" = none
  m_enumerate : mg "enumerate" = none
  m_zip : mg "zip" = none
  c_MOST_UNKNOWNS : ∃ t, mg "MOST_UNKNOWNS" = some (.int 4 t)
  c_MOST_POINTS : ∃ t, mg "MOST_POINTS" = some (.int 700 t)
  c_MOST_TERMS : ∃ t, mg "MOST_TERMS" = some (.int 700 t)
  c_MOST_POWER : ∃ t, mg "MOST_POWER" = some (.int 30 t)
  c_MOST_POLYS : ∃ t, mg "MOST_POLYS" = some (.int 4 t)
  primes : ∃ a, mg "PRIMES" = some (.ref a) ∧ ∀ H, SqT K H a [.int 2, .int 3, .int 5, .int 7]
section
variable {X : Cx}
theorem pe_globI {x : Str} {n : Int} {pos : Pos} (hg : Gl X x) (hm : ∃ t, X.mg x = some (.int n t)) (hd : (x == ("__debug__" : Str)) = false := by decide) : PE X (.Name x pos) (tC (.int n)) := hm.elim fun t h => pe_glob hg h ⟨t, rfl⟩ hd
/-- PRIMES -/
def tPrimes (K : PySem.W.Frag) : TE := fun _ H Q => ∀ a, (∀ H', SqT K H' a [.int 2, .int 3, .int 5, .int 7]) → Q (.ref a) H
theorem pe_globR {x : Str} {pos : Pos} (hg : Gl X x) (hm : ∃ a, X.mg x = some (.ref a) ∧ ∀ H, SqT X.K H a [.int 2, .int 3, .int 5, .int 7]) (hd : (x == ("__debug__" : Str)) = false := by decide) : PE X (.Name x pos) (tPrimes X.K) := by
  obtain ⟨a, h, s⟩ := hm
  exact ⟨fun pins st σ H Q I q => (pe_glob (v := .ref a) hg h rfl hd).run pins st σ H Q I (q a s)⟩
end
theorem ty_mk {T : String} : RelV (.ty T) (.type T) := rfl
section
variable {K : PySem.W.Frag} {ρ : Env1} {ta tb te : TE} {x : EV}
theorem ee_prime {p : Int} (h : EvE te ρ (iv p)) (hp : p = 2 ∨ p = 3 ∨ p = 5 ∨ p = 7) : EvE (tOp (rIn K false) te (tPrimes K)) ρ (bv true) := fun σ H hd w en Q q => h σ H hd w en _ fun v H1 e d => by
  cases d
  refine fun a ha => ⟨a, _, rfl, .inr (ha _), rfl, rfl, ?_⟩
  have : inV (.int p) [.int 2, .int 3, .int 5, .int 7] = true := by
    rcases hp with rfl | rfl | rfl | rfl <;> decide
  rw [this]
  exact q _ H1 e (.bl true)
theorem eb_notN {x : EV} {c : Bool} (h : EvE te ρ x) (hc : (x = .d .none ∧ c = false) ∨ ((∃ y, x = .d y) ∧ x ≠ .d .none ∧ c = true)) : EvB (tB (tNotN te)) ρ c := fun σ H hd w en Q q => h σ H hd w en _ fun v H1 e d => by
  rcases hc with ⟨rfl, rfl⟩ | ⟨⟨y, rfl⟩, hn, rfl⟩
  · cases d
    exact ⟨false, rfl, q H1 e⟩
  · refine ⟨true, ?_, q H1 e⟩
    have : v ≠ .non := by
      rintro rfl
      cases d
      exact hn rfl
    rw [decide_eq_false this]
    rfl
theorem ee_int1 {n : Int} (h : EvE te ρ (iv n)) : EvE (tCB (fun xs H Q => (∃ i, xs = [V.int i] ∧ Q (.int i) H) ∨ ∃ k, xs = [V.bl k] ∧ Q (.int (if k then 1 else 0)) H) (tCons te tNil)) ρ (iv n) := ee_cb (ea_cons h ea_nil) fun vs H hd w d0 Q q => by
  obtain ⟨v, rfl, d⟩ := dv1 d0
  cases d
  exact .inl ⟨n, rfl, q _ H (Ex.refl H) (.int _)⟩
theorem ee_intB {b : Bool} (h : EvE te ρ (bv b)) : EvE (tCB (fun xs H Q => (∃ i, xs = [V.int i] ∧ Q (.int i) H) ∨ ∃ k, xs = [V.bl k] ∧ Q (.int (if k then 1 else 0)) H) (tCons te tNil)) ρ (iv (if b then 1 else 0)) := ee_cb (ea_cons h ea_nil) fun vs H hd w d0 Q q => by
  obtain ⟨v, rfl, d⟩ := dv1 d0
  cases d
  exact .inr ⟨b, rfl, q _ H (Ex.refl H) (.int _)⟩
end
/-! ### rules at a frame whose written part is K -/
section
variable {X : Cx} {K : PySem.W.Frag}
theorem pi_seqK (hK : X.K = K) {tg it : Expr} {te : TE} (h : PE X it te) : PI X tg it (iOr (iList K te) (iTup K te)) := hK ▸ pi_seq h
theorem ix_seqK (hK : X.K = K) : IxR X (rIx K) := hK ▸ ix_seq
theorem pa_starK (hK : X.K = K) {e : Expr} {es : List Expr} {p : Pos} {te : TE} {t : TA} (he : PE X e te) (hr : PA X es t) (hs : starEach (.Starred e p :: es) X.env = (true, eval e X.env) :: starEach es X.env := by rfl) : PA X (.Starred e p :: es) (tStar K te t) := hK ▸ pa_star he hr hs
theorem cr_lenK (hK : X.K = K) : CallR X (.builtin "len") (rLenS K) := hK ▸ call_len_seq
theorem cr_maxK (hK : X.K = K) (hc : X.calm = true) : CallR X (.builtin "max") (rMax K) := hK ▸ cr_max hc
theorem cr_allK (hK : X.K = K) (hc : X.calm = true) : CallR X (.builtin "all") (rAll K) := hK ▸ cr_all hc
theorem cr_tupOfK (hK : X.K = K) : CallR X (.type "tuple") (rTupOf K) := hK ▸ cr_tupOf
theorem cr_lstOfK (hK : X.K = K) : CallR X (.type "list") (rLstOf K) := hK ▸ cr_lstOf
theorem cr_reprK (hK : X.K = K) (hG : X.A.guards = some []) (room : X.A.units + 64 < cLine) : CallR X (.builtin "repr") (rRepr K) := hK ▸ call_reprD hG room
theorem pi_enumK (hK : X.K = K) {e : Expr} {ta : TA} {p pos tpos : Pos} {elts : List Expr} {kk : Nat} (hg : Gl X "enumerate") (hm : X.mg "enumerate" = none) (ha : PA X [e] ta) (hs : starEach [e] X.env = [(false, eval e X.env)] := by rfl) :
    PI X (.Tuple elts kk tpos) (.Call (.Name "enumerate" p) [e] [] pos) (iEnum K ta) := hK ▸ pi_enum hg hm ha hs
theorem pi_enumTK (hK : X.K = K) {e : Expr} {ta : TA} {p pos tpos : Pos} {elts : List Expr} {kk : Nat} (hg : Gl X "enumerate") (hm : X.mg "enumerate" = none) (ha : PA X [e] ta) (hs : starEach [e] X.env = [(false, eval e X.env)] := by rfl) :
    PI X (.Tuple elts kk tpos) (.Call (.Name "enumerate" p) [e] [] pos) (iEnumT K ta) := hK ▸ pi_enumT hg hm ha hs
theorem pg_tupK (hK : X.K = K) {es : List Expr} {k : Nat} {t : TGs} {n : Nat} {pos : Pos} (hc : X.calm = true) (h : PGs X es t) (hn : (assignEach es X.env).length = n := by rfl) (hst : (assignEach es X.env).findIdx? (·.1) = none := by rfl) : PG X (.Tuple es k pos) (gTup K n t) := hK ▸ pg_tup hc h hn hst
theorem op_catAK (hK : X.K = K) : OpR X (binaryOp .Add) (rCatA K) := hK ▸ op_catA
theorem op_inK (hK : X.K = K) : OpR X (compareOp .In) (rIn K false) := hK ▸ op_in_seq
theorem op_eqDK (hK : X.K = K) (hu : X.A.units + 64 < cLine) : OpR X (compareOp .Eq) (rEqD K) := hK ▸ op_eqD hu
theorem op_neDK (hK : X.K = K) (hu : X.A.units + 64 < cLine) : OpR X (compareOp .NotEq) (rNeD K) := hK ▸ op_neD hu
theorem sl_listK (hK : X.K = K) : SlR X (rSlL K) := hK ▸ sl_list
theorem sl_tupK (hK : X.K = K) : SlR X (rSlT K) := hK ▸ sl_tup
end
/-! ### the data -/
abbrev fD (p n : Nat) : PyData := .tuple [.int (p : Int), .int (n : Int)]
abbrev tD (t : List Int × Int) : PyData := .tuple [keyD t.1, .int t.2]
abbrev pD (q : List (List Int × Int)) : PyData := .tuple (q.map tD)
abbrev sD (qs : List (List (List Int × Int))) : PyData := .tuple (qs.map pD)
end Pz
namespace Pz
open PySem PySem.Spec PyProof.Rows L2 Evl StX
def startR (N : List Str) (xs : List EV) : Env1 := xs.map some ++ List.replicate (N.length - xs.length) none
theorem envs_start {H : Hp} {N : List Str} {vs : List V} {xs : List EV} (h : DvA H vs xs) : Envs H (L2.start N vs) (startR N xs) := by
  unfold L2.start startR
  have hl := Paired.length h
  rw [hl]
  generalize N.length - xs.length = n
  clear hl
  induction h with
  | nil =>
    induction n with
    | zero => exact .nil
    | succ n ih => exact .cons (fun x e => nomatch e) ih
  | cons h t ih => exact .cons (fun x e => by cases e; exact ⟨_, rfl, h⟩) ih
section
variable {w : World} {P : Program} {mg : Str → Option Value} {K : PySem.W.Frag} {base : Heap}
/-- a def by the reading of its body -/
theorem ok_sr {x : Str} {st : Stmt} {N ps : List Str} {k : Nat} {R : List EV → EV → Prop} (D : DefAt K mg x st ps) (Sc : FnScope N ps (defScope st)) (len : ∀ xs r, R xs r → xs.length = ps.length)
    (body : ∀ (f : Addr) (cd : Value) (A : Around) (out : List Env) (s : Shared) (H : Hp), A.guards = some [] → Room k (A.deeper (envOfC x (defScope st) s.heap.objs.size f cd)) →
      ∃ t, PSs (cxOf CX0 P w K mg base N x (defScope st) f cd A out s H E0).nox (defBody st) t ∧ ∀ xs r, R xs r → SR t (startR N xs) r) : Ok P w K mg base x (k + 1) (spD R) := by
  refine ok_of D Sc (fun vs H Q h => ?_) fun f cd A out s H vs Q hG hr h => ?_
  · obtain ⟨d, xs, r, _, dv, hR, _⟩ := h
    rw [Paired.length dv]
    exact len xs r hR
  · obtain ⟨d, xs, r, w, dv, hR, q⟩ := h
    obtain ⟨t, pb, rd⟩ := body f cd A out s H hG hr
    exact ⟨t, pb, rd xs r hR _ _ H d w (envs_start dv) q⟩
/-! ### short ways -/
theorem rngD_of {lo : Int} {n i : Nat} {d : PyData} (h : (rngD lo n)[i]? = some d) : i < n ∧ d = .int (lo + i) := by
  have lt : i < n := by
    have := (List.getElem?_eq_some_iff.mp h).1
    rwa [rngD_len] at this
  rw [rngD_get lt] at h
  cases h
  exact ⟨lt, rfl⟩
theorem map_of {α : Type} {xs : List α} {enc : α → PyData} {i : Nat} {d : PyData} (h : (xs.map enc)[i]? = some d) : ∃ x, xs[i]? = some x ∧ d = enc x := by
  rw [List.getElem?_map] at h
  cases e : xs[i]? with
  | none => (rw [e] at h; cases h)
  | some x => rw [e] at h; cases h; exact ⟨x, rfl, rfl⟩
section
variable {ρ : Env1} {te ta tb : TE} {t : TS} {wi : TI} {g : TG}
theorem sn_rng1 {n j : Nat} (inv : Nat → Env1) (hw : EvE te ρ (iv (n : Int))) (hn : n ≤ 1000000) (h0 : Le (inv 0) ρ) (hs : ∀ i, i < n → ∃ ρ2, SN t ((inv i).set j (some (iv (i : Int)))) ρ2 ∧ Le (inv (i + 1)) ρ2) :
    SN (tFor (iRng1 (tCons te tNil)) (gName j) t) ρ (inv n) := by
  have h := sn_for (t := t) (g := gName j) (ds := rngD 0 (n : Int).toNat) inv (wi_rng1 (ea_cons hw ea_nil) (by omega) (by omega)) h0 fun i d hd => by
    obtain ⟨lt, rfl⟩ := rngD_of hd
    obtain ⟨ρ2, h1, h2⟩ := hs i (by omega)
    rw [Int.zero_add]
    exact ⟨_, _, ρ2, ge_name, h1, h2⟩
  rw [rngD_len, Int.toNat_natCast] at h
  exact h
theorem sn_rng2 {m n j : Nat} (inv : Nat → Env1) (h1 : EvE ta ρ (iv (m : Int))) (h2 : EvE tb ρ (iv (n : Int))) (hmn : m ≤ n) (hn : n ≤ 1000000) (h0 : Le (inv 0) ρ) (hs : ∀ i, i < n - m → ∃ ρ2, SN t ((inv i).set j (some (iv (((m + i : Nat)) : Int)))) ρ2 ∧ Le (inv (i + 1)) ρ2) :
    SN (tFor (iRng2 (tCons ta (tCons tb tNil))) (gName j) t) ρ (inv (n - m)) := by
  have e : ((n : Int) - (m : Int)).toNat = n - m := by omega
  have h := sn_for (t := t) (g := gName j) (ds := rngD (m : Int) ((n : Int) - (m : Int)).toNat) inv (wi_rng2 (ea_cons h1 (ea_cons h2 ea_nil)) (by omega) (by omega)) h0 fun i d hd => by
    obtain ⟨lt, rfl⟩ := rngD_of hd
    obtain ⟨ρ2, h1, h2⟩ := hs i (by omega)
    rw [show ((m : Int) + (i : Int)) = ((m + i : Nat) : Int) by omega]
    exact ⟨_, _, ρ2, ge_name, h1, h2⟩
  rw [rngD_len, e] at h
  exact h
theorem sn_forM {α : Type} (xs : List α) (enc : α → PyData) (inv : Nat → Env1) (hw : WiE wi ρ (xs.map enc)) (h0 : Le (inv 0) ρ)
    (hs : ∀ i x, xs[i]? = some x → ∃ js ρ1 ρ2, GE g js (inv i) (.d (enc x)) ρ1 ∧ SN t ρ1 ρ2 ∧ Le (inv (i + 1)) ρ2) : SN (tFor wi g t) ρ (inv xs.length) := by
  have h := sn_for (t := t) (g := g) (ds := xs.map enc) inv hw h0 fun i d hd => by
    obtain ⟨x, hx, rfl⟩ := map_of hd
    exact hs i x hx
  rw [List.length_map] at h
  exact h
theorem ea_is {ta : TA} {xs ys : List EV} (h : EvAs ta ρ xs) (e : xs = ys) : EvAs ta ρ ys := e ▸ h
/-- field[0], field[1] -/
theorem ee_p {p n : Nat} (h : EvE te ρ (.d (fD p n))) : EvE (tOp (rIx K) te (tC (.int 0))) ρ (iv (p : Int)) := ee_ix (n := 0) h (sv_t _) ee_int rfl
theorem ee_n {p n : Nat} (h : EvE te ρ (.d (fD p n))) : EvE (tOp (rIx K) te (tC (.int 1))) ρ (iv (n : Int)) := ee_ix (n := 1) h (sv_t _) ee_int rfl
theorem ee_k {t : List Int × Int} (h : EvE te ρ (.d (tD t))) : EvE (tOp (rIx K) te (tC (.int 0))) ρ (.d (keyD t.1)) := ee_ix (n := 0) h (sv_t _) ee_int rfl
theorem ee_r {t : List Int × Int} (h : EvE te ρ (.d (tD t))) : EvE (tOp (rIx K) te (tC (.int 1))) ρ (iv t.2) := ee_ix (n := 1) h (sv_t _) ee_int rfl
theorem ee_len' {ds : List PyData} {x : EV} {n : Nat} (h : EvE te ρ x) (s : SeqV x ds) (hn : ds.length = n) : EvE (tCB (rLenS K) (tCons te tNil)) ρ (iv (n : Int)) := hn ▸ ee_len h s
end
/-! ### fields, polynomials, as they may be -/
structure Fld (p n : Nat) : Prop where
  pr : Pr p
  n1 : 1 ≤ n
  n4 : n ≤ 4
  few : p ^ n ≤ 700
theorem Fld.le7 {p n : Nat} (h : Fld p n) : 2 ≤ p ∧ p ≤ 7 := by rcases h.pr with h | h | h | h <;> omega
structure KeyOk (n : Nat) (k : List Int) : Prop where
  len : k.length = n
  lo : ∀ e ∈ k, 0 ≤ e ∧ e ≤ 30
structure TermOk (p n : Nat) (t : List Int × Int) : Prop where
  key : KeyOk n t.1
  one : 1 ≤ t.2
  less : t.2 ≤ (p : Int) - 1
/-- a poly of the document -/
structure PolyOk (p n : Nat) (q : List (List Int × Int)) : Prop where
  terms : ∀ t ∈ q, TermOk p n t
  up : ∀ i a b, q[i]? = some a → q[i + 1]? = some b → a.1 < b.1
  few : q.length ≤ 700
abbrev s_is_whole : Stmt := topP 8
theorem sc_is_whole : FnScope ["value", "least", "most"] ["value", "least", "most"] (defScope s_is_whole) := ⟨rfl, rfl, rfl, by decide +kernel, rfl, by decide +kernel, by decide +kernel⟩
def R_is_whole : List EV → EV → Prop := fun xs r => ∃ v a b : Int, xs = [iv v, iv a, iv b] ∧ r = bv (decide (a ≤ v) && decide (v ≤ b))
theorem ok_is_whole (T : Txt K mg) (D : DefAt K mg "is_whole" s_is_whole ["value", "least", "most"]) : Ok P w K mg base "is_whole" 1 (spD R_is_whole) := by
  refine ok_sr D sc_is_whole (fun xs r h => by obtain ⟨v, a, b, rfl, _⟩ := h; rfl) fun f cd A out s H hG hr => ?_
  refine ⟨_, pss_one (ps_ret (pe_and (pe_callB call_isD (by rfl) T.m_isinstance boot_isinstance (pa_cons (pv 0) (pa_cons (pe_bltn (by rfl) T.m_int boot_int ty_mk) pa_nil))) (pe_and (pe_not (pe_callB call_isD (by rfl) T.m_isinstance boot_isinstance (pa_cons (pv 0) (pa_cons (pe_bltn (by rfl) T.m_bool boot_bool ty_mk) pa_nil)))) (pe_one (pe_chain op_le op_le (pv 1) (pv 0) (pv 2)))))), ?_⟩
  rintro xs r ⟨v, a, b, rfl, rfl⟩
  exact sr_one (sr_ret (ee_is (ee_andV (ee_isInt (ee_var rfl)) fun _ => ee_andV (ee_notV (ee_isBool (ee_var rfl))) fun _ => ee_chain (ee_var rfl) (ee_var rfl) (ee_var rfl)) rfl))
theorem ee_wholeT {te t1 t2 : TE} {ρ : Env1} {v a b : Int} (h : EvE te ρ (iv v)) (h1 : EvE t1 ρ (iv a)) (h2 : EvE t2 ρ (iv b)) (l1 : a ≤ v) (l2 : v ≤ b) : EvE (tCal (spD R_is_whole) (tCons te (tCons t1 (tCons t2 tNil)))) ρ (bv true) :=
  ee_cal (ea_cons h (ea_cons h1 (ea_cons h2 ea_nil))) ⟨v, a, b, rfl, by rw [decide_eq_true l1, decide_eq_true l2]; rfl⟩
abbrev s_is_prime : Stmt := topP 9
theorem sc_is_prime : FnScope ["value"] ["value"] (defScope s_is_prime) := ⟨rfl, rfl, rfl, by decide +kernel, rfl, by decide +kernel, by decide +kernel⟩
def R_is_prime : List EV → EV → Prop := fun xs r => ∃ p : Nat, xs = [iv (p : Int)] ∧ Pr p ∧ r = bv true
theorem ok_is_prime (T : Txt K mg) (D : DefAt K mg "is_prime" s_is_prime ["value"]) (O_is_whole : Ok P w K mg base "is_whole" 1 (spD R_is_whole)) : Ok P w K mg base "is_prime" 2 (spD R_is_prime) := by
  refine ok_sr D sc_is_prime (fun xs r h => by obtain ⟨v, rfl, _⟩ := h; rfl) fun f cd A out s H hG hr => ?_
  refine ⟨_, pss_one (ps_ret (pe_and (pe_ok O_is_whole hG (hr.mono (by decide)) (by rfl) (pa_cons (pv 0) (pa_cons (pe_int) (pa_cons (pe_int) pa_nil)))) (pe_one (pe_cmpR (op_inK (K := K) rfl) (pv 0) (pe_globR (by rfl) T.primes) (by rfl))))), ?_⟩
  rintro xs r ⟨p, rfl, hp, rfl⟩
  refine sr_one (sr_ret (ee_is (ee_andV (ee_wholeT (ee_var rfl) ee_int ee_int ?_ ?_) fun _ => ee_prime (ee_var rfl) ?_) rfl))
  · rcases hp with h | h | h | h <;> subst h <;> decide
  · rcases hp with h | h | h | h <;> subst h <;> decide
  · rcases hp with h | h | h | h <;> subst h <;> decide
abbrev s_size_of : Stmt := topP 10
theorem sc_size_of : FnScope ["field", "found", "turn"] ["field"] (defScope s_size_of) := ⟨rfl, rfl, rfl, by decide +kernel, rfl, by decide +kernel, by decide +kernel⟩
def R_size_of : List EV → EV → Prop := fun xs r => ∃ p n : Nat, xs = [.d (fD p n)] ∧ Fld p n ∧ r = iv ((p : Int) ^ n)
theorem pow_small {p n i : Nat} (h : Fld p n) (hi : i ≤ n) : (p : Int) ^ i ≤ 700 := by
  have h1 := h.few
  have h2 : p ^ i ≤ p ^ n := Nat.pow_le_pow_right (by have := h.le7; omega) hi
  have : ((p ^ i : Nat) : Int) ≤ 700 := by omega
  rwa [Int.natCast_pow] at this
theorem cmul_small {a b : Int} (h : 0 ≤ b) (h2 : b ≤ 1000000) : CMul a b := .inr ⟨by omega, by omega⟩
theorem ok_size_of (T : Txt K mg) (D : DefAt K mg "size_of" s_size_of ["field"]) : Ok P w K mg base "size_of" 1 (spD R_size_of) := by
  refine ok_sr D sc_size_of (fun xs r h => by obtain ⟨p, n, rfl, _⟩ := h; rfl) fun f cd A out s H hG hr => ?_
  refine ⟨_, pss_cons (ps_set (i := 1) sc_size_of.nd rfl (Or.inl rfl) (pe_int)) (pss_cons (ps_for PassesOwn.never rfl (pi_range1 (by rfl) T.m_range (pa_cons (pe_ix (ix_seqK (K := K) rfl) (pv 0) (pe_int) (fun _ _ => rfl)) pa_nil)) (pg_name (i := 2) sc_size_of.nd rfl (Or.inl rfl)) (pss_one (ps_set (i := 1) sc_size_of.nd rfl (Or.inl rfl) (pe_op op_mul (pv 1) (pe_ix (ix_seqK (K := K) rfl) (pv 0) (pe_int) (fun _ _ => rfl)))))) (pss_one (ps_ret (pv 1)))), ?_⟩
  rintro xs r ⟨p, n, rfl, hF, rfl⟩
  have h7 := hF.le7
  have h4 := hF.n4
  refine sr_seq (sn_asg ee_int) (sr_seq (sn_rng1 (fun i => [some (.d (fD p n)), some (iv ((p : Int) ^ i)), none]) (ee_n (ee_var rfl)) (by omega) (.cons (.inr rfl) (.cons (.inr rfl) (.cons (.inl rfl) .nil))) fun i hi => ?_) (sr_one (sr_ret (ee_var rfl))))
  refine ⟨_, sn_one (sn_asg (ee_mul (ee_var rfl) (ee_p (ee_var rfl)) (cmul_small (by omega) (by omega)))), (.cons (.inr rfl) (.cons (.inr rfl) (.cons (.inl rfl) .nil)))⟩
abbrev s_need_field : Stmt := topP 11
theorem sc_need_field : FnScope ["thing"] ["thing"] (defScope s_need_field) := ⟨rfl, rfl, rfl, by decide +kernel, rfl, by decide +kernel, by decide +kernel⟩
def R_need_field : List EV → EV → Prop := fun xs r => ∃ p n : Nat, xs = [.d (fD p n)] ∧ Fld p n ∧ r = .d (fD p n)
theorem ok_need_field (T : Txt K mg) (D : DefAt K mg "need_field" s_need_field ["thing"]) (O_is_whole : Ok P w K mg base "is_whole" 1 (spD R_is_whole)) (O_is_prime : Ok P w K mg base "is_prime" 2 (spD R_is_prime)) (O_size_of : Ok P w K mg base "size_of" 1 (spD R_size_of)) : Ok P w K mg base "need_field" 3 (spD R_need_field) := by
  refine ok_sr D sc_need_field (fun xs r h => by obtain ⟨p, n, rfl, _⟩ := h; rfl) fun f cd A out s H hG hr => ?_
  refine ⟨_, pss_cons (ps_if (PW.pt (pw_or (pt_not (pt_val (pe_callB call_isD (by rfl) T.m_isinstance boot_isinstance (pa_cons (pv 0) (pa_cons (pe_bltn (by rfl) T.m_tuple boot_tuple ty_mk) pa_nil))))) (pw_or1 (pt_cmpR op_ne (pe_callB (cr_lenK (K := K) rfl) (by rfl) T.m_len boot_len (pa_cons (pv 0) pa_nil)) (pe_int) (nomark _))))) (pss_one (ps_never)) (pss_nil)) (pss_cons (ps_if (pt_not (pt_val (pe_ok O_is_prime hG (hr.mono (by decide)) (by rfl) (pa_cons (pe_ix (ix_seqK (K := K) rfl) (pv 0) (pe_int) (fun _ _ => rfl)) pa_nil)))) (pss_one (ps_never)) (pss_nil)) (pss_cons (ps_if (pt_not (pt_val (pe_ok O_is_whole hG (hr.mono (by decide)) (by rfl) (pa_cons (pe_ix (ix_seqK (K := K) rfl) (pv 0) (pe_int) (fun _ _ => rfl)) (pa_cons (pe_int) (pa_cons (pe_globI (by rfl) T.c_MOST_UNKNOWNS) pa_nil)))))) (pss_one (ps_never)) (pss_nil)) (pss_cons (ps_if (pt_cmpR op_gt (pe_ok O_size_of hG (hr.mono (by decide)) (by rfl) (pa_cons (pv 0) pa_nil)) (pe_globI (by rfl) T.c_MOST_POINTS) (nomark _)) (pss_one (ps_never)) (pss_nil)) (pss_one (ps_ret (pv 0)))))), ?_⟩
  rintro xs r ⟨p, n, rfl, hF, rfl⟩
  have h1 := hF.n1
  have h4 := hF.n4
  have hs := pow_small hF (Nat.le_refl n)
  refine sr_seq (sn_pass (eb_is (eb_or (eb_not (eb_B (ee_isTup (ee_var rfl)))) fun _ => eb_test (ee_neI (ee_len (ee_var rfl) (sv_t _)) ee_int)) rfl)) ?_
  refine sr_seq (sn_pass (eb_is (eb_not (eb_B (ee_cal (ea_cons (ee_p (ee_var rfl)) ea_nil) ⟨p, rfl, hF.pr, rfl⟩))) rfl)) ?_
  refine sr_seq (sn_pass (eb_is (eb_not (eb_B (ee_wholeT (ee_n (ee_var rfl)) ee_int ee_int (by omega) (by omega)))) rfl)) ?_
  refine sr_seq (sn_pass (eb_is (eb_test (ee_gt (ee_cal (ea_cons (ee_var rfl) ea_nil) ⟨p, n, rfl, hF, rfl⟩) ee_int)) (decide_eq_false (by omega)))) ?_
  exact sr_one (sr_ret (ee_var rfl))
abbrev s_points_of : Stmt := topP 12
theorem sc_points_of : FnScope ["lists", "found", "items", "row", "item"] ["lists"] (defScope s_points_of) := ⟨rfl, rfl, rfl, by decide +kernel, rfl, by decide +kernel, by decide +kernel⟩
def R_points_of : List EV → EV → Prop := fun xs r => ∃ p n : Nat, xs = [.d (.list ((List.range n).map fun _ => .list (rngD 0 p)))] ∧ Fld p n ∧ r = .d (.list ((pts p n).map keyD))
theorem pts_few {p n i : Nat} (h : Fld p n) (hi : i ≤ n) : (pts p i).length ≤ 700 := by
  rw [pts_length]
  have := pow_small h hi
  have e : ((p ^ i : Nat) : Int) = (p : Int) ^ i := Int.natCast_pow _ _
  omega
theorem ok_points_of (T : Txt K mg) (D : DefAt K mg "points_of" s_points_of ["lists"]) : Ok P w K mg base "points_of" 1 (spD R_points_of) := by
  refine ok_sr D sc_points_of (fun xs r h => by obtain ⟨p, n, rfl, _⟩ := h; rfl) fun f cd A out s H hG hr => ?_
  refine ⟨_, pss_cons (ps_set (i := 1) sc_points_of.nd rfl (Or.inl rfl) (pe_lst (pa_cons (pe_tup pa_nil) pa_nil))) (pss_cons (ps_for PassesOwn.never rfl (pi_seqK (K := K) rfl (pv 0)) (pg_name (i := 2) sc_points_of.nd rfl (Or.inr rfl)) (pss_one (ps_setLc2 (i := 1) (own := [("row", 3), ("item", 4)]) (vs1 := [4]) rfl sc_points_of.nd rfl rfl (sw_true rfl rfl rfl (by decide +kernel)) (pi_seqK (K := K) rfl (pv 1)) (blkOk_by (N := ["lists", "found", "items", "row", "item"]) (sc := defScope s_points_of) (by decide +kernel)) (by decide) (fun _ _ _ _ _ => (pg_name (i := 3) sc_points_of.nd rfl (Or.inl rfl))) (fun _ _ _ _ _ => pts_nil) (fun _ _ _ _ _ => (pi_seqK (K := K) rfl (pv 2))) (fun _ _ _ _ _ => (pg_name (i := 4) sc_points_of.nd rfl (Or.inl rfl))) (fun _ _ _ _ _ => pts_nil) (fun _ _ _ _ _ => (pe_tup (pa_starK (K := K) rfl (pv 3) (pa_cons (pv 4) pa_nil))))))) (pss_one (ps_ret (pv 1)))), ?_⟩
  rintro xs r ⟨p, n, rfl, hF, rfl⟩
  refine sr_seq (sn_asg (ee_lst (ds := [.tuple []]) (ea_cons (ee_tup (ds := []) ea_nil (by decide)) ea_nil) (by decide))) (sr_seq (sn_forM (List.range n) (fun _ => .list (rngD 0 p))
    (fun i => [some (.d (.list ((List.range n).map fun _ => .list (rngD 0 p)))), some (.d (.list ((pts p i).map keyD))), none, none, none]) (wi_seq (ee_var rfl) (sv_l _)) (.cons (.inr rfl) (.cons (.inr rfl) (.cons (.inl rfl) (.cons (.inl rfl) (.cons (.inl rfl) .nil))))) fun i x hx => ?_) (sr_one (sr_ret (ee_is (ee_var rfl) ?_))))
  · refine ⟨_, _, _, ge_name, sn_one (sn_asg (ee_lc2 (pts p i) keyD (fun _ => List.range p) (fun j => .int (0 + (j : Nat))) (fun row j => keyD (row ++ [((j : Nat) : Int)])) (wi_seq (ee_var rfl) (sv_l _)) ?_ fun row hrow => ⟨_, _, ge_name, by decide, wi_seq (ee_var rfl) (sv_l _), fun j _ => ⟨_, _, ge_name, by decide, ?_⟩⟩)), ?_⟩
    · have lt : i < n := by
        have := (List.getElem?_eq_some_iff.mp hx).1
        rwa [List.length_range] at this
      have : ((pts p i).flatMap fun row => (List.range p).map fun (j : Nat) => keyD (row ++ [(j : Int)])).length = (pts p (i + 1)).length := by
        simp [pts, List.length_flatMap]
      rw [this]
      exact Nat.le_trans (pts_few hF lt) (by decide)
    · refine ee_tup (ds := (row ++ [((j : Nat) : Int)]).map .int) (ea_is (ea_star (ee_var rfl) (sv_t _) (ea_cons (ee_var rfl) ea_nil)) (by simp)) ?_
      have h1 := (mem_pts.mp hrow).1
      have h4 := hF.n4
      have lt : i < n := by
        have := (List.getElem?_eq_some_iff.mp hx).1
        rwa [List.length_range] at this
      simp
      omega
    · refine .cons (.inr rfl) (.cons (.inr ?_) (.cons (.inl rfl) (.cons (.inl rfl) (.cons (.inl rfl) .nil))))
      simp [pts, List.map_flatMap, Function.comp_def]
  · simp
abbrev s_allpoints : Stmt := topP 13
theorem sc_allpoints : FnScope ["field", "turn"] ["field"] (defScope s_allpoints) := ⟨rfl, rfl, rfl, by decide +kernel, rfl, by decide +kernel, by decide +kernel⟩
def R_all_points : List EV → EV → Prop := fun xs r => ∃ p n : Nat, xs = [.d (fD p n)] ∧ Fld p n ∧ r = .d (.list ((pts p n).map keyD))
theorem rngD_map (n : Nat) : rngD 0 (n : Int).toNat = (List.range n).map fun (i : Nat) => .int (0 + (i : Int)) := by rw [Int.toNat_natCast]; rfl
theorem ok_all_points (T : Txt K mg) (D : DefAt K mg "all_points" s_allpoints ["field"]) (O_points_of : Ok P w K mg base "points_of" 1 (spD R_points_of)) : Ok P w K mg base "all_points" 2 (spD R_all_points) := by
  refine ok_sr D sc_allpoints (fun xs r h => by obtain ⟨p, n, rfl, _⟩ := h; rfl) fun f cd A out s H hG hr => ?_
  refine ⟨_, pss_one (ps_ret (pe_ok O_points_of hG (hr.mono (by decide)) (by rfl) (pa_cons (pe_lc (own := [("turn", 1)]) (tt := tYes) rfl sc_allpoints.nd (pi_range1 (by rfl) T.m_range (pa_cons (pe_ix (ix_seqK (K := K) rfl) (pv 0) (pe_int) (fun _ _ => rfl)) pa_nil)) (blkOk_by (N := ["field", "turn"]) (sc := defScope s_allpoints) (by decide +kernel)) (fun _ _ _ _ _ => (pg_name (i := 1) sc_allpoints.nd rfl (Or.inl rfl))) (fun _ _ _ _ _ => pts_nil) (fun _ _ _ _ _ => (pe_listRg rfl (by rfl) T.m_list (prg_1 (by rfl) T.m_range (pe_ix (ix_seqK (K := K) rfl) (pv 0) (pe_int) (fun _ _ => rfl)))))) pa_nil))), ?_⟩
  rintro xs r ⟨p, n, rfl, hF, rfl⟩
  have h7 := hF.le7
  have h4 := hF.n4
  refine sr_one (sr_ret (ee_cal (ea_cons (x := .d (.list ((List.range n).map fun _ => .list (rngD 0 p)))) (ee_lcm (List.range n) (fun (i : Nat) => .int (0 + (i : Int))) (fun _ => .list (rngD 0 p)) ?_ (by simp; omega) fun i _ => ⟨_, _, ge_name, by decide, ee_is (ee_lstRg (ee_p (ee_var rfl)) (by omega) (by omega)) (by rw [Int.toNat_natCast])⟩) ea_nil) ⟨p, n, rfl, hF, rfl⟩))
  rw [← rngD_map]
  exact wi_rng1 (ea_cons (ee_n (ee_var rfl)) ea_nil) (by omega) (by omega)
end
end Pz
namespace Pz
open PySem PySem.Spec PyProof.Rows L2 Evl StX
/-! ### polys -/
def monK (k x : List Int) : Int := mon (k.map Int.toNat) x
def evK (q : List (List Int × Int)) (x : List Int) : Int := (q.map fun t => t.2 * monK t.1 x).sum
def maxL (l : List Int) : Int := l.foldl max (-1)
def degK (q : List (List Int × Int)) : Int := maxL (q.map fun t => t.1.sum)
def lessP (e p : Int) : Int := if e < p then e else (e - 1) % (p - 1) + 1
/-- a point -/
def PtOk (p n : Nat) (x : List Int) : Prop := x.length = n ∧ ∀ a ∈ x, 0 ≤ a ∧ a < (p : Int)
theorem maxL_spec : ∀ (l : List Int) (a : Int), (l.foldl max a = a ∨ l.foldl max a ∈ l) ∧ a ≤ l.foldl max a ∧ ∀ y ∈ l, y ≤ l.foldl max a
  | [], a => ⟨.inl rfl, Int.le_refl _, fun y h => nomatch h⟩
  | b :: l, a => by
    obtain ⟨h1, h2, h3⟩ := maxL_spec l (max a b)
    show (l.foldl max (max a b) = a ∨ l.foldl max (max a b) ∈ b :: l) ∧ a ≤ l.foldl max (max a b) ∧ ∀ y ∈ b :: l, y ≤ l.foldl max (max a b)
    have ha : a ≤ max a b := Int.le_max_left a b
    have hb : b ≤ max a b := Int.le_max_right a b
    refine ⟨?_, Int.le_trans ha h2, fun y hy => ?_⟩
    · rcases h1 with h1 | h1
      · rw [h1]
        by_cases h : a ≤ b
        · right; rw [Int.max_eq_right h]; exact List.mem_cons_self
        · left; rw [Int.max_eq_left (by omega)]
      · exact .inr (List.mem_cons_of_mem _ h1)
    · obtain rfl | hy := List.mem_cons.mp hy
      · exact Int.le_trans hb h2
      · exact h3 y hy
theorem maxL_mem (l : List Int) : maxL l ∈ l ++ [-1] := by
  rcases (maxL_spec l (-1)).1 with h | h
  · show l.foldl max (-1) ∈ l ++ [-1]
    rw [h]; simp
  · exact List.mem_append_left _ h
theorem maxL_le (l : List Int) : ∀ y ∈ l ++ [-1], y ≤ maxL l := fun y hy => by
  rcases List.mem_append.mp hy with h | h
  · exact (maxL_spec l (-1)).2.2 y h
  · rw [List.mem_singleton.mp h]; exact (maxL_spec l (-1)).2.1
section
variable {w : World} {P : Program} {mg : Str → Option Value} {K : PySem.W.Frag} {base : Heap}
abbrev s_are_powers : Stmt := topP 17
theorem sc_are_powers : FnScope ["field", "value", "power"] ["field", "value"] (defScope s_are_powers) := ⟨rfl, rfl, rfl, by decide +kernel, rfl, by decide +kernel, by decide +kernel⟩
def R_are_powers : List EV → EV → Prop := fun xs r => ∃ (p n : Nat) (k : List Int), xs = [.d (fD p n), .d (keyD k)] ∧ Fld p n ∧ KeyOk n k ∧ r = bv true
theorem ok_are_powers (T : Txt K mg) (D : DefAt K mg "are_powers" s_are_powers ["field", "value"]) (O_is_whole : Ok P w K mg base "is_whole" 1 (spD R_is_whole)) : Ok P w K mg base "are_powers" 2 (spD R_are_powers) := by
  refine ok_sr D sc_are_powers (fun xs r h => by obtain ⟨p, n, k, rfl, _⟩ := h; rfl) fun f cd A out s H hG hr => ?_
  refine ⟨_, pss_cons (ps_if (PW.pt (pw_or (pt_not (pt_val (pe_callB call_isD (by rfl) T.m_isinstance boot_isinstance (pa_cons (pv 1) (pa_cons (pe_bltn (by rfl) T.m_tuple boot_tuple ty_mk) pa_nil))))) (pw_or1 (pt_cmpR op_ne (pe_callB (cr_lenK (K := K) rfl) (by rfl) T.m_len boot_len (pa_cons (pv 1) pa_nil)) (pe_ix (ix_seqK (K := K) rfl) (pv 0) (pe_int) (fun _ _ => rfl)) (nomark _))))) (pss_one (ps_ret (pe_bl))) (pss_nil)) (pss_one (ps_ret (pe_callB (cr_allK (K := K) rfl rfl) (by rfl) T.m_all boot_all (pa_cons (pe_lc (own := [("power", 2)]) (tt := tYes) rfl sc_are_powers.nd (pi_seqK (K := K) rfl (pv 1)) (blkOk_by (N := ["field", "value", "power"]) (sc := defScope s_are_powers) (by decide +kernel)) (fun _ _ _ _ _ => (pg_name (i := 2) sc_are_powers.nd rfl (Or.inl rfl))) (fun _ _ _ _ _ => pts_nil) (fun _ _ _ _ _ => (pe_ok O_is_whole hG (hr.mono (by decide)) (by rfl) (pa_cons (pv 2) (pa_cons (pe_int) (pa_cons (pe_globI (by rfl) T.c_MOST_POWER) pa_nil)))))) pa_nil)))), ?_⟩
  rintro xs r ⟨p, n, k, rfl, hF, hk, rfl⟩
  have h4 := hF.n4
  refine sr_seq (sn_pass (eb_is (eb_or (eb_not (eb_B (ee_isTup (ee_var rfl)))) fun _ => eb_test (ee_neI (ee_len' (ee_var rfl) (sv_t _) (n := n) (by rw [List.length_map]; exact hk.len)) (ee_n (ee_var rfl)))) (by simp))) ?_
  refine sr_one (sr_ret (ee_is (ee_all (bs := k.map fun _ => true) (ee_is (ee_lcm k (fun e => .int e) (fun _ => .bool true) (wi_seq (ee_var rfl) (sv_t _)) (by have := hk.len; omega) fun e he => ⟨_, _, ge_name, by decide, ee_wholeT (ee_var rfl) ee_int ee_int (hk.lo e he).1 (hk.lo e he).2⟩) ?_)) ?_))
  · simp
  · congr 2
    simp
abbrev s_is_term : Stmt := topP 18
theorem sc_is_term : FnScope ["field", "value"] ["field", "value"] (defScope s_is_term) := ⟨rfl, rfl, rfl, by decide +kernel, rfl, by decide +kernel, by decide +kernel⟩
def R_is_term : List EV → EV → Prop := fun xs r => ∃ (p n : Nat) (t : List Int × Int), xs = [.d (fD p n), .d (tD t)] ∧ Fld p n ∧ TermOk p n t ∧ r = bv true
theorem ok_is_term (T : Txt K mg) (D : DefAt K mg "is_term" s_is_term ["field", "value"]) (O_is_whole : Ok P w K mg base "is_whole" 1 (spD R_is_whole)) (O_are_powers : Ok P w K mg base "are_powers" 2 (spD R_are_powers)) : Ok P w K mg base "is_term" 3 (spD R_is_term) := by
  refine ok_sr D sc_is_term (fun xs r h => by obtain ⟨p, n, k, rfl, _⟩ := h; rfl) fun f cd A out s H hG hr => ?_
  refine ⟨_, pss_cons (ps_if (PW.pt (pw_or (pt_not (pt_val (pe_callB call_isD (by rfl) T.m_isinstance boot_isinstance (pa_cons (pv 1) (pa_cons (pe_bltn (by rfl) T.m_tuple boot_tuple ty_mk) pa_nil))))) (pw_or (pt_cmpR op_ne (pe_callB (cr_lenK (K := K) rfl) (by rfl) T.m_len boot_len (pa_cons (pv 1) pa_nil)) (pe_int) (nomark _)) (pw_or1 (pt_not (pt_val (pe_ok O_are_powers hG (hr.mono (by decide)) (by rfl) (pa_cons (pv 0) (pa_cons (pe_ix (ix_seqK (K := K) rfl) (pv 1) (pe_int) (fun _ _ => rfl)) pa_nil))))))))) (pss_one (ps_ret (pe_bl))) (pss_nil)) (pss_one (ps_ret (pe_ok O_is_whole hG (hr.mono (by decide)) (by rfl) (pa_cons (pe_ix (ix_seqK (K := K) rfl) (pv 1) (pe_int) (fun _ _ => rfl)) (pa_cons (pe_int) (pa_cons (pe_op op_sub (pe_ix (ix_seqK (K := K) rfl) (pv 0) (pe_int) (fun _ _ => rfl)) (pe_int)) pa_nil)))))), ?_⟩
  rintro xs r ⟨p, n, t, rfl, hF, ht, rfl⟩
  refine sr_seq (sn_pass (eb_is (eb_or (eb_not (eb_B (ee_isTup (ee_var rfl)))) fun _ => eb_or (eb_test (ee_neI (ee_len (ee_var rfl) (sv_t _)) ee_int)) fun _ => eb_not (eb_B (ee_cal (ea_cons (ee_var rfl) (ea_cons (ee_k (ee_var rfl)) ea_nil)) ⟨p, n, t.1, rfl, hF, ht.key, rfl⟩))) rfl)) ?_
  exact sr_one (sr_ret (ee_wholeT (ee_r (ee_var rfl)) ee_int (ee_sub (ee_p (ee_var rfl)) ee_int) ht.one ht.less))
theorem ee_geF {ta tb : TE} {ρ : Env1} {a b : List Int} (ha : EvE ta ρ (.d (keyD a))) (hb : EvE tb ρ (.d (keyD b))) (hl : a.length = b.length) (lt : a < b) : EvE (tOp rGeF ta tb) ρ (bv false) := ee_bin ha hb fun u v H hd w d1 d2 Q q =>
  ⟨a, b, Dh.mono (Sx.of fun _ _ z => hide_some z) d1, Dh.mono (Sx.of fun _ _ z => hide_some z) d2, hl, lt, q _ H (Ex.refl H) (.bl false)⟩
abbrev s_wrong_term : Stmt := topP 19
theorem sc_wrong_term : FnScope ["field", "thing", "number", "term"] ["field", "thing"] (defScope s_wrong_term) := ⟨rfl, rfl, rfl, by decide +kernel, rfl, by decide +kernel, by decide +kernel⟩
def R_wrong_term : List EV → EV → Prop := fun xs r => ∃ (p n : Nat) (q : List (List Int × Int)), xs = [.d (fD p n), .d (pD q)] ∧ Fld p n ∧ PolyOk p n q ∧ r = .d .none
theorem ok_wrong_term (T : Txt K mg) (D : DefAt K mg "wrong_term" s_wrong_term ["field", "thing"]) (O_is_term : Ok P w K mg base "is_term" 3 (spD R_is_term)) : Ok P w K mg base "wrong_term" 4 (spD R_wrong_term) := by
  refine ok_sr D sc_wrong_term (fun xs r h => by obtain ⟨p, n, k, rfl, _⟩ := h; rfl) fun f cd A out s H hG hr => ?_
  refine ⟨_, pss_cons (ps_if (PW.pt (pw_or (pt_not (pt_val (pe_callB call_isD (by rfl) T.m_isinstance boot_isinstance (pa_cons (pv 1) (pa_cons (pe_bltn (by rfl) T.m_tuple boot_tuple ty_mk) pa_nil))))) (pw_or1 (pt_cmpR op_gt (pe_callB (cr_lenK (K := K) rfl) (by rfl) T.m_len boot_len (pa_cons (pv 1) pa_nil)) (pe_globI (by rfl) T.c_MOST_TERMS) (nomark _))))) (pss_one (ps_ret (pe_tup pa_nil))) (pss_nil)) (pss_cons (ps_for PassesOwn.never rfl (pi_enumTK (K := K) rfl (by rfl) T.m_enumerate (pa_cons (pv 1) pa_nil)) (pg_tupK (K := K) (n := 2) rfl rfl (pgs_cons (pg_name (i := 2) sc_wrong_term.nd rfl (Or.inl rfl)) (pgs_cons (pg_name (i := 3) sc_wrong_term.nd rfl (Or.inl rfl)) pgs_nil))) (pss_one (ps_if (PW.pt (pw_or (pt_not (pt_val (pe_ok O_is_term hG (hr.mono (by decide)) (by rfl) (pa_cons (pv 0) (pa_cons (pv 3) pa_nil))))) (pw_or1 (PW.pt (pw_and (pt_cmpR op_gt (pv 2) (pe_int) (nomark _)) (pw_and1 (pt_cmpR (op_geF hr.units0) (pe_ix (ix_seqK (K := K) rfl) (pe_ix (ix_seqK (K := K) rfl) (pv 1) (pe_op op_sub (pv 2) (pe_int)) (fun _ _ => rfl)) (pe_int) (fun _ _ => rfl)) (pe_ix (ix_seqK (K := K) rfl) (pv 3) (pe_int) (fun _ _ => rfl)) (nomark _)))))))) (pss_one (ps_ret (pe_tup (pa_cons (pv 2) pa_nil)))) (pss_nil)))) (pss_one (ps_ret (pe_non)))), ?_⟩
  rintro xs r ⟨p, n, q, rfl, hF, hq, rfl⟩
  have hfew := hq.few
  refine sr_seq (sn_pass (eb_is (eb_or (eb_not (eb_B (ee_isTup (ee_var rfl)))) fun _ => eb_test (ee_gt (ee_len' (ee_var rfl) (sv_t _) (n := q.length) (by simp)) ee_int)) ?_)) ?_
  · rw [decide_eq_false (by omega)]
    rfl
  refine sr_seq (sn_for (fun i => [some (.d (fD p n)), some (.d (pD q)), none, none]) (wi_enumT (ea_cons (ee_var rfl) ea_nil)) (.cons (.inr rfl) (.cons (.inr rfl) (.cons (.inl rfl) (.cons (.inl rfl) .nil)))) fun i d hd => ?_) (sr_one (sr_ret ee_non))
  have lt : i < q.length := by
    have := (List.getElem?_eq_some_iff.mp hd).1
    rwa [enumD_len, List.length_map] at this
  have e1 : (q.map tD)[i]? = some (tD q[i]) := by simp [lt]
  rw [enumD_get e1] at hd
  cases hd
  refine ⟨_, _, _, ge_two, sn_one (sn_pass (eb_is (eb_or (eb_not (eb_B (ee_cal (ea_cons (ee_var rfl) (ea_cons (ee_var rfl) ea_nil)) ⟨p, n, q[i], rfl, hF, hq.terms _ (List.getElem_mem lt), rfl⟩))) fun _ => eb_and (c := decide ((0 : Int) < i)) (d := false) (eb_test (ee_gt (ee_var rfl) ee_int)) fun hi => ?_) (by simp))), (.cons (.inr rfl) (.cons (.inr rfl) (.cons (.inl rfl) (.cons (.inl rfl) .nil))))⟩
  have hi := of_decide_eq_true hi
  have e2 : q[i - 1]? = some q[i - 1] := List.getElem?_eq_getElem (by omega)
  have e3 : q[i - 1 + 1]? = some q[i] := by rw [show i - 1 + 1 = i by omega]; exact List.getElem?_eq_getElem lt
  refine eb_test (ee_geF (a := q[i - 1].1) (b := q[i].1) (ee_k (ee_ix (n := i - 1) (ee_var rfl) (sv_t _) (ee_is (ee_sub (ee_var rfl) ee_int) ?_) ?_)) (ee_k (ee_var rfl)) ?_ (hq.up _ _ _ e2 e3))
  · congr 2
    omega
  · rw [List.getElem?_map, e2]
    rfl
  · rw [(hq.terms _ (List.getElem_mem _)).key.len, (hq.terms _ (List.getElem_mem _)).key.len]
abbrev s_raised : Stmt := topP 20
theorem sc_raised : FnScope ["base", "power", "prime", "found", "turn"] ["base", "power", "prime"] (defScope s_raised) := ⟨rfl, rfl, rfl, by decide +kernel, rfl, by decide +kernel, by decide +kernel⟩
def R_raised : List EV → EV → Prop := fun xs r => ∃ (a : Int) (e p : Nat), xs = [iv a, iv (e : Int), iv (p : Int)] ∧ 0 ≤ a ∧ a ≤ 7 ∧ 2 ≤ p ∧ p ≤ 7 ∧ e ≤ 30 ∧ r = iv (a ^ e % (p : Int))
theorem emod_step (a b m : Int) : a % m * b % m = a * b % m := by rw [Int.mul_emod, Int.emod_emod, ← Int.mul_emod]
theorem ok_raised (T : Txt K mg) (D : DefAt K mg "raised" s_raised ["base", "power", "prime"]) : Ok P w K mg base "raised" 1 (spD R_raised) := by
  refine ok_sr D sc_raised (fun xs r h => by obtain ⟨p, n, k, rfl, _⟩ := h; rfl) fun f cd A out s H hG hr => ?_
  refine ⟨_, pss_cons (ps_set (i := 3) sc_raised.nd rfl (Or.inl rfl) (pe_int)) (pss_cons (ps_for PassesOwn.never rfl (pi_range1 (by rfl) T.m_range (pa_cons (pv 1) pa_nil)) (pg_name (i := 4) sc_raised.nd rfl (Or.inl rfl)) (pss_one (ps_set (i := 3) sc_raised.nd rfl (Or.inl rfl) (pe_op op_mod (pe_op op_mul (pv 3) (pv 0)) (pv 2))))) (pss_one (ps_ret (pv 3)))), ?_⟩
  rintro xs r ⟨a, e, p, rfl, a0, a7, p2, p7, he, rfl⟩
  refine sr_seq (sn_asg ee_int) (sr_seq (sn_rng1 (fun i => [some (iv a), some (iv (e : Int)), some (iv (p : Int)), some (iv (a ^ i % (p : Int))), none]) (ee_var rfl) (by omega) (.cons (.inr rfl) (.cons (.inr rfl) (.cons (.inr rfl) (.cons (.inr ?_) (.cons (.inl rfl) .nil))))) fun i hi => ?_) (sr_one (sr_ret (ee_var rfl))))
  · congr 2
    rw [Int.pow_zero]
    exact Int.emod_eq_of_lt (by decide) (by omega)
  · refine ⟨_, sn_one (sn_asg (ee_is (ee_mod (ee_mul (ee_var rfl) (ee_var rfl) (cmul_small (by omega) (by omega))) (ee_var rfl) (by omega)) ?_)), (.cons (.inr rfl) (.cons (.inr rfl) (.cons (.inr rfl) (.cons (.inr rfl) (.cons (.inl rfl) .nil)))))⟩
    rw [emod_step, ← Int.pow_succ]
abbrev s_product_at : Stmt := topP 21
theorem sc_product_at : FnScope ["prime", "powers", "point", "found", "power", "item"] ["prime", "powers", "point"] (defScope s_product_at) := ⟨rfl, rfl, rfl, by decide +kernel, rfl, by decide +kernel, by decide +kernel⟩
def R_product_at : List EV → EV → Prop := fun xs r => ∃ (p n : Nat) (k x : List Int), xs = [iv (p : Int), .d (keyD k), .d (keyD x)] ∧ Fld p n ∧ KeyOk n k ∧ PtOk p n x ∧ r = iv (monK k x % (p : Int))
theorem monK_snoc {k x : List Int} (h : k.length = x.length) (e a : Int) : monK (k ++ [e]) (x ++ [a]) = monK k x * a ^ e.toNat := by
  unfold monK
  rw [List.map_append]
  exact mon_snoc (by rw [List.length_map, h]) _ _
theorem zipD_map (k x : List Int) : zipD (k.map .int) (x.map .int) = (k.zip x).map fun q => .tuple [.int q.1, .int q.2] := by
  unfold zipD
  induction k generalizing x with
  | nil => rfl
  | cons a k ih =>
    cases x with
    | nil => rfl
    | cons b x => simp [ih]
theorem ok_product_at (T : Txt K mg) (D : DefAt K mg "product_at" s_product_at ["prime", "powers", "point"]) (O_raised : Ok P w K mg base "raised" 1 (spD R_raised)) : Ok P w K mg base "product_at" 2 (spD R_product_at) := by
  refine ok_sr D sc_product_at (fun xs r h => by obtain ⟨p, n, k, x, rfl, _⟩ := h; rfl) fun f cd A out s H hG hr => ?_
  refine ⟨_, pss_cons (ps_set (i := 3) sc_product_at.nd rfl (Or.inl rfl) (pe_int)) (pss_cons (ps_for PassesOwn.never rfl (RZ.pi_zipA (by rfl) T.m_zip (pa_cons (pv 1) (pa_cons (pv 2) pa_nil))) (pg_tupK (K := K) (n := 2) rfl rfl (pgs_cons (pg_name (i := 4) sc_product_at.nd rfl (Or.inl rfl)) (pgs_cons (pg_name (i := 5) sc_product_at.nd rfl (Or.inl rfl)) pgs_nil))) (pss_one (ps_set (i := 3) sc_product_at.nd rfl (Or.inl rfl) (pe_op op_mod (pe_op op_mul (pv 3) (pe_ok O_raised hG (hr.mono (by decide)) (by rfl) (pa_cons (pv 5) (pa_cons (pv 4) (pa_cons (pv 0) pa_nil))))) (pv 0))))) (pss_one (ps_ret (pv 3)))), ?_⟩
  rintro xs r ⟨p, n, k, x, rfl, hF, hk, hx, rfl⟩
  have h7 := hF.le7
  have hl : k.length = x.length := hk.len.trans hx.1.symm
  refine sr_seq (sn_asg ee_int) (sr_seq (sn_forM (k.zip x) (fun q => .tuple [.int q.1, .int q.2]) (fun i => [some (iv (p : Int)), some (.d (keyD k)), some (.d (keyD x)), some (iv (monK (k.take i) (x.take i) % (p : Int))), none, none])
    (by rw [← zipD_map]; exact wi_zip (ea_cons (ee_var rfl) (ea_cons (ee_var rfl) ea_nil)) (by simp [hl])) (.cons (.inr rfl) (.cons (.inr rfl) (.cons (.inr rfl) (.cons (.inr ?_) (.cons (.inl rfl) (.cons (.inl rfl) .nil)))))) fun i q hq => ?_) (sr_one (sr_ret (ee_is (ee_var rfl) ?_))))
  · congr 2
    show (1 : Int) % p = 1
    exact Int.emod_eq_of_lt (by decide) (by omega)
  · obtain ⟨e, a⟩ := q
    have hq' := hq
    rw [List.getElem?_zip_eq_some] at hq
    obtain ⟨h1, h2⟩ := hq
    have me := List.mem_of_getElem? h1
    have ma := List.mem_of_getElem? h2
    have ke := hk.lo e me
    have ka := hx.2 a ma
    refine ⟨_, _, _, ge_two, sn_one (sn_asg (ee_is (ee_mod (ee_mul (ee_var rfl) (ee_cal (ea_cons (ee_var rfl) (ea_cons (ee_is (ee_var rfl) (y := iv ((e.toNat : Nat) : Int)) (by congr 2; show e = _; omega)) (ea_cons (ee_var rfl) ea_nil))) ⟨a, e.toNat, p, rfl, ka.1, by omega, h7.1, h7.2, by omega, rfl⟩) (cmul_small (Int.emod_nonneg _ (by omega)) (Int.le_of_lt (Int.lt_of_lt_of_le (Int.emod_lt_of_pos _ (by omega)) (by omega))))) (ee_var rfl) (by omega)) rfl)), .cons (.inr rfl) (.cons (.inr rfl) (.cons (.inr rfl) (.cons (.inr ?_) (.cons (.inl rfl) (.cons (.inl rfl) .nil)))))⟩
    congr 2
    have t1 : k.take (i + 1) = k.take i ++ [e] := by rw [List.take_add_one, h1]; rfl
    have t2 : x.take (i + 1) = x.take i ++ [a] := by rw [List.take_add_one, h2]; rfl
    rw [t1, t2, monK_snoc (by simp [hl]), ← Int.mul_emod]
  · congr 2
    rw [List.length_zip, hl, Nat.min_self, List.take_of_length_le (by omega), List.take_of_length_le (by omega)]
abbrev s_value_of : Stmt := topP 22
theorem sc_value_of : FnScope ["field", "poly", "point", "powers", "rest"] ["field", "poly", "point"] (defScope s_value_of) := ⟨rfl, rfl, rfl, by decide +kernel, rfl, by decide +kernel, by decide +kernel⟩
def R_value_of : List EV → EV → Prop := fun xs r => ∃ (p n : Nat) (q : List (List Int × Int)) (u : EV) (x : List Int), xs = [.d (fD p n), u, .d (keyD x)] ∧ SeqV u (q.map tD) ∧ Fld p n ∧ (∀ t ∈ q, KeyOk n t.1) ∧ q.length ≤ 5000 ∧ PtOk p n x ∧ r = iv (evK q x % (p : Int))
theorem ok_value_of (T : Txt K mg) (D : DefAt K mg "value_of" s_value_of ["field", "poly", "point"]) (O_product_at : Ok P w K mg base "product_at" 2 (spD R_product_at)) : Ok P w K mg base "value_of" 3 (spD R_value_of) := by
  refine ok_sr D sc_value_of (fun xs r h => by obtain ⟨p, n, q, u, x, rfl, _⟩ := h; rfl) fun f cd A out s H hG hr => ?_
  refine ⟨_, pss_one (ps_ret (pe_op op_mod (pe_callB (cr_sumA rfl) (by rfl) T.m_sum boot_sum (pa_cons (pe_lc (own := [("powers", 3), ("rest", 4)]) (tt := tYes) rfl sc_value_of.nd (pi_seqK (K := K) rfl (pv 1)) (blkOk_by (N := ["field", "poly", "point", "powers", "rest"]) (sc := defScope s_value_of) (by decide +kernel)) (fun _ _ _ _ _ => (pg_tupK (K := K) (n := 2) rfl rfl (pgs_cons (pg_name (i := 3) sc_value_of.nd rfl (Or.inl rfl)) (pgs_cons (pg_name (i := 4) sc_value_of.nd rfl (Or.inl rfl)) pgs_nil)))) (fun _ _ _ _ _ => pts_nil) (fun _ _ _ _ _ => (pe_op op_mul (pv 4) (pe_ok O_product_at hG (hr.mono (by decide)) (by rfl) (pa_cons (pe_ix (ix_seqK (K := K) rfl) (pv 0) (pe_int) (fun _ _ => rfl)) (pa_cons (pv 3) (pa_cons (pv 2) pa_nil))))))) pa_nil)) (pe_ix (ix_seqK (K := K) rfl) (pv 0) (pe_int) (fun _ _ => rfl)))), ?_⟩
  rintro xs r ⟨p, n, q, u, x, rfl, hu, hF, hq, hz, hx, rfl⟩
  have h7 := hF.le7
  refine sr_one (sr_ret (ee_is (ee_mod (ee_sum (ns := q.map fun t => t.2 * (monK t.1 x % (p : Int))) (ee_is (ee_lcm q tD (fun t => .int (t.2 * (monK t.1 x % (p : Int)))) (wi_seq (ee_var rfl) hu) (by omega) fun t ht => ⟨_, _, ge_two, by decide,
    ee_mul (ee_var rfl) (ee_cal (ea_cons (ee_p (ee_var rfl)) (ea_cons (ee_var rfl) (ea_cons (ee_var rfl) ea_nil))) ⟨p, n, t.1, x, rfl, hF, hq t ht, hx, rfl⟩) (cmul_small (Int.emod_nonneg _ (by omega)) (Int.le_of_lt (Int.lt_of_lt_of_le (Int.emod_lt_of_pos _ (by omega)) (by omega))))⟩) (y := .d (.list ((q.map fun t => t.2 * (monK t.1 x % (p : Int))).map .int))) ?_) (.inr rfl)) (ee_p (ee_var rfl)) (by omega)) ?_))
  · simp
  · have e : (q.map fun t => t.2 * (monK t.1 x % (p : Int))).sum % (p : Int) = evK q x % (p : Int) := sum_emod _ _ _ _ fun t _ => by rw [Int.mul_emod, Int.emod_emod, ← Int.mul_emod]
    rw [e]
abbrev s_degree_of : Stmt := topP 23
theorem sc_degree_of : FnScope ["poly", "powers", "rest"] ["poly"] (defScope s_degree_of) := ⟨rfl, rfl, rfl, by decide +kernel, rfl, by decide +kernel, by decide +kernel⟩
def R_degree_of : List EV → EV → Prop := fun xs r => ∃ (q : List (List Int × Int)) (u : EV), xs = [u] ∧ SeqV u (q.map tD) ∧ q.length ≤ 5000 ∧ r = iv (degK q)
theorem ok_degree_of (T : Txt K mg) (D : DefAt K mg "degree_of" s_degree_of ["poly"]) : Ok P w K mg base "degree_of" 1 (spD R_degree_of) := by
  refine ok_sr D sc_degree_of (fun xs r h => by obtain ⟨q, u, rfl, _⟩ := h; rfl) fun f cd A out s H hG hr => ?_
  refine ⟨_, pss_one (ps_ret (pe_callB (cr_maxK (K := K) rfl rfl) (by rfl) T.m_max boot_max (pa_cons (pe_op op_cat (pe_lc (own := [("powers", 1), ("rest", 2)]) (tt := tYes) rfl sc_degree_of.nd (pi_seqK (K := K) rfl (pv 0)) (blkOk_by (N := ["poly", "powers", "rest"]) (sc := defScope s_degree_of) (by decide +kernel)) (fun _ _ _ _ _ => (pg_tupK (K := K) (n := 2) rfl rfl (pgs_cons (pg_name (i := 1) sc_degree_of.nd rfl (Or.inl rfl)) (pgs_cons (pg_name (i := 2) sc_degree_of.nd rfl (Or.inl rfl)) pgs_nil)))) (fun _ _ _ _ _ => pts_nil) (fun _ _ _ _ _ => (pe_callB (cr_sumA rfl) (by rfl) T.m_sum boot_sum (pa_cons (pv 1) pa_nil)))) (pe_lst (pa_cons (pe_un un_neg (pe_int)) pa_nil))) pa_nil))), ?_⟩
  rintro xs r ⟨q, u, rfl, hu, hz, rfl⟩
  refine sr_one (sr_ret (ee_max (ns := (q.map fun t => t.1.sum) ++ [-1]) (ee_is (ee_cat (ee_lcm q tD (fun t => .int t.1.sum) (wi_seq (ee_var rfl) hu) (by omega) fun t ht => ⟨_, _, ge_two, by decide, ee_sum (ee_var rfl) (.inl rfl)⟩) (ee_lst (ds := [.int (-1)]) (ea_cons (ee_neg ee_int) ea_nil) (by decide)) (by simp; omega)) ?_) (by simp) fun m' h1 h2 => ?_))
  · simp
  · exact Int.le_antisymm (maxL_le _ _ h1) (h2 _ (maxL_mem _))
abbrev s_less_power : Stmt := topP 24
theorem sc_less_power : FnScope ["power", "prime"] ["power", "prime"] (defScope s_less_power) := ⟨rfl, rfl, rfl, by decide +kernel, rfl, by decide +kernel, by decide +kernel⟩
def R_less_power : List EV → EV → Prop := fun xs r => ∃ (e p : Int), xs = [iv e, iv p] ∧ 2 ≤ p ∧ r = iv (lessP e p)
theorem ok_less_power (T : Txt K mg) (D : DefAt K mg "less_power" s_less_power ["power", "prime"]) : Ok P w K mg base "less_power" 1 (spD R_less_power) := by
  refine ok_sr D sc_less_power (fun xs r h => by obtain ⟨q, u, rfl, _⟩ := h; rfl) fun f cd A out s H hG hr => ?_
  refine ⟨_, pss_one (ps_ret (pe_ifExp (pt_cmpR op_lt (pv 0) (pv 1) (nomark _)) (pv 0) (pe_op op_add (pe_op op_mod (pe_op op_sub (pv 0) (pe_int)) (pe_op op_sub (pv 1) (pe_int))) (pe_int)))), ?_⟩
  rintro xs r ⟨e, p, rfl, hp, rfl⟩
  refine sr_one (sr_ret (ee_if (eb_test (ee_lt (ee_var rfl) (ee_var rfl))) (fun h => ee_is (ee_var rfl) ?_) fun h => ee_is (ee_add (ee_mod (ee_sub (ee_var rfl) ee_int) (ee_sub (ee_var rfl) ee_int) (by omega)) ee_int) ?_))
  · unfold lessP
    rw [if_pos (of_decide_eq_true h)]
  · unfold lessP
    rw [if_neg (of_decide_eq_false h)]
end
end Pz
namespace Pz
open PySem PySem.Spec PyProof.Rows L2 Evl StX
/-! ### an object changes that is no list, no tuple -/
structure Ch (b : Addr) (G G' : Hp) : Prop where
  else_ : ∀ c o, c ≠ b → G c = some o → G' c = some o
  lst : ∀ xs, G b ≠ some (.lst xs)
  tup : ∀ xs, G b ≠ some (.tup xs)
  frz : ∀ o xs, G b ≠ some (.frz o (.tup xs))
section
variable {b : Addr} {G G' : Hp}
mutual
theorem Dh.ch (k : Ch b G G') : ∀ {v : V} {x : PyData}, Dh G v x → Dh G' v x
  | _, _, .non => .non
  | _, _, .bl b => .bl b
  | _, _, .int i => .int i
  | _, _, .str x => .str x
  | _, _, .lst (a := a) h t => .lst (k.else_ _ _ (fun e => by subst e; exact k.lst _ h) h) (DhA.ch k t)
  | _, _, .tup (a := a) h t => .tup (k.else_ _ _ (fun e => by subst e; exact k.tup _ h) h) (DhA.ch k t)
theorem DhA.ch (k : Ch b G G') : ∀ {vs : List V} {xs : List PyData}, DhA G vs xs → DhA G' vs xs
  | _, _, .nil => .nil
  | _, _, .cons h t => .cons (Dh.ch k h) (DhA.ch k t)
end
theorem Ent.ch (k : Ch b G G') {es : List (List Key × V)} {kvs : List (List Int × PyData)} (h : Ent G es kvs) : Ent G' es kvs := paired_imp h fun _ _ z => ⟨z.1, z.2.ch k⟩
/-- what a value is does not lean on b -/
def offB (b : Addr) (G : Hp) : EV → Prop
  | .t _ => ∃ o es, G b = some (.frz o (.dT es))
  | .z _ _ => ∃ es, G b = some (.dT es)
  | _ => True
theorem Dv.ch (k : Ch b G G') {v : V} : ∀ {x : EV}, offB b G x → Dv G v x → Dv G' v x
  | .d _, _, h => Dh.ch k h
  | .f _, _, ⟨a, o, xs, e1, e2, e3, e4⟩ => ⟨a, o, xs, e1, k.else_ _ _ (fun e => by subst e; exact k.frz _ _ e2) e2, e3, e4.ch k⟩
  | .t _, n, ⟨a, es, e1, e2, e3⟩ => ⟨a, es, e1, k.else_ _ _ (fun e => by subst e; obtain ⟨o, es', z⟩ := n; rw [z] at e2; cases e2) e2, Ent.ch k e3⟩
  | .z _ _, n, ⟨o, es, e1, e2, e3⟩ => ⟨o, es, e1, k.else_ _ _ (fun e => by subst e; obtain ⟨es', z⟩ := n; rw [z] at e2; cases e2) e2, Ent.ch k e3⟩
  | .a _, _, h => h
end
/-- without the dicts -/
def noT (ρ : Env1) : Env1 := ρ.map fun o => match o with
  | some (.t _) => none
  | x => x
def noZ (ρ : Env1) : Env1 := ρ.map fun o => match o with
  | some (.z _ _) => none
  | x => x
theorem Envs.noT_ch {b : Addr} {G G' : Hp} (k : Ch b G G') (hb : ∃ es, G b = some (.dT es)) : ∀ {σ : L2.St} {ρ : Env1}, Envs G σ ρ → Envs G' σ (noT ρ)
  | _, _, .nil => .nil
  | _, o :: _, .cons h t => .cons (fun x e => by
      cases o with
      | none => cases e
      | some y =>
        cases y with
        | t _ => cases e
        | d z => cases e; obtain ⟨v, h1, h2⟩ := h _ rfl; exact ⟨v, h1, Dv.ch k trivial h2⟩
        | f z => cases e; obtain ⟨v, h1, h2⟩ := h _ rfl; exact ⟨v, h1, Dv.ch k trivial h2⟩
        | z z1 z2 => cases e; obtain ⟨v, h1, h2⟩ := h _ rfl; exact ⟨v, h1, Dv.ch k hb h2⟩
        | a z => cases e; obtain ⟨v, h1, h2⟩ := h _ rfl; exact ⟨v, h1, h2⟩) (Envs.noT_ch k hb t)
theorem Envs.noZ_ch {b : Addr} {G G' : Hp} (k : Ch b G G') (hb : ∃ o es, G b = some (.frz o (.dT es))) : ∀ {σ : L2.St} {ρ : Env1}, Envs G σ ρ → Envs G' σ (noZ ρ)
  | _, _, .nil => .nil
  | _, o :: _, .cons h t => .cons (fun x e => by
      cases o with
      | none => cases e
      | some y =>
        cases y with
        | z _ _ => cases e
        | d z => cases e; obtain ⟨v, h1, h2⟩ := h _ rfl; exact ⟨v, h1, Dv.ch k trivial h2⟩
        | f z => cases e; obtain ⟨v, h1, h2⟩ := h _ rfl; exact ⟨v, h1, Dv.ch k trivial h2⟩
        | t z => cases e; obtain ⟨v, h1, h2⟩ := h _ rfl; exact ⟨v, h1, Dv.ch k hb h2⟩
        | a z => cases e; obtain ⟨v, h1, h2⟩ := h _ rfl; exact ⟨v, h1, h2⟩) (Envs.noZ_ch k hb t)
theorem Envs.putAt {H : Hp} {v : V} {x : EV} (d : Dv H v x) : ∀ {σ : L2.St} {ρ : Env1} {i : Nat}, σ[i]? = some (some v) → Envs H σ ρ → Envs H σ (ρ.set i (some x))
  | _, _, _, _, .nil => .nil
  | o :: _, _, 0, e, .cons _ t => .cons (fun y q => by cases q; exact ⟨v, by simpa using e, d⟩) t
  | _ :: _, _, i + 1, e, .cons h t => .cons h (Envs.putAt d (by simpa using e) t)
/-! ### d.items(), d locked meanwhile -/
def prD (p : List Int × PyData) : PyData := .tuple [keyD p.1, p.2]
theorem wk_itemsT {a : Addr} {o : Obj} {es : List (List Key × V)} {kvs : List (List Int × PyData)} {H1 : Hp} {hd : Hid} (h : hide H1 hd a = some (.frz o (.dT es))) (hx : Ent (hide H1 hd) es kvs) : Wk (ItiT a o es) H1 hd (kvs.map prD) := by
  unfold Wk
  rw [List.length_map]
  have hl := hx.len
  refine ⟨fun i H hi ⟨d', _, s⟩ => ⟨hide_some (s _ _ h), by omega⟩, fun H ⟨d', _, s⟩ => ⟨hide_some (s _ _ h), by omega⟩, fun i H x H' hi ⟨d', _, s⟩ y => ?_⟩
  obtain ⟨T, k, v, q, he, hq, rfl, hT, rfl⟩ := y
  obtain ⟨p, hp, e1, e2⟩ := paired_get hx he
  refine ⟨Ex.new hT, prD p, by rw [List.getElem?_map, hp]; rfl, fun d2 w2 s2 => ?_⟩
  have hq' : hide H d2 q = some (.tup (k.map kV)) := by
    refine hide_of hq ?_
    cases z : d2 q with
    | false => rfl
    | true =>
      obtain ⟨o', z1, z2⟩ := w2 q z
      rw [hq] at z1
      cases z1
      exact absurd rfl (z2 _)
  have kk := Sx.of (exh (d := d2) (Ex.new (o := .tup [.ref q, v]) hT))
  simp only at e1
  rw [e1, kI_kV] at hq'
  exact .tup (new_tup w2 hT) (.cons (.tup (kk _ _ trivial hq') (dha_ints _)) (.cons ((e2.mono (Sx.of s2)).mono kk) .nil))
section
variable {K : PySem.W.Frag} {ρ ρ1 ρ2 : Env1} {ta tb te td tk tv ty : TE} {t u : TS} {x y : EV} {g : TG} {wi : TI} {kvs : List (List Int × PyData)}
theorem wi_itemsT {p : Addr} (h : EvE td ρ (.z p kvs)) : WiE (iItemsT td) ρ (kvs.map prD) := fun σ H hd w en R k => h σ H hd w en _ fun v H1 e d => by
  obtain ⟨o, es, rfl, ha, hx⟩ := d
  exact ⟨p, o, es, rfl, hide_some ha, k _ H1 e (wk_itemsT ha hx)⟩
theorem upd_at {H : Hp} {a : Addr} {o u : HO} (h : H a = some u) (hu : (∀ xs, u ≠ .lst xs) ∧ (∀ xs, u ≠ .tup xs) ∧ ∀ o xs, u ≠ .frz o (.tup xs)) {d : Hid} (n : d a = false) : Ch a (hide H d) (hide (upd H a o) d) := by
  have e : hide H d a = some u := hide_of h n
  refine ⟨fun c o' hc z => ?_, fun xs z => ?_, fun xs z => ?_, fun o xs z => ?_⟩
  · exact hide_of (by rw [upd_ne hc]; exact hide_some z) (hide_not z)
  · rw [e] at z; cases z; exact hu.1 _ rfl
  · rw [e] at z; cases z; exact hu.2.1 _ rfl
  · rw [e] at z; cases z; exact hu.2.2 _ _ rfl
theorem vw_upd {H : Hp} {a : Addr} {o : HO} {d : Hid} (w : Vw d H) (n : d a = false) : Vw d (upd H a o) := fun b hb => by
  have : b ≠ a := fun e => by subst e; rw [n] at hb; cases hb
  obtain ⟨o, z, q⟩ := w b hb
  exact ⟨o, by rw [upd_ne this]; exact z, q⟩
/-- the frame with the dict in slot j locked -/
theorem envs_lock {σ : L2.St} {H : Hp} {d : Hid} {j : Nat} {a : Addr} {es : List (List Key × V)} {od : Obj} (en : Envs (hide H d) σ ρ) (hs : σ[j]? = some (some (.ref a))) (ha : hide H d a = some (.dT es)) (ent : Ent (hide H d) es kvs) :
    Envs (hide (upd H a (.frz od (.dT es))) d) σ ((noT ρ).set j (some (.z a kvs))) := by
  have k : Ch a (hide H d) (hide (upd H a (.frz od (.dT es))) d) := upd_at (u := .dT es) (hide_some ha) ⟨fun _ z => (by cases z), fun _ z => (by cases z), fun _ _ z => (by cases z)⟩ (hide_not ha)
  have h1 : upd H a (.frz od (.dT es)) a = some (.frz od (.dT es)) := upd_same
  have h2 : hide (upd H a (.frz od (.dT es))) d a = some (.frz od (.dT es)) := hide_of h1 (hide_not ha)
  have h3 : Dv (hide (upd H a (.frz od (.dT es))) d) (.ref a) (.z a kvs) := ⟨od, es, rfl, h2, ent.ch k⟩
  exact Envs.putAt h3 hs (en.noT_ch k ⟨es, ha⟩)
def notZ : EV → Prop
  | .z _ _ => False
  | _ => True
theorem ee_lock {j : Nat} (hj : ρ[j]? = some (some (.t kvs))) (h : ∀ a, EvE te ((noT ρ).set j (some (.z a kvs))) x) (hx : notZ x) : EvE (tLockE te) ρ x := fun σ H hd w en Q q => by
  obtain ⟨v, hs, a, es, rfl, ha, ent⟩ := en.get hj
  have na := hide_not ha
  refine ⟨a, .dT es, hide_some ha, trivial, fun od => h a σ _ hd (vw_upd w na) (envs_lock en hs ha ent) _ fun v H2 e d => ?_⟩
  have e2 : H2 a = some (.frz od (.dT es)) := e _ _ upd_same
  refine ⟨e2, q v _ (fun b o z => ?_) (Dv.ch (upd_at (u := .frz od (.dT es)) e2 ⟨fun _ z => (by cases z), fun _ z => (by cases z), fun _ _ z => (by cases z)⟩ na) ?_ d)⟩
  · by_cases hb : b = a
    · subst hb
      rw [hide_some ha] at z
      cases z
      exact upd_same
    · rw [upd_ne hb]
      exact e b o (by rw [upd_ne hb]; exact z)
  · cases x with
    | t _ => exact ⟨od, es, hide_of e2 na⟩
    | z _ _ => exact hx.elim
    | _ => trivial
end
/-! ### what a def owns and changes -/
def ExB (as : List Addr) (H H' : Hp) : Prop := ∀ b o, b ∉ as → H b = some o → H' b = some o
abbrev CP := Hp → Hp → Prop
/-- it stands while what it tells of stands -/
def CPok (as : List Addr) (C : CP) : Prop := ∀ G G' H H', C G H → Ex G G' → (∀ a ∈ as, ∀ o, H a = some o → H' a = some o) → C G' H'
theorem ExB.refl (as : List Addr) (H : Hp) : ExB as H H := fun _ _ _ h => h
theorem ExB.trans {as : List Addr} {H H1 H2 : Hp} (a : ExB as H H1) (b : ExB as H1 H2) : ExB as H H2 := fun c o n h => b c o n (a c o n h)
theorem ExB.of {as : List Addr} {H H' : Hp} (e : Ex H H') : ExB as H H' := fun b o _ h => e b o h
theorem ExB.hide {as : List Addr} {H H' : Hp} {d : Hid} (e : ExB as H H') (h : ∀ a ∈ as, d a = true) : Ex (hide H d) (hide H' d) := fun b o z => hide_of (e b o (fun m => by have q := h b m; rw [hide_not z] at q; cases q) (hide_some z)) (hide_not z)
def SO (as : List Addr) (t : TS) (ρ : Env1) (C : CP) (P : Env1 → CP → Prop) : Prop := ∀ (D : Ends) (σ : L2.St) (H : Hp) (d : Hid), Vw d H → (∀ a ∈ as, d a = true) → C (hide H d) H → Envs (hide H d) σ ρ →
  (∀ ρ' C' σ' H', P ρ' C' → ExB as H H' → Vw d H' → C' (hide H' d) H' → Envs (hide H' d) σ' ρ' → D.nx σ' H') → t D σ H
def EM (as : List Addr) (te : TE) (ρ : Env1) (C : CP) (P : EV → CP → Prop) : Prop := ∀ (σ : L2.St) (H : Hp) (d : Hid), Vw d H → (∀ a ∈ as, d a = true) → C (hide H d) H → Envs (hide H d) σ ρ →
  ∀ Q : VK, (∀ x C' v H', P x C' → ExB as H H' → Vw d H' → C' (hide H' d) H' → Dv (hide H' d) v x → Q v H') → te σ H Q
abbrev is2 {α : Type} (ρ' : α) (C' : CP) : α → CP → Prop := fun r c => r = ρ' ∧ c = C'
section
variable {K : PySem.W.Frag} {as : List Addr} {ρ ρ1 ρ2 : Env1} {C C1 C2 : CP} {P P1 P2 : Env1 → CP → Prop} {PV PW : EV → CP → Prop} {ta tb te td tk tv ty : TE} {t u : TS} {x y : EV} {g : TG} {wi : TI}
theorem so_sn (h : SN t ρ ρ1) (c : CPok as C) : SO as t ρ C (is2 ρ1 C) := fun D σ H d w o cc en q => h D σ H d w en fun σ' H' e en' => q ρ1 C σ' H' ⟨rfl, rfl⟩ (.of e) (w.mono e) (c _ _ _ _ cc (exh e) fun a _ ob z => e a ob z) en'
theorem so_seq (h : SO as t ρ C P) (k : ∀ r c, P r c → SO as u r c P1) : SO as (tSeq t u) ρ C P1 := fun D σ H d w o cc en q => h _ σ H d w o cc en fun r c σ' H' p e w' cc' en' => k r c p D σ' H' d w' o cc' en' fun r2 c2 σ2 H2 p2 e2 => q r2 c2 σ2 H2 p2 (e.trans e2)
theorem so_next (p : P ρ C) : SO as tNext ρ C P := fun D σ H d w o cc en q => q ρ C σ H p (.refl _ _) w cc en
theorem so_one (h : SO as t ρ C P) : SO as (tSeq t tNext) ρ C P := so_seq h fun r c p => so_next p
theorem so_weak (h : SO as t ρ C P) (k : ∀ r c, P r c → ∃ r', Le r' r ∧ P1 r' c) : SO as t ρ C P1 := fun D σ H d w o cc en q => h D σ H d w o cc en fun r c σ' H' p e w' cc' en' => let ⟨r', l, p'⟩ := k r c p; q r' c σ' H' p' e w' cc' (en'.weak l)
theorem so_is (h : SO as t ρ C (is2 ρ1 C1)) (l : Le ρ2 ρ1) (p : P ρ2 C1) : SO as t ρ C P := so_weak h fun r c ⟨e1, e2⟩ => ⟨ρ2, e1 ▸ l, e2 ▸ p⟩
theorem em_ee (h : EvE te ρ x) (c : CPok as C) : EM as te ρ C (is2 x C) := fun σ H d w o cc en Q q => h σ H d w en _ fun v H' e dv => q x C v H' ⟨rfl, rfl⟩ (.of e) (w.mono e) (c _ _ _ _ cc (exh e) fun a _ ob z => e a ob z) dv
theorem so_asg {i : Nat} (h : EM as te ρ C PV) (k : ∀ x c, PV x c → P (ρ.set i (some x)) c) : SO as (tAsg te (gName i)) ρ C P := fun D σ H d w o cc en q => h σ H d w o cc en _ fun x c v H' p e w' cc' dv => q _ c _ H' (k x c p) e w' cc' ((en.mono (e.hide o)).set dv i)
theorem so_for {ds : List PyData} (inv : Nat → Env1 → CP → Prop) (hw : WiE wi ρ ds) (hc : CPok as C) (h0 : inv 0 ρ C)
    (hs : ∀ i d r c, ds[i]? = some d → inv i r c → CPok as c ∧ ∃ js ρ1, GE g js r (.d d) ρ1 ∧ SO as t ρ1 c (inv (i + 1))) : SO as (tFor wi g t) ρ C (inv ds.length) := fun D σ H d w o cc en q => hw σ H d w en _ fun J H1 e wk =>
  for_it wk (fun i σ' H' => ∃ r c, inv i r c ∧ ExB as H1 H' ∧ Vw d H' ∧ c (hide H' d) H' ∧ Envs (hide H' d) σ' r) ⟨ρ, C, h0, .refl _ _, w.mono e, hc _ _ _ _ cc (exh e) fun a _ ob z => e a ob z, en.mono (exh e)⟩
    (fun i σ' H' _ ⟨r, c, p, e2, w2, _⟩ => ⟨d, w2, e2.hide o⟩)
    (fun i x σ' H2 H3 hi ⟨r, c, p, e2, w2, cc2, en2⟩ y => by
      obtain ⟨e3, dt, hdi, dd⟩ := y
      obtain ⟨ck, js, ρ1, h1, h2⟩ := hs i dt r c hdi p
      refine h1 x σ' H3 d _ (en2.mono (exh e3)) (dd d w2 (e2.hide o)) fun σ2 en3 _ => h2 _ σ2 H3 d (w2.mono e3) o (ck _ _ _ _ cc2 (exh e3) fun a _ ob z => e3 a ob z) en3 fun r2 c2 σ3 H4 p2 e4 w4 cc4 en4 => ⟨r2, c2, p2, (e2.trans (.of e3)).trans e4, w4, cc4, en4⟩)
    fun σ' H' ⟨r, c, p, e2, w2, cc2, en2⟩ => q r c σ' H' p ((ExB.of e).trans e2) w2 cc2 en2
/-- an owned dict, an owned list, and what else is owned -/
def dC (a : Addr) (kvs : List (List Int × PyData)) (C : CP) : CP := fun G H => (∃ es, H a = some (.dT es) ∧ Ent G es kvs) ∧ C G H
def lC (a : Addr) (ds : List PyData) (C : CP) : CP := fun G H => (∃ xs, H a = some (.lst xs) ∧ DhA G xs ds) ∧ C G H
def noC : CP := fun _ _ => True
theorem ok_noC (as : List Addr) : CPok as noC := fun _ _ _ _ _ _ _ => trivial
theorem ok_dC {a : Addr} {kvs : List (List Int × PyData)} (ha : a ∈ as) (h : CPok as C) : CPok as (dC a kvs C) := fun G G' H H' ⟨⟨es, e1, e2⟩, c⟩ e k => ⟨⟨es, k a ha _ e1, e2.mono (Sx.of e)⟩, h _ _ _ _ c e k⟩
theorem ok_lC {a : Addr} {ds : List PyData} (ha : a ∈ as) (h : CPok as C) : CPok as (lC a ds C) := fun G G' H H' ⟨⟨es, e1, e2⟩, c⟩ e k => ⟨⟨es, k a ha _ e1, e2.mono (Sx.of e)⟩, h _ _ _ _ c e k⟩
theorem CPok.more {bs : List Addr} (h : CPok as C) (s : ∀ a ∈ as, a ∈ bs) : CPok bs C := fun G G' H H' c e k => h G G' H H' c e fun a m => k a (s a m)
/-- a stands for one owned thing more -/
theorem exB_upd {a : Addr} {H : Hp} {o : HO} (ha : a ∈ as) : ExB as H (upd H a o) := fun b ob n z => by
  have : b ≠ a := fun e => n (e ▸ ha)
  rw [upd_ne this]
  exact z
theorem vw_own {a : Addr} {H : Hp} {d : Hid} {o : HO} (w : Vw d H) (n : ∀ xs, o ≠ .tup xs) : Vw d (upd H a o) := fun b hb => by
  by_cases e : b = a
  · subst e
    exact ⟨o, upd_same, n⟩
  · obtain ⟨ob, z, q⟩ := w b hb
    exact ⟨ob, by rw [upd_ne e]; exact z, q⟩
theorem hide_own {a : Addr} {H : Hp} {d : Hid} {o : HO} (h : d a = true) : hide (upd H a o) d = hide H d := by
  funext b
  unfold hide
  by_cases e : d b = true
  · rw [if_pos e, if_pos e]
  · rw [if_neg e, if_neg e, upd_ne]
    rintro rfl
    exact e h
/-- found[k] = v -/
theorem so_put {a : Addr} {i : Nat} {kvs : List (List Int × PyData)} (ha : a ∉ as) (hi : ρ[i]? = some (some (.a a))) (hv : EM (a :: as) tv ρ (dC a kvs C) PV)
    (hP : ∀ x c, PV x c → ∃ y k c0, x = .d y ∧ c = dC a kvs c0 ∧ CPok as c0 ∧ EvE ty ρ (.d (keyD k)) ∧ kvs.length ≤ 50000 ∧ P ρ (dC a (put kvs k y) c0)) : SO (a :: as) (sDPut (tVar i) ty tv) ρ (dC a kvs C) P := fun D σ H d w o cc en q =>
  hv σ H d w o cc en _ fun x c v H1 p e w1 c1 dv => by
    obtain ⟨y, k, c0, rfl, rfl, ck, hk, hl, hp⟩ := hP x c p
    have en1 := en.mono (e.hide o)
    obtain ⟨va, hva, eva⟩ := en.get hi
    cases eva
    refine ⟨.ref a, hva, hk σ H1 d w1 en1 _ fun kv H2 e2 dk => ?_⟩
    obtain ⟨b, rfl, hb⟩ := dh_key dk
    obtain ⟨⟨es, he, ent⟩, cc0⟩ := c1
    have e3 : H2 a = some (.dT es) := e2 _ _ he
    refine ⟨a, _, rfl, DPut.t e3 (hide_some hb) ?_, ?_⟩
    · rw [ent.len, sizeLine_eq]
      omega
    · have da : d a = true := o a List.mem_cons_self
      refine q ρ _ σ _ hp (e.trans ((ExB.of e2).trans (exB_upd List.mem_cons_self))) (vw_own (w1.mono e2) nofun) ?_ ?_
      · rw [hide_own da]
        refine ⟨⟨_, upd_same, Ent.put (Dh.mono (Sx.of (exh e2)) dv) (ent.mono (Sx.of (exh e2)))⟩, ck _ _ _ _ cc0 (exh e2) fun b hb ob z => ?_⟩
        rw [upd_ne (by rintro rfl; exact ha hb)]
        exact e2 _ _ z
      · rw [hide_own da]
        exact en1.mono (exh e2)
/-- found[j] = v -/
theorem so_setL {a : Addr} {i j : Nat} {ds : List PyData} (ha : a ∉ as) (hi : ρ[i]? = some (some (.a a))) (hv : EM (a :: as) tv ρ (lC a ds C) PV)
    (hP : ∀ x c, PV x c → ∃ y c0, x = .d y ∧ c = lC a ds c0 ∧ CPok as c0 ∧ EvE ty ρ (iv (j : Int)) ∧ j < ds.length ∧ P ρ (lC a (ds.set j y) c0)) : SO (a :: as) (tAsg tv (gSub (tVar i) ty rSetL)) ρ (lC a ds C) P := fun D σ H d w o cc en q =>
  hv σ H d w o cc en _ fun x c v H1 p e w1 c1 dv => by
    obtain ⟨y, c0, rfl, rfl, ck, hk, hl, hp⟩ := hP x c p
    have en1 := en.mono (e.hide o)
    obtain ⟨va, hva, eva⟩ := en.get hi
    cases eva
    refine ⟨.ref a, hva, hk σ H1 d w1 en1 _ fun kv H2 e2 dk => ?_⟩
    cases dk
    obtain ⟨⟨xs, he, ent⟩, cc0⟩ := c1
    have e3 : H2 a = some (.lst xs) := e2 _ _ he
    refine ⟨a, xs, j, j, rfl, rfl, e3, ?_, ?_⟩
    · have := ent.len
      unfold ixN
      simp
      omega
    · have da : d a = true := o a List.mem_cons_self
      refine q ρ _ σ _ hp (e.trans ((ExB.of e2).trans (exB_upd List.mem_cons_self))) (vw_own (w1.mono e2) nofun) ?_ ?_
      · rw [hide_own da]
        refine ⟨⟨_, upd_same, ?_⟩, ck _ _ _ _ cc0 (exh e2) fun b hb ob z => ?_⟩
        · have s1 : ∀ {xs : List V} {ds : List PyData} {j : Nat}, DhA (hide H2 d) xs ds → DhA (hide H2 d) (xs.set j v) (ds.set j y) := by
            intro xs ds j h
            have dv2 := Dh.mono (Sx.of (exh e2)) dv
            induction ds generalizing xs j with
            | nil => cases h; exact .nil
            | cons d0 ds ih =>
              cases h with
              | cons h1 h2 =>
                cases j with
                | zero => exact .cons dv2 h2
                | succ j => exact .cons h1 (ih h2)
          exact s1 (ent.mono (Sx.of (exh e2)))
        · rw [upd_ne (by rintro rfl; exact ha hb)]
          exact e2 _ _ z
      · rw [hide_own da]
        exact en1.mono (exh e2)
/-- a is told again -/
def lay (d : Hid) (a : Addr) : Hid := fun b => d b && !decide (b = a)
theorem lay_le {d : Hid} {a : Addr} {b : Addr} (h : lay d a b = true) : d b = true := by unfold lay at h; rw [Bool.and_eq_true] at h; exact h.1
theorem lay_at {d : Hid} {a : Addr} : lay d a a = false := by simp [lay]
theorem lay_ex {d : Hid} {a : Addr} {H : Hp} : Ex (hide H d) (hide H (lay d a)) := fun b o z => hide_of (hide_some z) (by unfold lay; rw [hide_not z]; rfl)
theorem Vw.lay {d : Hid} {a : Addr} {H : Hp} (w : Vw d H) : Vw (lay d a) H := fun b hb => w b (lay_le hb)
/-- the value is a number or a text, a tuple of such: what is owned may be read -/
theorem em_open {a : Addr} {i : Nat} {kvs : List (List Int × PyData)} {y : PyData} (hi : ρ[i]? = some (some (.a a))) (h : EvE tv (ρ.set i (some (.t kvs))) (.d y)) (hn : noList y = true) (c : CPok (a :: as) C) : EM (a :: as) tv ρ (dC a kvs C) (is2 (.d y) (dC a kvs C)) := fun σ H d w o cc en Q q => by
  obtain ⟨va, hva, eva⟩ := en.get hi
  cases eva
  obtain ⟨es, he, ent⟩ := cc.1
  have h1 : Dv (hide H (lay d a)) (.ref a) (.t kvs) := ⟨a, es, rfl, hide_of he lay_at, ent.mono (Sx.of lay_ex)⟩
  refine h σ H (lay d a) w.lay (Envs.putAt h1 hva (en.mono lay_ex)) _ fun v H2 e dv => ?_
  have dv' : Dh H2 v y := Dh.mono (Sx.of fun b o z => hide_some z) dv
  exact q _ _ v H2 ⟨rfl, rfl⟩ (.of e) (w.mono e) (ok_dC List.mem_cons_self c _ _ _ _ cc (exh e) fun b _ ob z => e b ob z) (Dh.view (w.mono e) dv' hn)
/-- a new thing, owned -/
theorem own_new {a : Addr} {H : Hp} {d : Hid} {ob : HO} {σ : L2.St} {i : Nat} (w : Vw d H) (hn : H a = none) (n : ∀ xs, ob ≠ .tup xs) (en : Envs (hide H d) σ ρ) :
    Vw (hid1 d a) (upd H a ob) ∧ Ex (hide H d) (hide (upd H a ob) (hid1 d a)) ∧ Envs (hide (upd H a ob) (hid1 d a)) (σ.set i (some (.ref a))) (ρ.set i (some (.a a))) := by
  have e : Ex H (upd H a ob) := Ex.new hn
  have e2 := hide1_new (d := d) hn e
  have h : Dv (hide (upd H a ob) (hid1 d a)) (.ref a) (.a a) := rfl
  exact ⟨(w.mono e).one upd_same n, e2, (en.mono e2).set h i⟩
/-- .. told at last -/
theorem own_end {a : Addr} {ob : HO} {H0 H2 : Hp} {d : Hid} {σ : L2.St} {i : Nat} {x : EV} (w : Vw d H0) (hn : H0 a = none) (e1 : ExB [a] (upd H0 a ob) H2) (en : Envs (hide H2 (hid1 d a)) σ ρ1) (hi : ρ1[i]? = some (some (.a a))) (hx : Dv (hide H2 d) (.ref a) x) :
    Ex H0 H2 ∧ Vw d H2 ∧ Envs (hide H2 d) σ (ρ1.set i (some x)) := by
  have e : Ex H0 H2 := fun b o z => e1 b o (fun m => by
    rw [List.mem_singleton.mp m, hn] at z
    cases z) (by
    rw [upd_ne]
    · exact z
    · rintro rfl
      rw [hn] at z
      cases z)
  obtain ⟨v, hv, ev⟩ := en.get hi
  cases ev
  exact ⟨e, w.mono e, Envs.putAt hx hv (en.mono hide1_le)⟩
theorem own_dict {i : Nat} {kvs : List (List Int × PyData)} {u : TS} {r1 : Addr → Env1} (h2 : ∀ a, SO [a] t (ρ.set i (some (.a a))) (dC a [] noC) (is2 (r1 a) (dC a kvs noC))) (h1 : ∀ a, (r1 a)[i]? = some (some (.a a)) ∧ (r1 a).set i (some (.t kvs)) = ρ2)
    (D : Ends) (σ : L2.St) (H : Hp) (d : Hid) (w : Vw d H) (en : Envs (hide H d) σ ρ) (q : ∀ σ' H', Ex H H' → Vw d H' → Envs (hide H' d) σ' ρ2 → u D σ' H') : tSeq (tAsg tDNewT (gName i)) (tSeq t u) D σ H := fun p hp => by
  obtain ⟨w1, e1, en1⟩ := own_new (i := i) (ob := .dT []) w hp nofun en
  refine h2 p _ _ _ (hid1 d p) w1 (fun b hb => by rw [List.mem_singleton.mp hb]; exact hid1_self) ⟨⟨[], upd_same, .nil⟩, trivial⟩ en1 fun r c σ' H' ⟨er, ec⟩ e w2 cc en2 => ?_
  subst er ec
  obtain ⟨k1, k2⟩ := h1 p
  obtain ⟨es, he, ent⟩ := cc.1
  obtain ⟨a1, a2, a3⟩ := own_end (x := .t kvs) w hp e en2 k1 ⟨p, es, rfl, hide_of he (w.fresh hp), ent.mono (Sx.of hide1_le)⟩
  rw [k2] at a3
  exact q σ' H' a1 a2 a3
theorem sr_ownD {i : Nat} {kvs : List (List Int × PyData)} {u : TS} {r1 : Addr → Env1} {r : EV} (h2 : ∀ a, SO [a] t (ρ.set i (some (.a a))) (dC a [] noC) (is2 (r1 a) (dC a kvs noC))) (h1 : ∀ a, (r1 a)[i]? = some (some (.a a)) ∧ (r1 a).set i (some (.t kvs)) = ρ2)
    (h3 : SR u ρ2 r) : SR (tSeq (tAsg tDNewT (gName i)) (tSeq t u)) ρ r := fun D σ H d w en q => own_dict h2 h1 D σ H d w en fun σ' H' e w' en' => h3 D σ' H' d w' en' fun v H2 e2 => q v H2 (e.trans e2)
theorem sn_ownD {i : Nat} {kvs : List (List Int × PyData)} {u : TS} {r1 : Addr → Env1} (h2 : ∀ a, SO [a] t (ρ.set i (some (.a a))) (dC a [] noC) (is2 (r1 a) (dC a kvs noC))) (h1 : ∀ a, (r1 a)[i]? = some (some (.a a)) ∧ (r1 a).set i (some (.t kvs)) = ρ2)
    (h3 : SN u ρ2 ρ1) : SN (tSeq (tAsg tDNewT (gName i)) (tSeq t u)) ρ ρ1 := fun D σ H d w en q => own_dict h2 h1 D σ H d w en fun σ' H' e w' en' => h3 D σ' H' d w' en' fun v H2 e2 => q v H2 (e.trans e2)
/-- an expression that makes a new list -/
def EvN (te : TE) (ρ : Env1) (ds : List PyData) : Prop := ∀ (σ : L2.St) (H : Hp) (d : Hid), Vw d H → Envs (hide H d) σ ρ → ∀ Q : VK, (∀ p xs H2, Ex H H2 → H2 p = none → DhA (hide H2 d) xs ds → Q (.ref p) (upd H2 p (.lst xs))) → te σ H Q
theorem en_cat {ds es : List PyData} (ha : EvE ta ρ (.d (.list ds))) (hb : EvE tb ρ (.d (.list es))) (hl : ds.length + es.length ≤ 100000) : EvN (tOp rCat ta tb) ρ (ds ++ es) := fun σ H d w en Q q =>
  ha σ H d w en _ fun u H1 e1 d1 => hb σ H1 d (w.mono e1) (en.mono (exh e1)) _ fun v H2 e2 d2 => by
    have d1' : Dh (hide H1 d) u (.list ds) := d1
    have d2' : Dh (hide H2 d) v (.list es) := d2
    have d1'' := d1'.mono (Sx.of (exh e2))
    cases d1'' with
    | lst hp t =>
      cases d2' with
      | lst hp2 t2 => exact ⟨_, _, _, _, rfl, rfl, hide_some hp, hide_some hp2, sz_of (by rw [t.len, t2.len]; exact hl), fun p hn => q p _ H2 (e1.trans e2) hn (t.app t2)⟩
theorem en_nil : EvN (tLst tNil) ρ [] := fun σ H d w en Q q => ⟨Nat.zero_le _, fun p hp => q p [] H (Ex.refl H) hp .nil⟩
theorem own_list {i : Nat} {ds es : List PyData} {u : TS} {r1 : Addr → Env1} (h0 : EvN te ρ ds) (h2 : ∀ a, SO [a] t (ρ.set i (some (.a a))) (lC a ds noC) (is2 (r1 a) (lC a es noC))) (h1 : ∀ a, (r1 a)[i]? = some (some (.a a)) ∧ (r1 a).set i (some (.d (.list es))) = ρ2)
    (D : Ends) (σ : L2.St) (H : Hp) (d : Hid) (w : Vw d H) (en : Envs (hide H d) σ ρ) (q : ∀ σ' H', Ex H H' → Vw d H' → Envs (hide H' d) σ' ρ2 → u D σ' H') : tSeq (tAsg te (gName i)) (tSeq t u) D σ H := h0 σ H d w en _ fun p xs H0 e0 hp hx => by
  have w0 := w.mono e0
  obtain ⟨w1, e1, en1⟩ := own_new (i := i) (ob := .lst xs) w0 hp nofun (en.mono (exh e0))
  refine h2 p _ _ _ (hid1 d p) w1 (fun b hb => by rw [List.mem_singleton.mp hb]; exact hid1_self) ⟨⟨xs, upd_same, hx.mono (Sx.of e1)⟩, trivial⟩ en1 fun r c σ' H' ⟨er, ec⟩ e w2 cc en2 => ?_
  subst er ec
  obtain ⟨k1, k2⟩ := h1 p
  obtain ⟨ys, he, ent⟩ := cc.1
  obtain ⟨a1, a2, a3⟩ := own_end (x := .d (.list es)) w0 hp e en2 k1 (.lst (hide_of he (w0.fresh hp)) (ent.mono (Sx.of hide1_le)))
  rw [k2] at a3
  exact q σ' H' (e0.trans a1) a2 a3
theorem sr_ownL {i : Nat} {ds es : List PyData} {u : TS} {r1 : Addr → Env1} {r : EV} (h0 : EvN te ρ ds) (h2 : ∀ a, SO [a] t (ρ.set i (some (.a a))) (lC a ds noC) (is2 (r1 a) (lC a es noC))) (h1 : ∀ a, (r1 a)[i]? = some (some (.a a)) ∧ (r1 a).set i (some (.d (.list es))) = ρ2)
    (h3 : SR u ρ2 r) : SR (tSeq (tAsg te (gName i)) (tSeq t u)) ρ r := fun D σ H d w en q => own_list h0 h2 h1 D σ H d w en fun σ' H' e w' en' => h3 D σ' H' d w' en' fun v H2 e2 => q v H2 (e.trans e2)
/-- a locked dict is walked while another is owned -/
theorem so_lock {j : Nat} {kvs : List (List Int × PyData)} {P : Addr → Env1 → CP → Prop} (hj : ρ[j]? = some (some (.t kvs))) (c0 : ∀ b H d od, (∀ a ∈ as, d a = true) → C (hide H d) H → d b = false → (∃ es, H b = some (.dT es)) → C (hide (upd H b od) d) (upd H b od)) (h : ∀ a, SO as t ((noT ρ).set j (some (.z a kvs))) C (P a))
    (hP : ∀ a r c, P a r c → r[j]? = some (some (.z a kvs)) ∧ (∀ b H d od, (∀ a ∈ as, d a = true) → c (hide H d) H → d b = false → (∃ o es, H b = some (.frz o (.dT es))) → c (hide (upd H b od) d) (upd H b od)) ∧ P1 ((noZ r).set j (some (.t kvs))) c) : SO as (tLock t) ρ C P1 := fun D σ H d w o cc en q => by
  obtain ⟨v, hs, a, es, rfl, ha, ent⟩ := en.get hj
  have na := hide_not ha
  have nas : a ∉ as := fun m => by
    have := o a m
    rw [na] at this
    cases this
  refine ⟨a, .dT es, hide_some ha, trivial, fun od => h a _ σ _ d (vw_upd w na) o (c0 a H d _ o cc na ⟨es, hide_some ha⟩) (envs_lock en hs ha ent) fun r c σ' H' p e w' cc' en' => ?_⟩
  have e2 : H' a = some (.frz od (.dT es)) := e a _ nas upd_same
  obtain ⟨k1, k2, k3⟩ := hP a r c p
  have kch : Ch a (hide H' d) (hide (upd H' a (.dT es)) d) := upd_at (u := .frz od (.dT es)) e2 ⟨fun _ z => (by cases z), fun _ z => (by cases z), fun _ _ z => (by cases z)⟩ na
  refine ⟨e2, q _ c σ' _ k3 (fun b ob hb z => ?_) (vw_upd w' na) (k2 a H' d _ o cc' na ⟨od, es, e2⟩) ?_⟩
  · by_cases hba : b = a
    · subst hba
      rw [hide_some ha] at z
      cases z
      exact upd_same
    · rw [upd_ne hba]
      exact e b ob hb (by rw [upd_ne hba]; exact z)
  · obtain ⟨v2, hv2, o2, es2, rfl, ha2, ent2⟩ := en'.get k1
    rw [hide_some ha2] at e2
    cases e2
    have h1 : Dv (hide (upd H' a (.dT es)) d) (.ref a) (.t kvs) := ⟨a, es, rfl, hide_of upd_same na, Ent.ch kch ent2⟩
    exact Envs.putAt h1 hv2 (en'.noZ_ch kch ⟨_, _, ha2⟩)
theorem so_putD {a : Addr} {i : Nat} {kvs : List (List Int × PyData)} {k : List Int} {y : PyData} (hi : ρ[i]? = some (some (.a a))) (hv : EM [a] tv ρ (dC a kvs noC) (is2 (.d y) (dC a kvs noC))) (hk : EvE ty ρ (.d (keyD k))) (hl : kvs.length ≤ 50000) :
    SO [a] (sDPut (tVar i) ty tv) ρ (dC a kvs noC) (is2 ρ (dC a (put kvs k y) noC)) := so_put (by simp) hi hv fun x c ⟨e1, e2⟩ => ⟨y, k, noC, e1, e2, ok_noC _, hk, hl, rfl, rfl⟩
theorem so_setLD {a : Addr} {i j : Nat} {ds : List PyData} {y : PyData} (hi : ρ[i]? = some (some (.a a))) (hv : EM [a] tv ρ (lC a ds noC) (is2 (.d y) (lC a ds noC))) (hk : EvE ty ρ (iv (j : Int))) (hl : j < ds.length) :
    SO [a] (tAsg tv (gSub (tVar i) ty rSetL)) ρ (lC a ds noC) (is2 ρ (lC a (ds.set j y) noC)) := so_setL (by simp) hi hv fun x c ⟨e1, e2⟩ => ⟨y, noC, e1, e2, ok_noC _, hk, hl, rfl, rfl⟩
theorem dC_upd {a b : Addr} {kvs : List (List Int × PyData)} {H : Hp} {d : Hid} {od u : HO} (o : ∀ c ∈ [a], d c = true) (c : dC a kvs noC (hide H d) H) (hb : d b = false) (e : H b = some u) (hu : (∀ xs, u ≠ .lst xs) ∧ (∀ xs, u ≠ .tup xs) ∧ ∀ o xs, u ≠ .frz o (.tup xs)) : dC a kvs noC (hide (upd H b od) d) (upd H b od) := by
  obtain ⟨⟨es, h1, h2⟩, _⟩ := c
  refine ⟨⟨es, ?_, Ent.ch (upd_at e hu hb) h2⟩, trivial⟩
  rw [upd_ne]
  · exact h1
  · rintro rfl
    have := o a List.mem_cons_self
    rw [hb] at this
    cases this
/-- a, b = x, y by a pair that is made -/
theorem sn_pair {i j : Nat} {ta : TA} {x y : EV} (h : EvAs ta ρ [x, y]) : SN (tAsg (tTup ta) (gTup K 2 (gCons (gName i) (gCons (gName j) gNil)))) ρ ((ρ.set i (some x)).set j (some y)) := fun D σ H hd w en q => h σ H hd w en _ fun vs H1 e d => by
  obtain ⟨u, v, rfl, d1, d2⟩ := dv2 d
  refine ⟨by show 2 ≤ sizeLine; decide, fun p hp => ⟨p, [u, v], rfl, .inl (.inl upd_same), rfl, u, _, rfl, v, _, rfl, rfl, ?_⟩⟩
  have e2 : Ex H1 (upd H1 p (.tup [u, v])) := Ex.new hp
  exact q _ _ (e.trans e2) (((en.mono (exh (e.trans e2))).set (d1.mono (exh e2)) i).set (d2.mono (exh e2)) j)
/-- {k: v} -/
theorem ee_disp {k : List Int} {y : PyData} (hk : EvE tk ρ (.d (keyD k))) (hv : EvE tv ρ (.d y)) : EvE (tDispT tk tv) ρ (.t [(k, y)]) := fun σ H d w en Q q => fun p hp => by
  have e0 : Ex H (upd H p (.dT [])) := Ex.new hp
  have w0 : Vw (hid1 d p) (upd H p (.dT [])) := (w.mono e0).one upd_same nofun
  have s0 := hide1_new (d := d) hp e0
  refine hk σ _ (hid1 d p) w0 (en.mono s0) _ fun u H1 e1 d1 => hv σ H1 (hid1 d p) (w0.mono e1) ((en.mono s0).mono (exh e1)) _ fun v H2 e2 d2 => ?_
  obtain ⟨b, rfl, hb⟩ := dh_key d1
  have e12 := e1.trans e2
  have hp2 : H2 p = some (.dT []) := e12 _ _ upd_same
  refine ⟨v, b, kI k, rfl, e2 _ _ (hide_some hb), hp2, q _ _ (Ex.mut (e0.trans e12) hp) ⟨p, _, rfl, hide_of upd_same (w.fresh hp), .cons ⟨rfl, ?_⟩ .nil⟩⟩
  have d3 : Dh (hide (upd H2 p (.dT [(kI k, v)])) (hid1 d p)) v y := by
    rw [hide1_upd]
    exact d2
  exact d3.mono (Sx.of hide1_le)
end
end Pz
namespace Pz
open PySem PySem.Spec PyProof.Rows L2 Evl StX
/-! ### poly results -/
def leT (a b : List Int × Int) : Bool := PySem.W.dataLe false id (tD a) (tD b)
def tidyK (p : Nat) (q : List (List Int × Int)) : List (List Int × Int) := ((q.filter fun t => !decide (t.2 % (p : Int) = 0)).map fun t => (t.1, t.2 % (p : Int))).mergeSort leT
abbrev eI (t : List Int × Int) : List Int × PyData := (t.1, .int t.2)
theorem alike_ints : ∀ a b : List Int, PySem.W.alikeAll (a.map .int) (b.map .int) = true
  | [], _ => by simp [PySem.W.alikeAll]
  | _ :: _, [] => by simp [PySem.W.alikeAll]
  | x :: a, y :: b => by simp [PySem.W.alikeAll, PySem.W.alike, alike_ints a b]
theorem alike_tD (a b : List Int × Int) : PySem.W.alike (tD a) (tD b) = true := by simp [PySem.W.alikeAll, PySem.W.alike, keyD, alike_ints]
theorem depth_ints : ∀ a : List Int, PyData.depthAll (a.map .int) = 0
  | [] => rfl
  | x :: a => by simp [PyData.depthAll, PyData.depth, depth_ints a]
theorem sortOk_tD {q : List (List Int × Int)} (h : q.length ≤ 50000) : SortOk (q.map tD) := by
  refine ⟨fun d hd d' hd' => ?_, .inl fun d hd => ?_, fun d hd => ?_, ?_⟩
  · obtain ⟨a, _, rfl⟩ := List.mem_map.mp hd
    obtain ⟨b, _, rfl⟩ := List.mem_map.mp hd'
    exact alike_tD a b
  · obtain ⟨a, _, rfl⟩ := List.mem_map.mp hd
    exact ⟨_, _, rfl⟩
  · obtain ⟨a, _, rfl⟩ := List.mem_map.mp hd
    simp [PyData.depthAll, PyData.depth, keyD, depth_ints]
  · rw [List.length_map, sizeLine_eq]
    omega
theorem sortD_tD (q : List (List Int × Int)) : sortD (q.map tD) = (q.mergeSort leT).map tD := by
  unfold sortD
  exact (List.map_mergeSort (f := tD) (r := leT) (s := PySem.W.dataLe false id) fun _ _ _ _ => rfl).symm
section
variable {w : World} {P : Program} {mg : Str → Option Value} {K : PySem.W.Frag} {base : Heap}
abbrev s_tidy : Stmt := topP 25
theorem sc_tidy : FnScope ["prime", "rests", "powers", "rest"] ["prime", "rests"] (defScope s_tidy) := ⟨rfl, rfl, rfl, by decide +kernel, rfl, by decide +kernel, by decide +kernel⟩
def R_tidy : List EV → EV → Prop := fun xs r => ∃ (p : Nat) (q : List (List Int × Int)), xs = [iv (p : Int), .t (q.map eI)] ∧ 0 < p ∧ q.length ≤ 5000 ∧ r = .f ((tidyK p q).map tD)
theorem ok_tidy (T : Txt K mg) (D : DefAt K mg "tidy" s_tidy ["prime", "rests"]) : Ok P w K mg base "tidy" 1 (spD R_tidy) := by
  refine ok_sr D sc_tidy (fun xs r h => by obtain ⟨p, n, rfl, _⟩ := h; rfl) fun f cd A out s H hG hr => ?_
  refine ⟨_, pss_one (ps_ret (pe_callTy cr_tupF (by rfl) T.m_tuple boot_tuple (pa_cons (pe_callB (cr_sortD hr.units) (by rfl) T.m_sorted boot_sorted (pa_cons (pe_lock (pe_lc (own := [("powers", 2), ("rest", 3)]) rfl sc_tidy.nd (pi_itemsT (pv 1)) (blkOk_by (N := ["prime", "rests", "powers", "rest"]) (sc := defScope s_tidy) (by decide +kernel)) (fun _ _ _ _ _ => (pg_tupK (K := K) (n := 2) rfl rfl (pgs_cons (pg_name (i := 2) sc_tidy.nd rfl (Or.inl rfl)) (pgs_cons (pg_name (i := 3) sc_tidy.nd rfl (Or.inl rfl)) pgs_nil)))) (fun _ _ _ _ _ => pts_one (pt_cmpR op_ne (pe_op op_mod (pv 3) (pv 0)) (pe_int) (nomark _))) (fun _ _ _ _ _ => (pe_tup (pa_cons (pv 2) (pa_cons (pe_op op_mod (pv 3) (pv 0)) pa_nil)))))) pa_nil)) pa_nil))), ?_⟩
  rintro xs r ⟨p, q, rfl, hp, hq, rfl⟩
  refine sr_one (sr_ret (ee_tupF (ee_is (ee_sortD (ds := ((q.filter fun t => !decide (t.2 % (p : Int) = 0)).map fun t => (t.1, t.2 % (p : Int))).map tD) (ee_is (ee_lock (j := 1) (kvs := q.map eI) rfl (fun a => ee_lc q tD (fun t => !decide (t.2 % (p : Int) = 0)) (fun t => tD (t.1, t.2 % (p : Int))) ?_ (by omega) fun t ht => ⟨_, _, ge_two, by decide, eb_test (ee_neI (ee_mod (ee_var rfl) (ee_var rfl) (by omega)) ee_int), fun _ =>
    ee_tup (ds := [keyD t.1, .int (t.2 % (p : Int))]) (ea_cons (ee_var rfl) (ea_cons (ee_mod (ee_var rfl) (ee_var rfl) (by omega)) ea_nil)) (by simp)⟩) trivial) ?_) (sortOk_tD ?_)) ?_)))
  · have h : WiE (iItemsT (tVar 1)) _ ((q.map eI).map prD) := wi_itemsT (ρ := List.set (noT [some (iv (p : Int)), some (.t (q.map eI)), none, none]) 1 (some (.z a (q.map eI)))) (ee_var rfl)
    rw [List.map_map] at h
    exact h
  · simp [Function.comp_def]
  · rw [List.length_map]
    exact Nat.le_trans (List.length_filter_le _ _) (by omega)
  · rw [sortD_tD]
    rfl
theorem so_forM {α : Type} {as : List Addr} {C : CP} {ρ : Env1} {t : TS} {wi : TI} {g : TG} (xs : List α) (enc : α → PyData) (inv : Nat → Env1 → CP → Prop) (hw : WiE wi ρ (xs.map enc)) (hc : CPok as C) (h0 : inv 0 ρ C)
    (hs : ∀ i x r c, xs[i]? = some x → inv i r c → CPok as c ∧ ∃ js ρ1, GE g js r (.d (enc x)) ρ1 ∧ SO as t ρ1 c (inv (i + 1))) : SO as (tFor wi g t) ρ C (inv xs.length) := by
  have h := so_for (t := t) (g := g) (ds := xs.map enc) inv hw hc h0 fun i d r c hd p => by
    obtain ⟨x, hx, rfl⟩ := map_of hd
    exact hs i x r c hx p
  rw [List.length_map] at h
  exact h
theorem look_map (q : List (List Int × Int)) (k : List Int) : look (q.map eI) k = (look q k).map .int := by
  unfold look
  induction q with
  | nil => rfl
  | cons t q ih =>
    rw [List.map_cons, List.find?_cons, List.find?_cons]
    by_cases h : t.1 = k
    · rw [decide_eq_true h]
      rfl
    · rw [decide_eq_false h]
      exact ih
theorem put_map (q : List (List Int × Int)) (k : List Int) (v : Int) : put (q.map eI) k (.int v) = (put q k v).map eI := by
  unfold put
  have e : ((q.map eI).any fun p => decide (p.1 = k)) = q.any fun p => decide (p.1 = k) := by
    rw [List.any_map]
    rfl
  rw [e]
  split
  · rw [List.map_map, List.map_map]
    apply List.map_congr_left
    intro t _
    show (if t.1 = k then (k, PyData.int v) else eI t) = eI (if t.1 = k then (k, v) else t)
    split <;> rfl
  · simp
theorem put_len (q : List (List Int × Int)) (k : List Int) (v : Int) : (put q k v).length ≤ q.length + 1 := by
  unfold put
  split <;> simp
def bump (p : Nat) (acc : List (List Int × Int)) (t : List Int × Int) : List (List Int × Int) := put acc (t.1.map fun e => lessP e p) ((look acc (t.1.map fun e => lessP e p)).getD 0 + t.2)
def foundK (p : Nat) (q : List (List Int × Int)) : List (List Int × Int) := q.foldl (bump p) []
def redK (p : Nat) (q : List (List Int × Int)) : List (List Int × Int) := tidyK p (foundK p q)
theorem foundK_len (p : Nat) (q : List (List Int × Int)) : (foundK p q).length ≤ q.length := by
  have : ∀ (q acc : List (List Int × Int)), (q.foldl (bump p) acc).length ≤ acc.length + q.length := by
    intro q
    induction q with
    | nil => intro acc; exact Nat.le_refl _
    | cons t q ih =>
      intro acc
      refine Nat.le_trans (ih _) ?_
      have := put_len acc (t.1.map fun e => lessP e p) ((look acc (t.1.map fun e => lessP e p)).getD 0 + t.2)
      unfold bump
      rw [List.length_cons]
      omega
  have h := this q []
  rw [List.length_nil, Nat.zero_add] at h; exact h
abbrev s_reduced_of : Stmt := topP 26
theorem sc_reduced_of : FnScope ["field", "poly", "found", "powers", "rest", "less", "power"] ["field", "poly"] (defScope s_reduced_of) := ⟨rfl, rfl, rfl, by decide +kernel, rfl, by decide +kernel, by decide +kernel⟩
def R_reduced_of : List EV → EV → Prop := fun xs r => ∃ (p n : Nat) (q : List (List Int × Int)), xs = [.d (fD p n), .d (pD q)] ∧ Fld p n ∧ (∀ t ∈ q, KeyOk n t.1) ∧ q.length ≤ 5000 ∧ r = .f ((redK p q).map tD)
theorem ok_reduced_of (T : Txt K mg) (D : DefAt K mg "reduced_of" s_reduced_of ["field", "poly"]) (O_less_power : Ok P w K mg base "less_power" 1 (spD R_less_power)) (O_tidy : Ok P w K mg base "tidy" 1 (spD R_tidy)) : Ok P w K mg base "reduced_of" 2 (spD R_reduced_of) := by
  refine ok_sr D sc_reduced_of (fun xs r h => by obtain ⟨p, n, q, rfl, _⟩ := h; rfl) fun f cd A out s H hG hr => ?_
  have hu := hu_of hr
  refine ⟨_, pss_cons (ps_set (i := 2) sc_reduced_of.nd rfl (Or.inl rfl) (pe_dnewT)) (pss_cons (ps_for PassesOwn.never rfl (pi_seqK (K := K) rfl (pv 1)) (pg_tupK (K := K) (n := 2) rfl rfl (pgs_cons (pg_name (i := 3) sc_reduced_of.nd rfl (Or.inl rfl)) (pgs_cons (pg_name (i := 4) sc_reduced_of.nd rfl (Or.inl rfl)) pgs_nil))) (pss_cons (ps_set (i := 5) sc_reduced_of.nd rfl (Or.inl rfl) (pe_callTy (cr_tupOfK (K := K) rfl) (by rfl) T.m_tuple boot_tuple (pa_cons (pe_lc (own := [("power", 6)]) (tt := tYes) rfl sc_reduced_of.nd (pi_seqK (K := K) rfl (pv 3)) (blkOk_by (N := ["field", "poly", "found", "powers", "rest", "less", "power"]) (sc := defScope s_reduced_of) (by decide +kernel)) (fun _ _ _ _ _ => (pg_name (i := 6) sc_reduced_of.nd rfl (Or.inl rfl))) (fun _ _ _ _ _ => pts_nil) (fun _ _ _ _ _ => (pe_ok O_less_power hG (hr.mono (by decide)) (by rfl) (pa_cons (pv 6) (pa_cons (pe_ix (ix_seqK (K := K) rfl) (pv 0) (pe_int) (fun _ _ => rfl)) pa_nil))))) pa_nil))) (pss_one (ps_dput hu (pv 2) (pv 5) (pe_op op_add (pe_dget2 hu (pv 2) (pv 5) (pe_int) ⟨rfl, rfl, rfl, rfl⟩) (pv 4)) rfl)))) (pss_one (ps_ret (pe_ok O_tidy hG (hr.mono (by decide)) (by rfl) (pa_cons (pe_ix (ix_seqK (K := K) rfl) (pv 0) (pe_int) (fun _ _ => rfl)) (pa_cons (pv 2) pa_nil)))))), ?_⟩
  rintro xs r ⟨p, n, q, rfl, hF, hk, hz, rfl⟩
  have h7 := hF.le7
  have h4 := hF.n4
  let RA : Addr → Env1 := fun a => [some (.d (fD p n)), some (.d (pD q)), some (.a a), none, none, none, none]
  refine sr_ownD (i := 2) (r1 := RA) (ρ2 := [some (.d (fD p n)), some (.d (pD q)), some (.t ((foundK p (q.take q.length)).map eI)), none, none, none, none]) (kvs := (foundK p (q.take q.length)).map eI) (fun a => so_forM q tD (fun i => is2 (RA a) (dC a ((foundK p (q.take i)).map eI) noC)) (wi_seq (ee_var rfl) (sv_t _)) (ok_dC List.mem_cons_self (ok_noC _)) ⟨rfl, rfl⟩ fun i t r c ht ⟨e1, e2⟩ => ?_) (fun a => ⟨rfl, rfl⟩) (sr_one (sr_ret (ee_cal (ea_cons (ee_p (ee_var rfl)) (ea_cons (ee_is (y := .t ((foundK p q).map eI)) (ee_var rfl) (by rw [List.take_length])) ea_nil)) ⟨p, foundK p q, rfl, by omega, Nat.le_trans (foundK_len p q) hz, rfl⟩)))
  subst e1 e2
  have hkt := hk t (List.mem_of_getElem? ht)
  have hd := ok_dC (kvs := (foundK p (q.take i)).map eI) (as := [a]) List.mem_cons_self (ok_noC _)
  have tk : q.take (i + 1) = q.take i ++ [t] := by rw [List.take_add_one, ht]; rfl
  have nx : foundK p (q.take (i + 1)) = bump p (foundK p (q.take i)) t := by
    unfold foundK
    rw [tk, List.foldl_append]
    rfl
  refine ⟨hd, _, _, ge_two, so_seq (so_sn (sn_asg (ee_is (ee_tupOf (ds := (t.1.map fun e => lessP e p).map .int) (ee_is (ee_lcm t.1 (fun e => .int e) (fun e => .int (lessP e p)) (wi_seq (ee_var rfl) (sv_t _)) (by have := hkt.len; omega) fun e _ => ⟨_, _, ge_name, by decide, ee_cal (ea_cons (ee_var rfl) (ea_cons (ee_p (ee_var rfl)) ea_nil)) ⟨e, p, rfl, by omega, rfl⟩⟩) (by simp))) rfl)) hd) fun r c ⟨e1, e2⟩ => ?_⟩
  subst e1 e2
  refine so_one (so_is (so_putD (a := a) (i := 2) (kvs := (foundK p (q.take i)).map eI) (k := t.1.map fun e => lessP e p) (y := .int ((look (foundK p (q.take i)) (t.1.map fun e => lessP e p)).getD 0 + t.2)) rfl (em_open (i := 2) rfl (ee_add (ee_is (ee_get2T (k := t.1.map fun e => lessP e p) (kvs := (foundK p (q.take i)).map eI) (d := .int 0) (ee_var rfl) (ee_var rfl) ee_int) ?_) (ee_var rfl)) rfl (ok_noC _)) (ee_var rfl) ?_) ((.cons (.inr rfl) (.cons (.inr rfl) (.cons (.inr rfl) (.cons (.inl rfl) (.cons (.inl rfl) (.cons (.inl rfl) (.cons (.inl rfl) .nil)))))))) ⟨rfl, ?_⟩)
  · rw [look_map]
    cases look (foundK p (q.take i)) (t.1.map fun e => lessP e p) <;> rfl
  · rw [List.length_map]
    have := foundK_len p (q.take i)
    rw [List.length_take] at this
    omega
  · rw [nx, put_map]
    rfl
end
end Pz
namespace Pz
open PySem PySem.Spec PyProof.Rows L2 Evl StX
/-! ### a poly by its values -/
abbrev lD (l : List Int) : PyData := .list (l.map .int)
/-- one number of a line -/
def coefK (p : Nat) (rs : List Int) (e : Nat) : Int := (0 - (rs.zipIdx.map fun q => q.1 * (((q.2 : Nat) : Int) ^ (p - 1 - e) % (p : Int))).sum) % (p : Int)
def lineT (p : Nat) (rs : List Int) (i : Nat) : List Int := (rs.getD 0 0 :: (List.range i).map fun j => coefK p rs (1 + j)) ++ List.replicate (p - 1 - i) 0
def lineK (p : Nat) (rs : List Int) : List Int := lineT p rs (p - 1)
theorem lineT_len (p : Nat) (rs : List Int) (i : Nat) : (lineT p rs i).length = 1 + i + (p - 1 - i) := by
  simp [lineT]; omega
theorem lineT_next {p : Nat} {rs : List Int} {i : Nat} (h : i < p - 1) : (lineT p rs i).set (1 + i) (coefK p rs (1 + i)) = lineT p rs (i + 1) := by
  have e : p - 1 - i = (p - 1 - (i + 1)) + 1 := by omega
  unfold lineT
  rw [e, List.replicate_succ, List.set_append_right _ _ (by simp; omega), List.range_succ, List.map_append]
  simp
  rw [show 1 + i - (i + 1) = 0 by omega]
  rfl
theorem enumD_map (l : List Int) : enumD (l.map .int) = l.zipIdx.map fun q => .tuple [.int ((q.2 : Nat) : Int), .int q.1] := by
  unfold enumD
  rw [List.zipIdx_map, List.map_map]
  rfl
section
variable {w : World} {P : Program} {mg : Str → Option Value} {K : PySem.W.Frag} {base : Heap}
theorem so_rng1 {as : List Addr} {C : CP} {ρ : Env1} {te : TE} {t : TS} {n j : Nat} (inv : Nat → Env1 → CP → Prop) (hw : EvE te ρ (iv (n : Int))) (hn : n ≤ 1000000) (hc : CPok as C) (h0 : inv 0 ρ C)
    (hs : ∀ i r c, i < n → inv i r c → CPok as c ∧ SO as t (r.set j (some (iv (i : Int)))) c (inv (i + 1))) : SO as (tFor (iRng1 (tCons te tNil)) (gName j) t) ρ C (inv n) := by
  have h := so_for (t := t) (g := gName j) (ds := rngD 0 (n : Int).toNat) inv (wi_rng1 (ea_cons hw ea_nil) (by omega) (by omega)) hc h0 fun i d r c hd p => by
    obtain ⟨lt, rfl⟩ := rngD_of hd
    obtain ⟨h1, h2⟩ := hs i r c (by omega) p
    rw [Int.zero_add]
    exact ⟨h1, _, _, ge_name, h2⟩
  rw [rngD_len, Int.toNat_natCast] at h
  exact h
theorem so_rng2 {as : List Addr} {C : CP} {ρ : Env1} {ta tb : TE} {t : TS} {m n j : Nat} (inv : Nat → Env1 → CP → Prop) (h1 : EvE ta ρ (iv (m : Int))) (h2 : EvE tb ρ (iv (n : Int))) (hmn : m ≤ n) (hn : n ≤ 1000000) (hc : CPok as C) (h0 : inv 0 ρ C)
    (hs : ∀ i r c, i < n - m → inv i r c → CPok as c ∧ SO as t (r.set j (some (iv ((m + i : Nat) : Int)))) c (inv (i + 1))) : SO as (tFor (iRng2 (tCons ta (tCons tb tNil))) (gName j) t) ρ C (inv (n - m)) := by
  have e : ((n : Int) - (m : Int)).toNat = n - m := by omega
  have h := so_for (t := t) (g := gName j) (ds := rngD (m : Int) ((n : Int) - (m : Int)).toNat) inv (wi_rng2 (ea_cons h1 (ea_cons h2 ea_nil)) (by omega) (by omega)) hc h0 fun i d r c hd p => by
    obtain ⟨lt, rfl⟩ := rngD_of hd
    obtain ⟨h1, h2⟩ := hs i r c (by omega) p
    rw [show ((m : Int) + (i : Int)) = ((m + i : Nat) : Int) by omega]
    exact ⟨h1, _, _, ge_name, h2⟩
  rw [rngD_len, e] at h
  exact h
abbrev s_line_poly : Stmt := topP 27
theorem sc_line_poly : FnScope ["prime", "rests", "found", "power", "total", "item", "rest"] ["prime", "rests"] (defScope s_line_poly) := ⟨rfl, rfl, rfl, by decide +kernel, rfl, by decide +kernel, by decide +kernel⟩
def R_line_poly : List EV → EV → Prop := fun xs r => ∃ (p : Nat) (rs : List Int), xs = [iv (p : Int), .d (lD rs)] ∧ 2 ≤ p ∧ p ≤ 7 ∧ rs.length = p ∧ r = .d (lD (lineK p rs))
theorem ok_line_poly (T : Txt K mg) (D : DefAt K mg "line_poly" s_line_poly ["prime", "rests"]) (O_raised : Ok P w K mg base "raised" 1 (spD R_raised)) : Ok P w K mg base "line_poly" 2 (spD R_line_poly) := by
  refine ok_sr D sc_line_poly (fun xs r h => by obtain ⟨p, n, rfl, _⟩ := h; rfl) fun f cd A out s H hG hr => ?_
  refine ⟨_, pss_cons (ps_set (i := 2) sc_line_poly.nd rfl (Or.inl rfl) (pe_op op_cat (pe_lst (pa_cons (pe_ix (ix_seqK (K := K) rfl) (pv 1) (pe_int) (fun _ _ => rfl)) pa_nil)) (pe_op op_rep (pe_lst (pa_cons (pe_int) pa_nil)) (pe_op op_sub (pv 0) (pe_int))))) (pss_cons (ps_for PassesOwn.never rfl (pi_range2 (by rfl) T.m_range (pa_cons (pe_int) (pa_cons (pv 0) pa_nil))) (pg_name (i := 3) sc_line_poly.nd rfl (Or.inr rfl)) (pss_cons (ps_set (i := 4) sc_line_poly.nd rfl (Or.inl rfl) (pe_callB (cr_sumA rfl) (by rfl) T.m_sum boot_sum (pa_cons (pe_lc (own := [("item", 5), ("rest", 6)]) (tt := tYes) rfl sc_line_poly.nd (pi_enumK (K := K) rfl (by rfl) T.m_enumerate (pa_cons (pv 1) pa_nil)) (blkOk_by (N := ["prime", "rests", "found", "power", "total", "item", "rest"]) (sc := defScope s_line_poly) (by decide +kernel)) (fun _ _ _ _ _ => (pg_tupK (K := K) (n := 2) rfl rfl (pgs_cons (pg_name (i := 5) sc_line_poly.nd rfl (Or.inl rfl)) (pgs_cons (pg_name (i := 6) sc_line_poly.nd rfl (Or.inl rfl)) pgs_nil)))) (fun _ _ _ _ _ => pts_nil) (fun _ _ _ _ _ => (pe_op op_mul (pv 6) (pe_ok O_raised hG (hr.mono (by decide)) (by rfl) (pa_cons (pv 5) (pa_cons (pe_op op_sub (pe_op op_sub (pv 0) (pe_int)) (pv 3)) (pa_cons (pv 0) pa_nil))))))) pa_nil))) (pss_one (ps_asg (pe_op op_mod (pe_op op_sub (pe_int) (pv 4)) (pv 0)) (pg_sub (pv 2) (pv 3) set_list (fun _ => rfl)))))) (pss_one (ps_ret (pv 2)))), ?_⟩
  rintro xs r ⟨p, rs, rfl, p2, p7, hl, rfl⟩
  let RA : Addr → Env1 := fun a => [some (iv (p : Int)), some (.d (lD rs)), some (.a a), none, none, none, none]
  have h0 : rs[0]? = some (rs.getD 0 0) := by
    cases rs with
    | nil => simp at hl; omega
    | cons a l => rfl
  refine sr_ownL (i := 2) (r1 := RA) (ρ2 := [some (iv (p : Int)), some (.d (lD rs)), some (.d (lD (lineT p rs (p - 1)))), none, none, none, none]) (ds := (lineT p rs 0).map .int) (es := (lineT p rs (p - 1)).map .int) ?_ (fun a => ?_) (fun a => ⟨rfl, rfl⟩) (sr_one (sr_ret (ee_var rfl)))
  · have h := en_cat (ta := _) (tb := _) (ρ := startR ["prime", "rests", "found", "power", "total", "item", "rest"] [iv (p : Int), .d (lD rs)]) (ee_lst (ds := [.int (rs.getD 0 0)]) (ea_cons (ee_ix (K := K) (n := 0) (ee_var (i := 1) rfl) (sv_l _) ee_int (by rw [List.getElem?_map, h0]; rfl)) ea_nil) (by simp)) (ee_rep (a := (p : Int) - 1) (ee_lst (ds := [.int 0]) (ea_cons ee_int ea_nil) (by simp)) (ee_sub (ee_var (i := 0) rfl) ee_int) (by omega) (by omega) (by simp)) (by simp; omega)
    have e : ([.int (rs.getD 0 0)] ++ (List.replicate ((p : Int) - 1).toNat [PyData.int 0]).flatten) = (lineT p rs 0).map .int := by
      have : ((p : Int) - 1).toNat = p - 1 := by omega
      rw [this]
      simp [lineT]
    rw [e] at h
    exact h
  · have hc : ∀ i, CPok [a] (lC a ((lineT p rs i).map .int) noC) := fun i => ok_lC List.mem_cons_self (ok_noC _)
    refine so_rng2 (m := 1) (n := p) (fun i => is2 (RA a) (lC a ((lineT p rs i).map .int) noC)) ee_int (ee_var rfl) (by omega) (by omega) (hc 0) ⟨rfl, rfl⟩ fun i r c hi ⟨e1, e2⟩ => ?_
    subst e1 e2
    refine ⟨hc i, so_seq (so_sn (sn_asg (ee_sum (ns := rs.zipIdx.map fun q => q.1 * (((q.2 : Nat) : Int) ^ (p - 1 - (1 + i)) % (p : Int))) (ee_is (ee_lcm rs.zipIdx (fun q => .tuple [.int ((q.2 : Nat) : Int), .int q.1]) (fun q => .int (q.1 * (((q.2 : Nat) : Int) ^ (p - 1 - (1 + i)) % (p : Int)))) ?_ ?_ fun q hq => ⟨_, _, ge_two, by decide,
      ee_mul (ee_var rfl) (ee_cal (ea_cons (ee_var rfl) (ea_cons (ee_is (y := iv ((p - 1 - (1 + i) : Nat) : Int)) (ee_sub (ee_sub (ee_var rfl) ee_int) (ee_var rfl)) ?_) (ea_cons (ee_var rfl) ea_nil))) ⟨((q.2 : Nat) : Int), p - 1 - (1 + i), p, rfl, by omega, ?_, p2, p7, by omega, rfl⟩) (cmul_small (Int.emod_nonneg _ (by omega)) (Int.le_of_lt (Int.lt_of_lt_of_le (Int.emod_lt_of_pos _ (by omega)) (by omega))))⟩) ?_) (.inr rfl))) (hc i)) fun r c ⟨e1, e2⟩ => ?_⟩
    · rw [← enumD_map]
      exact wi_enum (ea_cons (ee_var rfl) ea_nil)
    · simp
      omega
    · congr 2
      omega
    · have := (List.mem_zipIdx hq).2.1
      omega
    · simp
    · subst e1 e2
      refine so_one (so_is (so_setLD (j := 1 + i) (y := .int (coefK p rs (1 + i))) rfl (em_ee (ee_mod (ee_sub ee_int (ee_var rfl)) (ee_var rfl) (by omega)) (hc i)) (ee_var rfl) ?_) ((.cons (.inr rfl) (.cons (.inr rfl) (.cons (.inr rfl) (.cons (.inl rfl) (.cons (.inl rfl) (.cons (.inl rfl) (.cons (.inl rfl) .nil)))))))) ⟨rfl, ?_⟩)
      · rw [List.length_map, lineT_len]
        omega
      · rw [← List.map_set, lineT_next hi]
end
end Pz
namespace Pz
open PySem PySem.Spec PyProof.Rows L2 Evl StX
def colK (p : Nat) (row : List Int) (spot : Nat) : List Int := (List.range p).map fun (item : Nat) => row.getD (item * (row.length / p) + spot) 0
def nextK (p : Nat) (row : List Int) (j : Int) : List Int := (List.range (row.length / p)).map fun spot => (lineK p (colK p row spot)).getD j.toNat 0
def rowAt (p : Nat) (rs k : List Int) : List Int := k.foldl (nextK p) rs
def polyK (p n : Nat) (rs : List Int) : List (List Int × Int) := (pts p n).map fun k => (k, (rowAt p rs k).getD 0 0)
theorem pts_nodup (p : Nat) : ∀ n : Nat, (pts p n).Nodup
  | 0 => by simp [pts]
  | n + 1 => by
    show ((pts p n).flatMap fun row => (List.range p).map fun i => row ++ [((i : Nat) : Int)]).Nodup
    have ih := pts_nodup p n
    generalize pts p n = l at ih
    induction l with
    | nil => exact .nil
    | cons a l ih2 =>
      rw [List.flatMap_cons, List.nodup_append]
      obtain ⟨h1, h2⟩ := List.nodup_cons.mp ih
      refine ⟨?_, ih2 h2, fun x hx y hy e => ?_⟩
      · unfold List.Nodup
        rw [List.pairwise_map]
        exact List.nodup_range.imp fun hne e => hne (by have h := (List.append_inj' e rfl).2; simp at h; omega)
      · subst e
        obtain ⟨i, _, rfl⟩ := List.mem_map.mp hx
        obtain ⟨b, hb, hm⟩ := List.mem_flatMap.mp hy
        obtain ⟨j, _, e⟩ := List.mem_map.mp hm
        have := (List.append_inj' e rfl).1
        subst this
        exact h1 hb
theorem put_new {α : Type} {kvs : List (List Int × α)} {k : List Int} {v : α} (h : ∀ q ∈ kvs, q.1 ≠ k) : put kvs k v = kvs ++ [(k, v)] := by
  unfold put
  rw [if_neg]
  intro z
  obtain ⟨q, hq, e⟩ := List.any_eq_true.mp z
  exact h q hq (of_decide_eq_true e)
theorem fold_put {α β : Type} (key : α → List Int) (val : α → β) : ∀ (xs : List α) (acc : List (List Int × β)), (acc.map (·.1) ++ xs.map key).Nodup → xs.foldl (fun a x => put a (key x) (val x)) acc = acc ++ xs.map fun x => (key x, val x)
  | [], acc, _ => by simp
  | x :: xs, acc, h => by
    rw [List.map_cons] at h
    have hn : ∀ q ∈ acc, q.1 ≠ key x := fun q hq e => by
      have := (List.nodup_append.mp h).2.2 q.1 (List.mem_map_of_mem hq) (key x) List.mem_cons_self
      exact this e
    rw [List.foldl_cons, put_new hn, fold_put key val xs]
    · simp
    · rw [List.map_append, List.append_assoc]
      exact h
theorem nextK_len (p : Nat) (row : List Int) (j : Int) : (nextK p row j).length = row.length / p := by simp [nextK]
theorem rowAt_snoc (p : Nat) (rs k : List Int) (j : Int) : rowAt p rs (k ++ [j]) = nextK p (rowAt p rs k) j := by simp [rowAt]
theorem rowAt_len {p : Nat} (hp : 0 < p) (m : Nat) : ∀ (k : List Int) (rs : List Int), rs.length = p ^ (k.length + m) → (rowAt p rs k).length = p ^ m
  | [], rs, h => by simpa [rowAt] using h
  | j :: k, rs, h => by
    show (rowAt p (nextK p rs j) k).length = p ^ m
    refine rowAt_len hp m k _ ?_
    rw [nextK_len, h, List.length_cons, show k.length + 1 + m = k.length + m + 1 by omega, Nat.pow_succ, Nat.mul_div_cancel _ hp]
/-- the rows of one turn -/
abbrev rD (p : Nat) (rs k : List Int) : List Int × PyData := (k, lD (rowAt p rs k))
def rowsD (p : Nat) (rs : List Int) (i : Nat) : List (List Int × PyData) := (pts p i).map (rD p rs)
/-- the next rows as they grow -/
def kidsK (p : Nat) (k : List Int) (j : Nat) : List (List Int) := (List.range j).map fun (i : Nat) => k ++ [(i : Int)]
def lateK (p i m : Nat) : List (List Int) := ((pts p i).take m).flatMap fun k => kidsK p k p
def lateD (p : Nat) (rs : List Int) (i m : Nat) : List (List Int × PyData) := (lateK p i m).map (rD p rs)
theorem lateK_all (p i : Nat) : lateK p i (pts p i).length = pts p (i + 1) := by
  unfold lateK
  rw [List.take_length]
  rfl
theorem lateK_next {p i m : Nat} {k : List Int} (h : (pts p i)[m]? = some k) : lateK p i (m + 1) = lateK p i m ++ kidsK p k p := by
  unfold lateK
  rw [List.take_add_one, h, List.flatMap_append]
  simp
theorem lateK_new {p i m j : Nat} {k : List Int} (h : (pts p i)[m]? = some k) : ∀ q ∈ lateK p i m ++ kidsK p k j, q ≠ k ++ [(j : Int)] := by
  intro q hq e
  subst e
  obtain hq | hq := List.mem_append.mp hq
  · obtain ⟨k', hk', hm⟩ := List.mem_flatMap.mp hq
    obtain ⟨j', _, e⟩ := List.mem_map.mp hm
    have := (List.append_inj' e rfl).1
    subst this
    obtain ⟨a, ha, ea⟩ := List.getElem_of_mem hk'
    rw [List.length_take] at ha
    rw [List.getElem_take] at ea
    have hb := List.getElem?_eq_some_iff.mp h
    obtain ⟨lt, eb⟩ := hb
    exact List.pairwise_iff_getElem.mp (pts_nodup p i) a m (by omega) lt (by omega) (ea.trans eb.symm)
  · obtain ⟨j', hj, e⟩ := List.mem_map.mp hq
    have := (List.append_inj' e rfl).2
    have hj := List.mem_range.mp hj
    simp at this
    omega
theorem lateK_len {p n i m j : Nat} {k : List Int} (hF : Fld p n) (hi : i < n) (h : (pts p i)[m]? = some k) (hj : j ≤ p) : (lateK p i m ++ kidsK p k j).length ≤ 700 := by
  have h1 : (lateK p i m ++ kidsK p k j).length ≤ (lateK p i (m + 1)).length := by
    rw [lateK_next h]
    simp [kidsK]
    omega
  have h2 : (lateK p i (m + 1)).length ≤ (pts p (i + 1)).length := by
    rw [← lateK_all]
    unfold lateK
    rw [List.take_length]
    conv => rhs; rw [← List.take_append_drop (m + 1) (pts p i), List.flatMap_append, List.length_append]
    omega
  exact Nat.le_trans h1 (Nat.le_trans h2 (pts_few hF hi))
section
variable {w : World} {P : Program} {mg : Str → Option Value} {K : PySem.W.Frag} {base : Heap}
abbrev s_poly_by : Stmt := topP 28
theorem sc_poly_by : FnScope ["field", "rests", "prime", "rows", "turn", "later", "powers", "row", "step", "lines", "power", "more", "spot", "item", "line"] ["field", "rests"] (defScope s_poly_by) := ⟨rfl, rfl, rfl, by decide +kernel, rfl, by decide +kernel, by decide +kernel⟩
def R_poly_by : List EV → EV → Prop := fun xs r => ∃ (p n : Nat) (rs : List Int), xs = [.d (fD p n), .d (lD rs)] ∧ Fld p n ∧ rs.length = p ^ n ∧ r = .f ((tidyK p (polyK p n rs)).map tD)
theorem ok_poly_by (T : Txt K mg) (D : DefAt K mg "poly_by" s_poly_by ["field", "rests"]) (O_line_poly : Ok P w K mg base "line_poly" 2 (spD R_line_poly)) (O_tidy : Ok P w K mg base "tidy" 1 (spD R_tidy)) : Ok P w K mg base "poly_by" 3 (spD R_poly_by) := by
  refine ok_sr D sc_poly_by (fun xs r h => by obtain ⟨p, n, q, rfl, _⟩ := h; rfl) fun f cd A out s H hG hr => ?_
  have hu := hu_of hr
  have hu0 := hr.units0
  refine ⟨_, pss_cons (ps_asg (pe_tup (pa_cons (pe_ix (ix_seqK (K := K) rfl) (pv 0) (pe_int) (fun _ _ => rfl)) (pa_cons (pe_dispT hu0 (pe_tup pa_nil) (pe_callTy (cr_lstOfK (K := K) rfl) (by rfl) T.m_list boot_list (pa_cons (pv 1) pa_nil))) pa_nil))) (pg_tupK (K := K) (n := 2) rfl rfl (pgs_cons (pg_name (i := 2) sc_poly_by.nd rfl (Or.inr rfl)) (pgs_cons (pg_name (i := 3) sc_poly_by.nd rfl (Or.inl rfl)) pgs_nil)))) (pss_cons (ps_for PassesOwn.never rfl (pi_range1 (by rfl) T.m_range (pa_cons (pe_ix (ix_seqK (K := K) rfl) (pv 0) (pe_int) (fun _ _ => rfl)) pa_nil)) (pg_name (i := 4) sc_poly_by.nd rfl (Or.inl rfl)) (pss_cons (ps_set (i := 5) sc_poly_by.nd rfl (Or.inl rfl) (pe_dnewT)) (pss_cons (ps_lock (ps_for PassesOwn.never rfl (pi_itemsT (pv 3)) (pg_tupK (K := K) (n := 2) rfl rfl (pgs_cons (pg_name (i := 6) sc_poly_by.nd rfl (Or.inl rfl)) (pgs_cons (pg_name (i := 7) sc_poly_by.nd rfl (Or.inr rfl)) pgs_nil))) (pss_cons (ps_set (i := 8) sc_poly_by.nd rfl (Or.inr rfl) (pe_op op_fdiv (pe_callB (cr_lenK (K := K) rfl) (by rfl) T.m_len boot_len (pa_cons (pv 7) pa_nil)) (pv 2))) (pss_cons (ps_setLc (i := 9) (own := [("spot", 12)]) (tt := tYes) rfl sc_poly_by.nd rfl rfl (sw_true rfl rfl rfl (by decide +kernel)) (pi_range1 (by rfl) T.m_range (pa_cons (pv 8) pa_nil)) (blkOk_by (N := ["field", "rests", "prime", "rows", "turn", "later", "powers", "row", "step", "lines", "power", "more", "spot", "item", "line"]) (sc := defScope s_poly_by) (by decide +kernel)) (fun _ _ _ _ _ => (pg_name (i := 12) sc_poly_by.nd rfl (Or.inr rfl))) (fun _ _ _ _ _ => pts_nil) (fun _ _ _ _ _ => (pe_ok O_line_poly hG (hr.mono (by decide)) (by rfl) (pa_cons (pv 2) (pa_cons (pe_lc (own := [("item", 13)]) (tt := tYes) rfl sc_poly_by.nd (pi_range1 (by rfl) T.m_range (pa_cons (pv 2) pa_nil)) (blkOk_by (N := ["field", "rests", "prime", "rows", "turn", "later", "powers", "row", "step", "lines", "power", "more", "spot", "item", "line"]) (sc := { kind := ScopeKind.function, names := [(".0", .local), ("spot", .cell), ("line_poly", .globalImplicit), ("range", .globalImplicit), ("prime", .cell), ("row", .cell), ("step", .cell)], isGenerator := false, isCoroutine := false }) (by decide +kernel)) (fun _ _ _ _ _ => (pg_name (i := 13) sc_poly_by.nd rfl (Or.inl rfl))) (fun _ _ _ _ _ => pts_nil) (fun _ _ _ _ _ => (pe_ix (ix_seqK (K := K) rfl) (pv 7) (pe_op op_add (pe_op op_mul (pv 13) (pv 8)) (pv 12)) (fun _ _ => rfl)))) pa_nil))))) (pss_one (ps_for PassesOwn.never rfl (pi_range1 (by rfl) T.m_range (pa_cons (pv 2) pa_nil)) (pg_name (i := 10) sc_poly_by.nd rfl (Or.inr rfl)) (pss_cons (ps_set (i := 11) sc_poly_by.nd rfl (Or.inl rfl) (pe_tup (pa_starK (K := K) rfl (pv 6) (pa_cons (pv 10) pa_nil)))) (pss_one (ps_dput hu (pv 5) (pv 11) (pe_lc (own := [("line", 14)]) (tt := tYes) rfl sc_poly_by.nd (pi_seqK (K := K) rfl (pv 9)) (blkOk_by (N := ["field", "rests", "prime", "rows", "turn", "later", "powers", "row", "step", "lines", "power", "more", "spot", "item", "line"]) (sc := defScope s_poly_by) (by decide +kernel)) (fun _ _ _ _ _ => (pg_name (i := 14) sc_poly_by.nd rfl (Or.inl rfl))) (fun _ _ _ _ _ => pts_nil) (fun _ _ _ _ _ => (pe_ix (ix_seqK (K := K) rfl) (pv 14) (pv 10) (fun _ _ => rfl)))) rfl))))))))) (pss_one (ps_set (i := 3) sc_poly_by.nd rfl (Or.inl rfl) (pv 5)))))) (pss_one (ps_ret (pe_ok O_tidy hG (hr.mono (by decide)) (by rfl) (pa_cons (pv 2) (pa_cons (pe_lock (pe_dcT (own := [("powers", 6), ("row", 7)]) hu0 rfl sc_poly_by.nd (pi_itemsT (pv 3)) (blkOk_by (N := ["field", "rests", "prime", "rows", "turn", "later", "powers", "row", "step", "lines", "power", "more", "spot", "item", "line"]) (sc := defScope s_poly_by) (by decide +kernel)) (fun _ _ _ _ _ => (pg_tupK (K := K) (n := 2) rfl rfl (pgs_cons (pg_name (i := 6) sc_poly_by.nd rfl (Or.inl rfl)) (pgs_cons (pg_name (i := 7) sc_poly_by.nd rfl (Or.inl rfl)) pgs_nil)))) (fun _ _ _ _ _ => (pv 6)) (fun _ _ _ _ _ => (pe_ix (ix_seqK (K := K) rfl) (pv 7) (pe_int) (fun _ _ => rfl))))) pa_nil)))))), ?_⟩
  rintro xs r ⟨p, n, rs, rfl, hF, hl, rfl⟩
  have h7 := hF.le7
  have h4 := hF.n4
  let RB : Nat → Env1 := fun i => [some (.d (fD p n)), some (.d (lD rs)), some (iv (p : Int)), some (.t (rowsD p rs i)), none, none, none, none, none, none, none, none, none, none, none]
  refine sr_seq (sn_pair (ea_cons (ee_p (ee_var rfl)) (ea_cons (ee_disp (k := []) (ee_tup (ds := []) ea_nil (by decide)) (ee_lstOf (ee_var rfl))) ea_nil))) (sr_seq (sn_rng1 RB (ee_n (ee_var rfl)) (by omega) (.cons (.inr rfl) (.cons (.inr rfl) (.cons (.inr rfl) (.cons (.inr rfl) (.cons (.inl rfl) (.cons (.inl rfl) (.cons (.inl rfl) (.cons (.inl rfl) (.cons (.inl rfl) (.cons (.inl rfl) (.cons (.inl rfl) (.cons (.inl rfl) (.cons (.inl rfl) (.cons (.inl rfl) (.cons (.inl rfl) .nil))))))))))))))) fun i hi => ?_) (sr_one (sr_ret (ee_cal (ea_cons (ee_var rfl) (ea_cons (x := .t ((polyK p n rs).map eI)) ?_ ea_nil)) ⟨p, polyK p n rs, rfl, by omega, ?_, rfl⟩))))
  · obtain ⟨m, hm⟩ : ∃ m, n = i + 1 + m := ⟨n - (i + 1), by omega⟩
    let RL : Addr → Addr → Env1 := fun a b => [some (.d (fD p n)), some (.d (lD rs)), some (iv (p : Int)), some (.z b (rowsD p rs i)), some (iv (i : Int)), some (.a a), none, none, none, none, none, none, none, none, none]
    let RM : Addr → Env1 := fun a => [some (.d (fD p n)), some (.d (lD rs)), some (iv (p : Int)), some (.t (rowsD p rs i)), some (iv (i : Int)), some (.a a), none, none, none, none, none, none, none, none, none]
    refine ⟨_, sn_ownD (i := 5) (kvs := rowsD p rs (i + 1)) (r1 := RM) (ρ2 := [some (.d (fD p n)), some (.d (lD rs)), some (iv (p : Int)), some (.t (rowsD p rs i)), some (iv (i : Int)), some (.t (rowsD p rs (i + 1))), none, none, none, none, none, none, none, none, none]) (fun a => ?_) (fun a => ⟨rfl, rfl⟩) (sn_one (sn_asg (ee_var rfl))), (.cons (.inr rfl) (.cons (.inr rfl) (.cons (.inr rfl) (.cons (.inr rfl) (.cons (.inl rfl) (.cons (.inl rfl) (.cons (.inl rfl) (.cons (.inl rfl) (.cons (.inl rfl) (.cons (.inl rfl) (.cons (.inl rfl) (.cons (.inl rfl) (.cons (.inl rfl) (.cons (.inl rfl) (.cons (.inl rfl) .nil)))))))))))))))⟩
    have hc : ∀ kvs, CPok [a] (dC a kvs noC) := fun kvs => ok_dC List.mem_cons_self (ok_noC _)
    refine so_lock (j := 3) (kvs := rowsD p rs i) (P := fun b => is2 (RL a b) (dC a (lateD p rs i (pts p i).length) noC)) rfl (fun b H d od o c hb ⟨es, he⟩ => dC_upd o c hb he ⟨fun _ z => (by cases z), fun _ z => (by cases z), fun _ _ z => (by cases z)⟩)
      (fun b => so_weak (so_forM (pts p i) (fun k => prD (rD p rs k)) (fun m => is2 (RL a b) (dC a (lateD p rs i m) noC)) ?_ (hc _) ?_ fun mm k r c hk ⟨e1, e2⟩ => ?_) fun r c h => ⟨r, Le.refl r, h⟩)
      fun b r c ⟨e1, e2⟩ => ?_
    · have h : WiE (iItemsT (tVar 3)) _ ((rowsD p rs i).map prD) := wi_itemsT (ρ := List.set (noT ((List.set (List.set (RB i) 4 (some (iv (i : Int)))) 5 (some (.a a))))) 3 (some (.z b (rowsD p rs i)))) (ee_var rfl)
      unfold rowsD at h
      rw [List.map_map] at h
      exact h
    · exact ⟨rfl, rfl⟩
    · subst e1 e2
      have hkm := List.mem_of_getElem? hk
      have hk1 := (mem_pts.mp hkm).1
      have hrow := rowAt_len (p := p) (by omega) (m + 1) k rs (by rw [hl, hk1, hm, show i + 1 + m = i + (m + 1) by omega])
      have hst : (rowAt p rs k).length / p = p ^ m := by rw [hrow, Nat.pow_succ, Nat.mul_div_cancel _ (by omega)]
      have hpm : p ^ m ≤ 700 := Nat.le_trans (Nat.pow_le_pow_right (by omega) (by omega)) hF.few
      let RI : Env1 := [some (.d (fD p n)), some (.d (lD rs)), some (iv (p : Int)), some (.z b (rowsD p rs i)), some (iv (i : Int)), some (.a a), some (.d (keyD k)), some (.d (lD (rowAt p rs k))), some (iv ((p ^ m : Nat) : Int)), some (.d (.list ((List.range (p ^ m)).map fun s => lD (lineK p (colK p (rowAt p rs k) s))))), none, none, none, none, none]
      refine ⟨hc _, _, _, ge_two, so_seq (so_sn (sn_asg (ee_is (y := iv ((p ^ m : Nat) : Int)) (ee_div (ee_len' (n := (rowAt p rs k).length) (ee_var rfl) (sv_l _) (by simp)) (ee_var rfl) ⟨by omega, by omega⟩) ?_)) (hc _)) fun r c ⟨e1, e2⟩ => ?_⟩
      · rw [← hst]
        rfl
      subst e1 e2
      refine so_seq (so_sn (sn_asg (ee_lcm (List.range (p ^ m)) (fun (s : Nat) => .int (0 + (s : Int))) (fun s => lD (lineK p (colK p (rowAt p rs k) s))) ?_ ?_ fun s hs => ⟨_, _, ge_name, by decide, ?_⟩)) (hc _)) fun r c ⟨e1, e2⟩ => ?_
      · rw [← rngD_map]
        exact wi_rng1 (ea_cons (ee_var rfl) ea_nil) (by omega) (by omega)
      · simp
        omega
      · have hs := List.mem_range.mp hs
        refine ee_cal (ea_cons (ee_var rfl) (ea_cons (x := .d (lD (colK p (rowAt p rs k) s))) (ee_is (ee_lcm (List.range p) (fun (t : Nat) => .int (0 + (t : Int))) (fun t => .int ((rowAt p rs k).getD (t * p ^ m + s) 0)) ?_ ?_ fun t ht => ⟨_, _, ge_name, by decide, ?_⟩) ?_) ea_nil)) ⟨p, colK p (rowAt p rs k) s, rfl, by omega, by omega, by simp [colK], rfl⟩
        · rw [← rngD_map]
          exact wi_rng1 (ea_cons (ee_var rfl) ea_nil) (by omega) (by omega)
        · simp
          omega
        · have ht := List.mem_range.mp ht
          have lt : t * p ^ m + s < (rowAt p rs k).length := by
            rw [hrow, Nat.pow_succ, Nat.mul_comm (p ^ m) p]
            have h1 : (t + 1) * p ^ m ≤ p * p ^ m := Nat.mul_le_mul_right _ ht
            rw [Nat.succ_mul] at h1
            omega
          refine ee_ix (n := t * p ^ m + s) (ee_var rfl) (sv_l _) (ee_is (ee_add (ee_mul (ee_var rfl) (ee_var rfl) (cmul_small (by omega) (by omega))) (ee_var rfl)) ?_) ?_
          · congr 2
            rw [Int.zero_add, Int.zero_add, Int.natCast_add, Int.natCast_mul]
          · rw [List.getElem?_map, List.getElem?_eq_getElem lt, List.getD_eq_getElem?_getD, List.getElem?_eq_getElem lt]
            rfl
        · unfold colK
          rw [hst]
          simp [Function.comp_def]
      subst e1 e2
      refine so_weak (P := is2 RI (dC a (((lateK p i mm ++ kidsK p k p)).map (rD p rs)) noC)) (so_rng1 (fun j => is2 RI (dC a (((lateK p i mm ++ kidsK p k j)).map (rD p rs)) noC)) (ee_var rfl) (by omega) (hc _) ?_ fun j r c hj ⟨e1, e2⟩ => ?_) fun r c ⟨e1, e2⟩ => ⟨RL a b, ?_, rfl, ?_⟩
      · refine ⟨rfl, ?_⟩
        simp [kidsK, lateD]
      · subst e1 e2
        refine ⟨hc _, so_seq (so_sn (sn_asg (ee_tup (ds := (k ++ [(j : Int)]).map .int) (ea_is (ea_star (ee_var rfl) (sv_t _) (ea_cons (ee_var rfl) ea_nil)) (by simp)) (by simp; omega))) (hc _)) fun r c ⟨e1, e2⟩ => ?_⟩
        subst e1 e2
        refine so_is (so_putD (i := 5) (k := k ++ [(j : Int)]) (y := lD (rowAt p rs (k ++ [(j : Int)]))) rfl (em_ee (ee_is (ee_lcm (List.range (p ^ m)) (fun s => lD (lineK p (colK p (rowAt p rs k) s))) (fun s => .int ((lineK p (colK p (rowAt p rs k) s)).getD j 0)) (wi_seq (ee_var rfl) (sv_l _)) (by simp; omega) fun s _ => ⟨_, _, ge_name, by decide, ee_ix (n := j) (ee_var rfl) (sv_l _) (ee_var rfl) ?_⟩) ?_) (hc _)) (ee_var rfl) ?_) ((.cons (.inr rfl) (.cons (.inr rfl) (.cons (.inr rfl) (.cons (.inr rfl) (.cons (.inr rfl) (.cons (.inr rfl) (.cons (.inr rfl) (.cons (.inr rfl) (.cons (.inr rfl) (.cons (.inr rfl) (.cons (.inl rfl) (.cons (.inl rfl) (.cons (.inl rfl) (.cons (.inl rfl) (.cons (.inl rfl) .nil)))))))))))))))) ⟨rfl, ?_⟩
        · have lt : j < (lineK p (colK p (rowAt p rs k) s)).length := by
            unfold lineK
            rw [lineT_len]
            omega
          rw [List.getElem?_map, List.getElem?_eq_getElem lt, List.getD_eq_getElem?_getD, List.getElem?_eq_getElem lt]
          rfl
        · rw [rowAt_snoc]
          unfold nextK
          rw [hst]
          simp
        · have := lateK_len hF hi hk (show j ≤ p by omega)
          rw [List.length_map]
          omega
        · rw [put_new]
          · simp [kidsK, List.range_succ]
          · intro q hq
            obtain ⟨x, hx, rfl⟩ := List.mem_map.mp hq
            exact lateK_new hk x hx
      · rw [e1]
        exact (.cons (.inr rfl) (.cons (.inr rfl) (.cons (.inr rfl) (.cons (.inr rfl) (.cons (.inr rfl) (.cons (.inr rfl) (.cons (.inl rfl) (.cons (.inl rfl) (.cons (.inl rfl) (.cons (.inl rfl) (.cons (.inl rfl) (.cons (.inl rfl) (.cons (.inl rfl) (.cons (.inl rfl) (.cons (.inl rfl) .nil)))))))))))))))
      · rw [e2]
        unfold lateD
        rw [lateK_next hk]
    · subst e1 e2
      refine ⟨rfl, fun b H d od o c hb ⟨o2, es, he⟩ => dC_upd o c hb he ⟨fun _ z => (by cases z), fun _ z => (by cases z), fun _ _ z => (by cases z)⟩, rfl, ?_⟩
      unfold lateD
      rw [lateK_all]
      rfl
  · refine ee_is (ee_lock (j := 3) (kvs := rowsD p rs n) (x := .t ((pts p n).foldl (fun acc k => put acc k (.int ((rowAt p rs k).getD 0 0))) [])) rfl (fun b => ee_dcT (pts p n) (fun k => prD (rD p rs k)) (fun k => k) (fun k => .int ((rowAt p rs k).getD 0 0)) ?_ ?_ fun k hk => ⟨_, _, ge_two, by decide, ee_var rfl, ee_ix (n := 0) (ee_var rfl) (sv_l _) ee_int ?_⟩) trivial) ?_
    · have h : WiE (iItemsT (tVar 3)) _ ((rowsD p rs n).map prD) := wi_itemsT (ρ := List.set (noT (RB n)) 3 (some (.z b (rowsD p rs n)))) (ee_var rfl)
      unfold rowsD at h
      rw [List.map_map] at h
      exact h
    · exact Nat.le_trans (pts_few hF (Nat.le_refl n)) (by decide)
    · have hk1 := (mem_pts.mp hk).1
      have := rowAt_len (p := p) (by omega) 0 k rs (by rw [hl, hk1]; rfl)
      rw [List.getElem?_map]
      generalize rowAt p rs k = l at this
      cases l with
      | nil => simp at this
      | cons a l => rfl
    · rw [fold_put (fun k => k) (fun k => PyData.int ((rowAt p rs k).getD 0 0)) (pts p n) []]
      · simp [polyK, eI]
      · simpa using pts_nodup p n
  · unfold polyK
    rw [List.length_map]
    exact Nat.le_trans (pts_few hF (Nat.le_refl n)) (by decide)
end
end Pz
namespace Pz
open PySem PySem.Spec PyProof.Rows L2 Evl StX
/-! ### systems -/
abbrev Poly := List (List Int × Int)
/-- a system of the document -/
structure SysOk (p n : Nat) (qs : List Poly) : Prop where
  polys : ∀ q ∈ qs, PolyOk p n q
  degs : ∀ q ∈ qs, 1 ≤ degK q
  one : 1 ≤ qs.length
  few : qs.length ≤ 4
theorem PolyOk.keys {p n : Nat} {q : Poly} (h : PolyOk p n q) : ∀ t ∈ q, KeyOk n t.1 := fun t ht => (h.terms t ht).key
def zK (p n : Nat) (qs : List Poly) : List (List Int) := qs.foldl (fun l q => l.filter fun x => decide (evK (redK p q) x % (p : Int) = 0)) (pts p n)
theorem zK_sub (p n : Nat) (qs : List Poly) : List.Sublist (zK p n qs) (pts p n) := by
  have : ∀ (qs : List Poly) (l : List (List Int)), List.Sublist (qs.foldl (fun l q => l.filter fun x => decide (evK (redK p q) x % (p : Int) = 0)) l) l := by
    intro qs
    induction qs with
    | nil => exact fun l => List.Sublist.refl l
    | cons q qs ih => exact fun l => (ih _).trans List.filter_sublist
  exact this qs _
theorem put_keys {kvs : Poly} {k : List Int} {v : Int} : ∀ t ∈ put kvs k v, t.1 = k ∨ ∃ s ∈ kvs, s.1 = t.1 := by
  intro t ht
  unfold put at ht
  split at ht
  · obtain ⟨s, hs, e⟩ := List.mem_map.mp ht
    split at e
    · subst e; exact .inl rfl
    · subst e; exact .inr ⟨s, hs, rfl⟩
  · rcases List.mem_append.mp ht with h | h
    · exact .inr ⟨t, h, rfl⟩
    · rw [List.mem_singleton.mp h]; exact .inl rfl
theorem foundK_keys {p : Nat} {q : Poly} : ∀ t ∈ foundK p q, ∃ s ∈ q, t.1 = s.1.map fun e => lessP e p := by
  have : ∀ (q acc : Poly) (t : List Int × Int), t ∈ q.foldl (bump p) acc → (∃ s ∈ q, t.1 = s.1.map fun e => lessP e p) ∨ ∃ s ∈ acc, s.1 = t.1 := by
    intro q
    induction q with
    | nil => exact fun acc t h => .inr ⟨t, h, rfl⟩
    | cons a q ih =>
      intro acc t h
      rcases ih _ t h with ⟨s, hs, e⟩ | ⟨s, hs, e⟩
      · exact .inl ⟨s, List.mem_cons_of_mem _ hs, e⟩
      · rcases put_keys s hs with e2 | ⟨s2, h2, e2⟩
        · exact .inl ⟨a, List.mem_cons_self, e.symm.trans e2⟩
        · exact .inr ⟨s2, h2, e2.trans e⟩
  intro t ht
  rcases this q [] t ht with h | ⟨s, hs, _⟩
  · exact h
  · exact nomatch hs
theorem tidyK_mem {p : Nat} {q : Poly} {t : List Int × Int} (h : t ∈ tidyK p q) : ∃ s ∈ q, t.1 = s.1 ∧ t.2 = s.2 % (p : Int) ∧ s.2 % (p : Int) ≠ 0 := by
  have h := (List.mergeSort_perm _ _).mem_iff.mp h
  obtain ⟨s, hs, rfl⟩ := List.mem_map.mp h
  obtain ⟨h1, h2⟩ := List.mem_filter.mp hs
  exact ⟨s, h1, rfl, rfl, by simpa using h2⟩
theorem tidyK_len (p : Nat) (q : Poly) : (tidyK p q).length ≤ q.length := by
  unfold tidyK
  rw [List.length_mergeSort, List.length_map]
  exact List.length_filter_le _ _
theorem lessP_ok {e : Int} {p : Nat} (h0 : 0 ≤ e) (h1 : e ≤ 30) (hp : 2 ≤ p ∧ p ≤ 7) : 0 ≤ lessP e p ∧ lessP e p ≤ 30 := by
  unfold lessP
  split
  · exact ⟨h0, h1⟩
  · have a := Int.emod_nonneg (e - 1) (b := (p : Int) - 1) (by omega)
    have b := Int.emod_lt_of_pos (e - 1) (b := (p : Int) - 1) (by omega)
    omega
theorem redK_keys {p n : Nat} {q : Poly} (hF : Fld p n) (h : ∀ t ∈ q, KeyOk n t.1) : ∀ t ∈ redK p q, KeyOk n t.1 := by
  intro t ht
  obtain ⟨s, hs, e, _⟩ := tidyK_mem ht
  obtain ⟨s0, h0, e0⟩ := foundK_keys s hs
  have k := h s0 h0
  rw [e, e0]
  refine ⟨by rw [List.length_map]; exact k.len, fun x hx => ?_⟩
  obtain ⟨y, hy, rfl⟩ := List.mem_map.mp hx; exact lessP_ok (k.lo y hy).1 (k.lo y hy).2 hF.le7
theorem redK_len (p : Nat) (q : Poly) : (redK p q).length ≤ q.length := Nat.le_trans (tidyK_len _ _) (foundK_len p q)
section
variable {w : World} {P : Program} {mg : Str → Option Value} {K : PySem.W.Frag} {base : Heap}
abbrev s_check_system : Stmt := topP 31
theorem sc_check_system : FnScope ["field", "system", "number", "poly"] ["field", "system"] (defScope s_check_system) := ⟨rfl, rfl, rfl, by decide +kernel, rfl, by decide +kernel, by decide +kernel⟩
def R_check_system : List EV → EV → Prop := fun xs r => ∃ (p n : Nat) (qs : List Poly), xs = [.d (fD p n), .d (sD qs)] ∧ Fld p n ∧ SysOk p n qs ∧ r = .d (sD qs)
theorem ok_check_system (T : Txt K mg) (D : DefAt K mg "check_system" s_check_system ["field", "system"]) (O_wrong_term : Ok P w K mg base "wrong_term" 4 (spD R_wrong_term)) (O_degree_of : Ok P w K mg base "degree_of" 1 (spD R_degree_of)) : Ok P w K mg base "check_system" 5 (spD R_check_system) := by
  refine ok_sr D sc_check_system (fun xs r h => by obtain ⟨p, n, q, rfl, _⟩ := h; rfl) fun f cd A out s H hG hr => ?_
  refine ⟨_, pss_cons (ps_if (PW.pt (pw_or (pt_not (pt_val (pe_callB call_isD (by rfl) T.m_isinstance boot_isinstance (pa_cons (pv 1) (pa_cons (pe_bltn (by rfl) T.m_tuple boot_tuple ty_mk) pa_nil))))) (pw_or1 (pt_not (pt_chain op_le op_le (pe_int) (pe_callB (cr_lenK (K := K) rfl) (by rfl) T.m_len boot_len (pa_cons (pv 1) pa_nil)) (pe_globI (by rfl) T.c_MOST_POLYS)))))) (pss_one (ps_never)) (pss_nil)) (pss_cons (ps_for PassesOwn.never rfl (pi_enumTK (K := K) rfl (by rfl) T.m_enumerate (pa_cons (pv 1) pa_nil)) (pg_tupK (K := K) (n := 2) rfl rfl (pgs_cons (pg_name (i := 2) sc_check_system.nd rfl (Or.inl rfl)) (pgs_cons (pg_name (i := 3) sc_check_system.nd rfl (Or.inl rfl)) pgs_nil))) (pss_one (ps_if (PW.pt (pw_or (pt_cmp (pc_notN (pe_ok O_wrong_term hG (hr.mono (by decide)) (by rfl) (pa_cons (pv 0) (pa_cons (pv 3) pa_nil))))) (pw_or1 (pt_cmpR op_lt (pe_ok O_degree_of hG (hr.mono (by decide)) (by rfl) (pa_cons (pv 3) pa_nil)) (pe_int) (nomark _))))) (pss_one (ps_never)) (pss_nil)))) (pss_one (ps_ret (pv 1)))), ?_⟩
  rintro xs r ⟨p, n, qs, rfl, hF, hs, rfl⟩
  have h1 := hs.one
  have h2 := hs.few
  refine sr_seq (sn_pass (eb_is (eb_or (eb_not (eb_B (ee_isTup (ee_var rfl)))) fun _ => eb_not (eb_test (ee_chain ee_int (ee_len' (n := qs.length) (ee_var rfl) (sv_t _) (by simp)) ee_int))) ?_)) ?_
  · rw [decide_eq_true (by omega), decide_eq_true (by omega)]
    rfl
  refine sr_seq (sn_for (fun i => [some (.d (fD p n)), some (.d (sD qs)), none, none]) (wi_enumT (ea_cons (ee_var rfl) ea_nil)) (.cons (.inr rfl) (.cons (.inr rfl) (.cons (.inl rfl) (.cons (.inl rfl) .nil)))) fun i d hd => ?_) (sr_one (sr_ret (ee_var rfl)))
  have lt : i < qs.length := by
    have := (List.getElem?_eq_some_iff.mp hd).1
    rwa [enumD_len, List.length_map] at this
  have e1 : (qs.map pD)[i]? = some (pD qs[i]) := by simp [lt]
  rw [enumD_get e1] at hd
  cases hd
  have hm := List.getElem_mem lt
  have hq := hs.polys _ hm
  have hd := hs.degs _ hm
  refine ⟨_, _, _, ge_two, sn_one (sn_pass (eb_is (eb_or (eb_notN (ee_cal (ea_cons (ee_var rfl) (ea_cons (ee_var rfl) ea_nil)) ⟨p, n, qs[i], rfl, hF, hq, rfl⟩) (.inl ⟨rfl, rfl⟩)) fun _ => eb_test (ee_lt (ee_cal (ea_cons (ee_var rfl) ea_nil) ⟨qs[i], _, rfl, sv_t _, by have := hq.few; omega, rfl⟩) ee_int)) ?_)), (.cons (.inr rfl) (.cons (.inr rfl) (.cons (.inl rfl) (.cons (.inl rfl) .nil))))⟩
  rw [decide_eq_false (by omega)]; rfl
abbrev s_need_system : Stmt := topP 32
theorem sc_need_system : FnScope ["field", "thing"] ["field", "thing"] (defScope s_need_system) := ⟨rfl, rfl, rfl, by decide +kernel, rfl, by decide +kernel, by decide +kernel⟩
def R_need_system : List EV → EV → Prop := R_check_system
theorem ok_need_system (T : Txt K mg) (D : DefAt K mg "need_system" s_need_system ["field", "thing"]) (O_need_field : Ok P w K mg base "need_field" 3 (spD R_need_field)) (O_check_system : Ok P w K mg base "check_system" 5 (spD R_check_system)) : Ok P w K mg base "need_system" 6 (spD R_need_system) := by
  refine ok_sr D sc_need_system (fun xs r h => by obtain ⟨p, n, q, rfl, _⟩ := h; rfl) fun f cd A out s H hG hr => ?_
  refine ⟨_, pss_one (ps_ret (pe_ok O_check_system hG (hr.mono (by decide)) (by rfl) (pa_cons (pe_ok O_need_field hG (hr.mono (by decide)) (by rfl) (pa_cons (pv 0) pa_nil)) (pa_cons (pv 1) pa_nil)))), ?_⟩
  rintro xs r ⟨p, n, qs, rfl, hF, hs, rfl⟩
  exact sr_one (sr_ret (ee_cal (ea_cons (ee_cal (ea_cons (ee_var rfl) ea_nil) ⟨p, n, rfl, hF, rfl⟩) (ea_cons (ee_var rfl) ea_nil)) ⟨p, n, qs, rfl, hF, hs, rfl⟩))
abbrev s_zeros_of : Stmt := topP 33
theorem sc_zeros_of : FnScope ["field", "system", "found", "poly", "less", "point"] ["field", "system"] (defScope s_zeros_of) := ⟨rfl, rfl, rfl, by decide +kernel, rfl, by decide +kernel, by decide +kernel⟩
def R_zeros_of : List EV → EV → Prop := fun xs r => ∃ (p n : Nat) (qs : List Poly), xs = [.d (fD p n), .d (sD qs)] ∧ Fld p n ∧ SysOk p n qs ∧ r = .d (.list ((zK p n qs).map keyD))
theorem ok_zeros_of (T : Txt K mg) (D : DefAt K mg "zeros_of" s_zeros_of ["field", "system"]) (O_allpoints : Ok P w K mg base "all_points" 2 (spD R_all_points)) (O_reduced_of : Ok P w K mg base "reduced_of" 2 (spD R_reduced_of)) (O_value_of : Ok P w K mg base "value_of" 3 (spD R_value_of)) : Ok P w K mg base "zeros_of" 4 (spD R_zeros_of) := by
  refine ok_sr D sc_zeros_of (fun xs r h => by obtain ⟨p, n, q, rfl, _⟩ := h; rfl) fun f cd A out s H hG hr => ?_
  refine ⟨_, pss_cons (ps_set (i := 2) sc_zeros_of.nd rfl (Or.inl rfl) (pe_ok O_allpoints hG (hr.mono (by decide)) (by rfl) (pa_cons (pv 0) pa_nil))) (pss_cons (ps_for PassesOwn.never rfl (pi_seqK (K := K) rfl (pv 1)) (pg_name (i := 3) sc_zeros_of.nd rfl (Or.inl rfl)) (pss_cons (ps_set (i := 4) sc_zeros_of.nd rfl (Or.inr rfl) (pe_ok O_reduced_of hG (hr.mono (by decide)) (by rfl) (pa_cons (pv 0) (pa_cons (pv 3) pa_nil)))) (pss_one (ps_setLc (i := 2) (own := [("point", 5)]) rfl sc_zeros_of.nd rfl rfl (sw_true rfl rfl rfl (by decide +kernel)) (pi_seqK (K := K) rfl (pv 2)) (blkOk_by (N := ["field", "system", "found", "poly", "less", "point"]) (sc := defScope s_zeros_of) (by decide +kernel)) (fun _ _ _ _ _ => (pg_name (i := 5) sc_zeros_of.nd rfl (Or.inl rfl))) (fun _ _ _ _ _ => pts_one (pt_cmpR op_eq (pe_ok O_value_of hG (hr.mono (by decide)) (by rfl) (pa_cons (pv 0) (pa_cons (pv 4) (pa_cons (pv 5) pa_nil)))) (pe_int) (nomark _))) (fun _ _ _ _ _ => (pv 5)))))) (pss_one (ps_ret (pv 2)))), ?_⟩
  rintro xs r ⟨p, n, qs, rfl, hF, hs, rfl⟩
  refine sr_seq (sn_asg (ee_cal (ea_cons (ee_var rfl) ea_nil) ⟨p, n, rfl, hF, rfl⟩)) (sr_seq (sn_forM qs pD (fun i => [some (.d (fD p n)), some (.d (sD qs)), some (.d (.list ((zK p n (qs.take i)).map keyD))), none, none, none]) (wi_seq (ee_var rfl) (sv_t _)) (.cons (.inr rfl) (.cons (.inr rfl) (.cons (.inr rfl) (.cons (.inl rfl) (.cons (.inl rfl) (.cons (.inl rfl) .nil)))))) fun i q hq => ?_) (sr_one (sr_ret (ee_is (ee_var rfl) (by rw [List.take_length])))))
  have hq1 := hs.polys q (List.mem_of_getElem? hq)
  have fw := hq1.few
  have tk : qs.take (i + 1) = qs.take i ++ [q] := by rw [List.take_add_one, hq]; rfl
  have hz := Nat.le_trans (zK_sub p n (qs.take i)).length_le (pts_few hF (Nat.le_refl n))
  refine ⟨_, _, _, ge_name, sn_seq (sn_asg (ee_cal (ea_cons (ee_var rfl) (ea_cons (ee_var rfl) ea_nil)) ⟨p, n, q, rfl, hF, hq1.keys, by omega, rfl⟩)) (sn_one (sn_asg (ee_lc (zK p n (qs.take i)) keyD (fun x => decide (evK (redK p q) x % (p : Int) = 0)) keyD (wi_seq (ee_var rfl) (sv_l _)) (by omega) fun x hx => ⟨_, _, ge_name, by decide,
    eb_test (ee_eqI (ee_cal (ea_cons (ee_var rfl) (ea_cons (ee_var rfl) (ea_cons (ee_var rfl) ea_nil))) ⟨p, n, redK p q, _, x, rfl, sv_f _, hF, redK_keys hF hq1.keys, Nat.le_trans (redK_len p q) (by omega), mem_pts.mp ((zK_sub p n (qs.take i)).subset hx), rfl⟩) ee_int), fun _ => ee_var rfl⟩))), .cons (.inr rfl) (.cons (.inr rfl) (.cons (.inr ?_) (.cons (.inl rfl) (.cons (.inl rfl) (.cons (.inl rfl) .nil)))))⟩
  congr 3
  unfold zK
  rw [tk, List.foldl_append]
  rfl
abbrev s_zeros : Stmt := topP 34
theorem sc_zeros : FnScope ["field", "system"] ["field", "system"] (defScope s_zeros) := ⟨rfl, rfl, rfl, by decide +kernel, rfl, by decide +kernel, by decide +kernel⟩
def R_zeros : List EV → EV → Prop := fun xs r => ∃ (p n : Nat) (qs : List Poly), xs = [.d (fD p n), .d (sD qs)] ∧ Fld p n ∧ SysOk p n qs ∧ r = .d (.tuple ((zK p n qs).map keyD))
theorem ok_zeros (T : Txt K mg) (D : DefAt K mg "zeros" s_zeros ["field", "system"]) (O_need_system : Ok P w K mg base "need_system" 6 (spD R_need_system)) (O_zeros_of : Ok P w K mg base "zeros_of" 4 (spD R_zeros_of)) : Ok P w K mg base "zeros" 7 (spD R_zeros) := by
  refine ok_sr D sc_zeros (fun xs r h => by obtain ⟨p, n, q, rfl, _⟩ := h; rfl) fun f cd A out s H hG hr => ?_
  refine ⟨_, pss_one (ps_ret (pe_callTy (cr_tupOfK (K := K) rfl) (by rfl) T.m_tuple boot_tuple (pa_cons (pe_ok O_zeros_of hG (hr.mono (by decide)) (by rfl) (pa_cons (pv 0) (pa_cons (pe_ok O_need_system hG (hr.mono (by decide)) (by rfl) (pa_cons (pv 0) (pa_cons (pv 1) pa_nil))) pa_nil))) pa_nil))), ?_⟩
  rintro xs r ⟨p, n, qs, rfl, hF, hs, rfl⟩
  exact sr_one (sr_ret (ee_tupOf (ee_cal (ea_cons (ee_var rfl) (ea_cons (ee_cal (ea_cons (ee_var rfl) (ea_cons (ee_var rfl) ea_nil)) ⟨p, n, qs, rfl, hF, hs, rfl⟩) ea_nil)) ⟨p, n, qs, rfl, hF, hs, rfl⟩)))
abbrev s_count : Stmt := topP 35
theorem sc_count : FnScope ["field", "system"] ["field", "system"] (defScope s_count) := ⟨rfl, rfl, rfl, by decide +kernel, rfl, by decide +kernel, by decide +kernel⟩
def R_count : List EV → EV → Prop := fun xs r => ∃ (p n : Nat) (qs : List Poly), xs = [.d (fD p n), .d (sD qs)] ∧ Fld p n ∧ SysOk p n qs ∧ r = iv ((zK p n qs).length : Int)
theorem ok_count (T : Txt K mg) (D : DefAt K mg "count" s_count ["field", "system"]) (O_need_system : Ok P w K mg base "need_system" 6 (spD R_need_system)) (O_zeros_of : Ok P w K mg base "zeros_of" 4 (spD R_zeros_of)) : Ok P w K mg base "count" 7 (spD R_count) := by
  refine ok_sr D sc_count (fun xs r h => by obtain ⟨p, n, q, rfl, _⟩ := h; rfl) fun f cd A out s H hG hr => ?_
  refine ⟨_, pss_one (ps_ret (pe_callB (cr_lenK (K := K) rfl) (by rfl) T.m_len boot_len (pa_cons (pe_ok O_zeros_of hG (hr.mono (by decide)) (by rfl) (pa_cons (pv 0) (pa_cons (pe_ok O_need_system hG (hr.mono (by decide)) (by rfl) (pa_cons (pv 0) (pa_cons (pv 1) pa_nil))) pa_nil))) pa_nil))), ?_⟩
  rintro xs r ⟨p, n, qs, rfl, hF, hs, rfl⟩
  exact sr_one (sr_ret (ee_len' (ee_cal (ea_cons (ee_var rfl) (ea_cons (ee_cal (ea_cons (ee_var rfl) (ea_cons (ee_var rfl) ea_nil)) ⟨p, n, qs, rfl, hF, hs, rfl⟩) ea_nil)) ⟨p, n, qs, rfl, hF, hs, rfl⟩) (sv_l _) (by simp)))
end
end Pz
namespace Pz
open PySem PySem.Spec PyProof.Rows L2 Evl StX
section
variable {K : PySem.W.Frag} {ρ ρ2 : Env1} {te : TE} {tc : TT} {tb : TS}
theorem sn_while (inv ρs : Nat → Env1) (m : Nat) (h0 : Le (inv 0) ρ) (ht : ∀ i, i < m → EvB tc (inv i) true ∧ SN tb (inv i) (ρs i) ∧ Le (inv (i + 1)) (ρs i)) (hm : EvB tc (inv m) false) : SN (tWhile tc tb) ρ (inv m) := fun D σ H hd w en q => by
  refine ⟨fun k σ' H' => ∃ i, k = m - i ∧ i ≤ m ∧ Ex H H' ∧ Envs (hide H' hd) σ' (inv i), ⟨_, 0, rfl, Nat.zero_le _, Ex.refl H, en.weak h0⟩, ?_⟩
  rintro k σ1 H1 ⟨i, rfl, hi, e1, en1⟩
  by_cases lt : i < m
  · obtain ⟨h1, h2, h3⟩ := ht i lt
    refine h1 σ1 H1 hd (w.mono e1) en1 _ fun H2 e2 => ?_
    rw [if_pos rfl]
    refine ⟨fun σ' H' => Ex H H' ∧ Envs (hide H' hd) σ' (inv (i + 1)), fun σ' H' ⟨e, en'⟩ => ⟨_, by omega, i + 1, rfl, lt, e, en'⟩, ?_⟩
    exact h2 _ σ1 H2 hd ((w.mono e1).mono e2) (en1.mono (exh e2)) fun σ3 H3 e3 en3 => ⟨(e1.trans e2).trans e3, en3.weak h3⟩
  · have : i = m := by omega
    subst this
    refine hm σ1 H1 hd (w.mono e1) en1 _ fun H2 e2 => ?_
    rw [if_neg Bool.false_ne_true]; exact q σ1 H2 (e1.trans e2) (en1.mono (exh e2))
theorem sn_drop {x : EV} (h : EvE te ρ x) : SN (tDrop te) ρ ρ := fun D σ H hd w en q => h σ H hd w en _ fun v H1 e d => q σ H1 e (en.mono (exh e))
theorem sn_rngI {n : Int} {j : Nat} {t : TS} (inv : Nat → Env1) (hw : EvE te ρ (iv n)) (h1 : -1000000 ≤ n) (hn : n ≤ 1000000) (h0 : Le (inv 0) ρ) (hs : ∀ i : Nat, (i : Int) < n → ∃ ρ2, SN t ((inv i).set j (some (iv (i : Int)))) ρ2 ∧ Le (inv (i + 1)) ρ2) :
    SN (tFor (iRng1 (tCons te tNil)) (gName j) t) ρ (inv n.toNat) := by
  have h := sn_for (t := t) (g := gName j) (ds := rngD 0 n.toNat) inv (wi_rng1 (ea_cons hw ea_nil) (by omega) (by omega)) h0 fun i d hd => by
    obtain ⟨lt, rfl⟩ := rngD_of hd
    obtain ⟨ρ2, h1, h2⟩ := hs i (by omega)
    rw [Int.zero_add]
    exact ⟨_, _, ρ2, ge_name, h1, h2⟩
  rw [rngD_len] at h
  exact h
/-- dict(xs) -/
theorem ee_dictT {q : List (List Int × Int)} (h : EvE te ρ (.f (q.map tD))) (nd : (q.map (·.1)).Nodup) (hl : q.length ≤ 50000) : EvE (tCB rDictT (tCons te tNil)) ρ (.t (q.map eI)) := ee_cb (ea_cons h ea_nil) fun vs H hd w d0 Q k => by
  obtain ⟨v, rfl, d⟩ := dv1 d0
  have d' : TupF (hide H hd) v (q.map tD) := d
  have d2 : TupF H v (q.map tD) := d'.mono (Sx.of fun b o z => hide_some z)
  refine ⟨v, q, rfl, d2, nd, by rw [sizeLine_eq]; omega, fun p hp => k _ _ (Ex.new hp) ⟨p, _, rfl, hide_of upd_same (w.fresh hp), ?_⟩⟩
  have : ∀ (G : Hp) (q : List (List Int × Int)), Paired (fun (e : List Key × V) (q : List Int × PyData) => e.1 = kI q.1 ∧ Dh G e.2 q.2) (q.map fun t => (kI t.1, V.int t.2)) (q.map eI) := by
    intro G q
    induction q with
    | nil => exact .nil
    | cons a q ih => exact .cons ⟨rfl, .int _⟩ ih
  exact this _ q
end
/-! ### what the rest computes -/
def onK (p n : Nat) (zs : List (List Int)) (a b : Int) : Poly := tidyK p (polyK p n ((pts p n).map fun x => if x ∈ zs then a else b))
def topK (p n : Nat) (qs : List Poly) : Int := (look (onK p n (zK p n qs) 1 0) (List.replicate n ((p : Int) - 1))).getD 0
def degsK (qs : List Poly) : List Int := qs.map degK
/-- the least M with not M * E < r, for r at most three -/
def promK (r E : Int) : Nat := if r ≤ 0 then 0 else if r ≤ E then 1 else if r ≤ 2 * E then 2 else 3
theorem promK_lt {r E : Int} (i : Nat) (h : i < promK r E) : (i : Int) * E < r := by
  unfold promK at h
  split at h
  · omega
  · split at h
    · have : i = 0 := by omega
      subst this
      omega
    · split at h
      · have : i = 0 ∨ i = 1 := by omega
        rcases this with rfl | rfl <;> omega
      · have : i = 0 ∨ i = 1 ∨ i = 2 := by omega
        rcases this with rfl | rfl | rfl <;> omega
theorem promK_ge {r E : Int} (hE : 1 ≤ E) (hr : r ≤ 3) : ¬ (promK r E : Int) * E < r := by
  unfold promK
  split
  · omega
  · split
    · omega
    · split <;> omega
theorem promK_le (r E : Int) : promK r E ≤ 3 := by
  unfold promK
  split
  · omega
  · split
    · omega
    · split <;> omega
theorem sum_le_mul : ∀ {l : List Int} {c : Int}, (∀ d ∈ l, d ≤ c) → l.sum ≤ c * (l.length : Int)
  | [], c, _ => by simp
  | a :: l, c, h => by
    have h1 := h a (by simp)
    have h2 := sum_le_mul (l := l) fun d hd => h d (List.mem_cons_of_mem _ hd)
    rw [List.sum_cons, List.length_cons, Int.natCast_add, Int.mul_add]
    omega
theorem tidyK_nodup {p : Nat} {q : Poly} (h : (q.map (·.1)).Nodup) : ((tidyK p q).map (·.1)).Nodup := by
  have hp := (List.mergeSort_perm ((q.filter fun t => !decide (t.2 % (p : Int) = 0)).map fun t => (t.1, t.2 % (p : Int))) leT).map (·.1)
  refine hp.nodup_iff.mpr ?_
  rw [List.map_map]
  exact (List.filter_sublist.map _).nodup h
theorem onK_nodup (p n : Nat) (zs : List (List Int)) (a b : Int) : ((onK p n zs a b).map (·.1)).Nodup := by
  refine tidyK_nodup ?_
  unfold polyK
  rw [List.map_map]
  simpa [Function.comp_def] using pts_nodup p n
theorem sum_pos : ∀ {l : List Int}, (∀ d ∈ l, 1 ≤ d) → l ≠ [] → 1 ≤ l.sum
  | [], _, h => absurd rfl h
  | [a], h, _ => by have := h a (by simp); simp; omega
  | a :: b :: l, h, _ => by
    have h1 := h a (by simp)
    have h2 := sum_pos (l := b :: l) (fun d hd => h d (List.mem_cons_of_mem _ hd)) (by simp)
    rw [List.sum_cons]
    omega
section
variable {p n : Nat} {qs : List Poly}
theorem degsK_pos (hs : SysOk p n qs) : ∀ d ∈ degsK qs, 1 ≤ d := fun d hd => by
  obtain ⟨q, hq, rfl⟩ := List.mem_map.mp hd; exact hs.degs q hq
theorem degsK_ne (hs : SysOk p n qs) : degsK qs ≠ [] := fun e => by
  have := congrArg List.length e
  have h1 := hs.one
  simp [degsK] at this
  rw [this] at h1
  simp at h1
theorem degK_le {q : Poly} (hF : Fld p n) (h : PolyOk p n q) : degK q ≤ 120 := by
  rcases List.mem_append.mp (maxL_mem (q.map fun t => t.1.sum)) with h1 | h1
  · obtain ⟨t, ht, e⟩ := List.mem_map.mp h1
    have k := (h.terms t ht).key
    have := sum_le_mul (l := t.1) (c := 30) fun d hd => (k.lo d hd).2
    rw [k.len] at this
    have h4 := hF.n4
    show maxL _ ≤ 120
    rw [← e]
    omega
  · have := List.mem_singleton.mp h1
    show maxL _ ≤ 120
    omega
theorem degs_le (hF : Fld p n) (hs : SysOk p n qs) : (degsK qs).sum ≤ 480 := by
  have := sum_le_mul (l := degsK qs) (c := 120) fun d hd => by
    obtain ⟨q, hq, rfl⟩ := List.mem_map.mp hd; exact degK_le hF (hs.polys q hq)
  have h2 := hs.few
  have h3 : (degsK qs).length = qs.length := by simp [degsK]
  omega
theorem maxL_pos {l : List Int} (h : ∀ d ∈ l, 1 ≤ d) (hn : l ≠ []) : 1 ≤ maxL l ∧ maxL l ∈ l := by
  cases l with
  | nil => exact absurd rfl hn
  | cons a l =>
    have h1 := maxL_le (a :: l) a (by simp)
    have h2 := h a (by simp)
    rcases List.mem_append.mp (maxL_mem (a :: l)) with h3 | h3
    · exact ⟨by omega, h3⟩
    · have := List.mem_singleton.mp h3
      omega
end
section
variable {w : World} {P : Program} {mg : Str → Option Value} {K : PySem.W.Frag} {base : Heap}
theorem look_bl {zs : List (List Int)} {x : List Int} : (look (zs.map fun y => (y, PyData.bool true)) x).isSome = decide (x ∈ zs) := by
  induction zs with
  | nil => rfl
  | cons y zs ih =>
    unfold look at ih ⊢
    rw [List.map_cons, List.find?_cons]
    by_cases h : y = x
    · rw [decide_eq_true h]
      simp [h]
    · rw [decide_eq_false h, ih]
      simp [Ne.symm h]
abbrev s_poly_on : Stmt := topP 36
theorem sc_poly_on : FnScope ["field", "some", "rest", "other", "known", "point"] ["field", "some", "rest", "other"] (defScope s_poly_on) := ⟨rfl, rfl, rfl, by decide +kernel, rfl, by decide +kernel, by decide +kernel⟩
def R_poly_on : List EV → EV → Prop := fun xs r => ∃ (p n : Nat) (zs : List (List Int)) (a b : Int), xs = [.d (fD p n), .d (.list (zs.map keyD)), iv a, iv b] ∧ Fld p n ∧ zs.Nodup ∧ zs.length ≤ 700 ∧ r = .f ((onK p n zs a b).map tD)
theorem ok_poly_on (T : Txt K mg) (D : DefAt K mg "poly_on" s_poly_on ["field", "some", "rest", "other"]) (O_allpoints : Ok P w K mg base "all_points" 2 (spD R_all_points)) (O_poly_by : Ok P w K mg base "poly_by" 3 (spD R_poly_by)) : Ok P w K mg base "poly_on" 4 (spD R_poly_on) := by
  refine ok_sr D sc_poly_on (fun xs r h => by obtain ⟨p, n, q, a, b, rfl, _⟩ := h; rfl) fun f cd A out s H hG hr => ?_
  have hu := hu_of hr
  have hu0 := hr.units0
  refine ⟨_, pss_cons (ps_set (i := 4) sc_poly_on.nd rfl (Or.inr rfl) (pe_dcT (own := [("point", 5)]) hu0 rfl sc_poly_on.nd (pi_seqK (K := K) rfl (pv 1)) (blkOk_by (N := ["field", "some", "rest", "other", "known", "point"]) (sc := defScope s_poly_on) (by decide +kernel)) (fun _ _ _ _ _ => (pg_name (i := 5) sc_poly_on.nd rfl (Or.inl rfl))) (fun _ _ _ _ _ => (pv 5)) (fun _ _ _ _ _ => (pe_bl)))) (pss_one (ps_ret (pe_ok O_poly_by hG (hr.mono (by decide)) (by rfl) (pa_cons (pv 0) (pa_cons (pe_lc (own := [("point", 5)]) (tt := tYes) rfl sc_poly_on.nd (pi_seqK (K := K) rfl (pe_ok O_allpoints hG (hr.mono (by decide)) (by rfl) (pa_cons (pv 0) pa_nil))) (blkOk_by (N := ["field", "some", "rest", "other", "known", "point"]) (sc := defScope s_poly_on) (by decide +kernel)) (fun _ _ _ _ _ => (pg_name (i := 5) sc_poly_on.nd rfl (Or.inl rfl))) (fun _ _ _ _ _ => pts_nil) (fun _ _ _ _ _ => (pe_ifExp (pt_cmp (pc_din hu (pv 5) (pv 4)) (by rfl)) (pv 2) (pv 3)))) pa_nil))))), ?_⟩
  rintro xs r ⟨p, n, zs, a, b, rfl, hF, nd, hz, rfl⟩
  have hp := pts_few hF (Nat.le_refl n)
  refine sr_seq (sn_asg (ee_is (y := .t (zs.map fun y => (y, PyData.bool true))) (ee_dcT zs keyD (fun x => x) (fun _ => .bool true) (wi_seq (ee_var rfl) (sv_l _)) (by omega) fun x hx => ⟨_, _, ge_name, by decide, ee_var rfl, ee_bl⟩) ?_)) (sr_one (sr_ret (ee_cal (ea_cons (ee_var rfl) (ea_cons (x := .d (lD ((pts p n).map fun x => if x ∈ zs then a else b))) (ee_is (ee_lcm (pts p n) keyD (fun x => .int (if x ∈ zs then a else b)) (wi_seq (ee_cal (ea_cons (ee_var rfl) ea_nil) ⟨p, n, rfl, hF, rfl⟩) (sv_l _)) (by omega) fun x hx => ⟨_, _, ge_name, by decide, ee_if (eb_B (ee_inT (ee_var rfl) (ee_var rfl))) (fun h => ee_is (ee_var rfl) ?_) (fun h => ee_is (ee_var rfl) ?_)⟩) (by simp)) ea_nil)) ⟨p, n, _, rfl, hF, by rw [List.length_map, pts_length], rfl⟩)))
  · rw [fold_put (fun x => x) (fun _ => PyData.bool true) zs [] (by simpa using nd)]
    rfl
  · rw [look_bl] at h
    rw [if_pos (of_decide_eq_true h)]
  · rw [look_bl] at h
    rw [if_neg (of_decide_eq_false h)]
abbrev s_indicator_of : Stmt := topP 37
theorem sc_indicator_of : FnScope ["field", "system"] ["field", "system"] (defScope s_indicator_of) := ⟨rfl, rfl, rfl, by decide +kernel, rfl, by decide +kernel, by decide +kernel⟩
def R_indicator_of : List EV → EV → Prop := fun xs r => ∃ (p n : Nat) (qs : List Poly), xs = [.d (fD p n), .d (sD qs)] ∧ Fld p n ∧ SysOk p n qs ∧ r = .f ((onK p n (zK p n qs) 1 0).map tD)
theorem ok_indicator_of (T : Txt K mg) (D : DefAt K mg "indicator_of" s_indicator_of ["field", "system"]) (O_zeros_of : Ok P w K mg base "zeros_of" 4 (spD R_zeros_of)) (O_poly_on : Ok P w K mg base "poly_on" 4 (spD R_poly_on)) : Ok P w K mg base "indicator_of" 5 (spD R_indicator_of) := by
  refine ok_sr D sc_indicator_of (fun xs r h => by obtain ⟨p, n, q, rfl, _⟩ := h; rfl) fun f cd A out s H hG hr => ?_
  refine ⟨_, pss_one (ps_ret (pe_ok O_poly_on hG (hr.mono (by decide)) (by rfl) (pa_cons (pv 0) (pa_cons (pe_ok O_zeros_of hG (hr.mono (by decide)) (by rfl) (pa_cons (pv 0) (pa_cons (pv 1) pa_nil))) (pa_cons (pe_int) (pa_cons (pe_int) pa_nil)))))), ?_⟩
  rintro xs r ⟨p, n, qs, rfl, hF, hs, rfl⟩
  exact sr_one (sr_ret (ee_cal (ea_cons (ee_var rfl) (ea_cons (ee_cal (ea_cons (ee_var rfl) (ea_cons (ee_var rfl) ea_nil)) ⟨p, n, qs, rfl, hF, hs, rfl⟩) (ea_cons ee_int (ea_cons ee_int ea_nil)))) ⟨p, n, zK p n qs, 1, 0, rfl, hF, (zK_sub p n qs).nodup (pts_nodup p n), Nat.le_trans (zK_sub p n qs).length_le (pts_few hF (Nat.le_refl n)), rfl⟩))
abbrev s_promise_of : Stmt := topP 39
theorem sc_promise_of : FnScope ["field", "system", "degrees", "found", "poly"] ["field", "system"] (defScope s_promise_of) := ⟨rfl, rfl, rfl, by decide +kernel, rfl, by decide +kernel, by decide +kernel⟩
def R_promise_of : List EV → EV → Prop := fun xs r => ∃ (p n : Nat) (qs : List Poly), xs = [.d (fD p n), .d (sD qs)] ∧ Fld p n ∧ SysOk p n qs ∧ r = iv (promK ((n : Int) - (degsK qs).sum) (maxL (degsK qs)) : Int)
theorem ok_promise_of (T : Txt K mg) (D : DefAt K mg "promise_of" s_promise_of ["field", "system"]) (O_degree_of : Ok P w K mg base "degree_of" 1 (spD R_degree_of)) : Ok P w K mg base "promise_of" 2 (spD R_promise_of) := by
  refine ok_sr D sc_promise_of (fun xs r h => by obtain ⟨p, n, q, rfl, _⟩ := h; rfl) fun f cd A out s H hG hr => ?_
  refine ⟨_, pss_cons (ps_setLc (i := 2) (own := [("poly", 4)]) (tt := tYes) rfl sc_promise_of.nd rfl rfl (sw_true rfl rfl rfl (by decide +kernel)) (pi_seqK (K := K) rfl (pv 1)) (blkOk_by (N := ["field", "system", "degrees", "found", "poly"]) (sc := defScope s_promise_of) (by decide +kernel)) (fun _ _ _ _ _ => (pg_name (i := 4) sc_promise_of.nd rfl (Or.inl rfl))) (fun _ _ _ _ _ => pts_nil) (fun _ _ _ _ _ => (pe_ok O_degree_of hG (hr.mono (by decide)) (by rfl) (pa_cons (pv 4) pa_nil)))) (pss_cons (ps_set (i := 3) sc_promise_of.nd rfl (Or.inl rfl) (pe_int)) (pss_cons (ps_while PassesOwn.never (pt_cmpR op_lt (pe_op op_mul (pv 3) (pe_callB (cr_maxK (K := K) rfl rfl) (by rfl) T.m_max boot_max (pa_cons (pv 2) pa_nil))) (pe_op op_sub (pe_ix (ix_seqK (K := K) rfl) (pv 0) (pe_int) (fun _ _ => rfl)) (pe_callB (cr_sumA rfl) (by rfl) T.m_sum boot_sum (pa_cons (pv 2) pa_nil))) (nomark _)) (pss_one (ps_aug (i := 3) sc_promise_of.nd rfl (Or.inl rfl) (pe_int) ip_add))) (pss_one (ps_ret (pv 3))))), ?_⟩
  rintro xs r ⟨p, n, qs, rfl, hF, hs, rfl⟩
  have h4 := hF.n4
  have hf := hs.few
  have hE := maxL_pos (degsK_pos hs) (degsK_ne hs)
  have hS := sum_pos (degsK_pos hs) (degsK_ne hs)
  have hlen : 0 < (degsK qs).length := List.length_pos_iff.mpr (degsK_ne hs)
  have tst : ∀ (i : Nat), i ≤ 3 → EvB _ [some (.d (fD p n)), some (.d (sD qs)), some (.d (lD (degsK qs))), some (iv (i : Int)), none] (decide ((i : Int) * maxL (degsK qs) < (n : Int) - (degsK qs).sum)) := fun i hi => eb_test (ee_lt (ee_mul (ee_var (i := 3) rfl) (ee_max (K := K) (ee_var (i := 2) rfl) hlen fun m' h1 h2 => Int.le_antisymm ((maxL_spec _ _).2.2 _ h1) (h2 _ hE.2)) (.inl ⟨by omega, by omega⟩)) (ee_sub (ee_n (K := K) (ee_var (i := 0) rfl)) (ee_sum (ee_var (i := 2) rfl) (.inr rfl))))
  refine sr_seq (sn_asg (ee_is (y := .d (lD (degsK qs))) (ee_lcm qs pD (fun q => .int (degK q)) (wi_seq (ee_var rfl) (sv_t _)) (by omega) fun q hq => ⟨_, _, ge_name, by decide, ee_cal (ea_cons (ee_var rfl) ea_nil) ⟨q, _, rfl, sv_t _, by have := (hs.polys q hq).few; omega, rfl⟩⟩) (by simp [degsK]))) (sr_seq (sn_asg ee_int) (sr_seq (sn_while (fun i => [some (.d (fD p n)), some (.d (sD qs)), some (.d (lD (degsK qs))), some (iv (i : Int)), none]) (fun i => [some (.d (fD p n)), some (.d (sD qs)), some (.d (lD (degsK qs))), some (iv ((i : Int) + 1)), none]) (promK ((n : Int) - (degsK qs).sum) (maxL (degsK qs))) (.cons (.inr rfl) (.cons (.inr rfl) (.cons (.inr rfl) (.cons (.inr rfl) (.cons (.inl rfl) .nil))))) (fun i hi => ⟨eb_is (tst i (by have := promK_le ((n : Int) - (degsK qs).sum) (maxL (degsK qs)); omega)) (decide_eq_true (promK_lt i hi)), sn_one (sn_aug rfl ee_int), (.cons (.inr rfl) (.cons (.inr rfl) (.cons (.inr rfl) (.cons (.inr rfl) (.cons (.inl rfl) .nil)))))⟩) (eb_is (tst _ (promK_le _ _)) (decide_eq_false (promK_ge hE.1 (by omega))))) (sr_one (sr_ret (ee_var rfl)))))
abbrev s_promise : Stmt := topP 40
theorem sc_promise : FnScope ["field", "system"] ["field", "system"] (defScope s_promise) := ⟨rfl, rfl, rfl, by decide +kernel, rfl, by decide +kernel, by decide +kernel⟩
def R_promise : List EV → EV → Prop := R_promise_of
theorem ok_promise (T : Txt K mg) (D : DefAt K mg "promise" s_promise ["field", "system"]) (O_need_system : Ok P w K mg base "need_system" 6 (spD R_need_system)) (O_promise_of : Ok P w K mg base "promise_of" 2 (spD R_promise_of)) : Ok P w K mg base "promise" 7 (spD R_promise) := by
  refine ok_sr D sc_promise (fun xs r h => by obtain ⟨p, n, q, rfl, _⟩ := h; rfl) fun f cd A out s H hG hr => ?_
  refine ⟨_, pss_one (ps_ret (pe_ok O_promise_of hG (hr.mono (by decide)) (by rfl) (pa_cons (pv 0) (pa_cons (pe_ok O_need_system hG (hr.mono (by decide)) (by rfl) (pa_cons (pv 0) (pa_cons (pv 1) pa_nil))) pa_nil)))), ?_⟩
  rintro xs r ⟨p, n, qs, rfl, hF, hs, rfl⟩
  exact sr_one (sr_ret (ee_cal (ea_cons (ee_var rfl) (ea_cons (ee_cal (ea_cons (ee_var rfl) (ea_cons (ee_var rfl) ea_nil)) ⟨p, n, qs, rfl, hF, hs, rfl⟩) ea_nil)) ⟨p, n, qs, rfl, hF, hs, rfl⟩))
abbrev s_top : Stmt := topP 41
theorem sc_top : FnScope ["field", "system", "known"] ["field", "system"] (defScope s_top) := ⟨rfl, rfl, rfl, by decide +kernel, rfl, by decide +kernel, by decide +kernel⟩
def R_top : List EV → EV → Prop := fun xs r => ∃ (p n : Nat) (qs : List Poly), xs = [.d (fD p n), .d (sD qs)] ∧ Fld p n ∧ SysOk p n qs ∧ r = iv (topK p n qs)
theorem ok_top (T : Txt K mg) (D : DefAt K mg "top" s_top ["field", "system"]) (O_need_system : Ok P w K mg base "need_system" 6 (spD R_need_system)) (O_indicator_of : Ok P w K mg base "indicator_of" 5 (spD R_indicator_of)) : Ok P w K mg base "top" 7 (spD R_top) := by
  refine ok_sr D sc_top (fun xs r h => by obtain ⟨p, n, q, rfl, _⟩ := h; rfl) fun f cd A out s H hG hr => ?_
  have hu := hu_of hr
  have hu8 := (show _ + 8 < _ from Nat.lt_of_le_of_lt (Nat.add_le_add_left (by decide : 8 ≤ 64) _) hr.units)
  refine ⟨_, pss_cons (ps_set (i := 2) sc_top.nd rfl (Or.inl rfl) (pe_callTy (call_dictT rfl hu8) (by rfl) T.m_dict boot_dict (pa_cons (pe_ok O_indicator_of hG (hr.mono (by decide)) (by rfl) (pa_cons (pv 0) (pa_cons (pe_ok O_need_system hG (hr.mono (by decide)) (by rfl) (pa_cons (pv 0) (pa_cons (pv 1) pa_nil))) pa_nil))) pa_nil))) (pss_one (ps_ret (pe_dget2 hu (pv 2) (pe_op op_repA (pe_tup (pa_cons (pe_op op_sub (pe_ix (ix_seqK (K := K) rfl) (pv 0) (pe_int) (fun _ _ => rfl)) (pe_int)) pa_nil)) (pe_ix (ix_seqK (K := K) rfl) (pv 0) (pe_int) (fun _ _ => rfl))) (pe_int) ⟨rfl, rfl, rfl, rfl⟩))), ?_⟩
  rintro xs r ⟨p, n, qs, rfl, hF, hs, rfl⟩
  have h4 := hF.n4
  have h1 := hF.n1
  have hp := pts_few hF (Nat.le_refl n)
  refine sr_seq (sn_asg (ee_dictT (ee_cal (ea_cons (ee_var rfl) (ea_cons (ee_cal (ea_cons (ee_var rfl) (ea_cons (ee_var rfl) ea_nil)) ⟨p, n, qs, rfl, hF, hs, rfl⟩) ea_nil)) ⟨p, n, qs, rfl, hF, hs, rfl⟩) ?_ ?_)) (sr_one (sr_ret (ee_is (ee_get2T (k := List.replicate n ((p : Int) - 1)) (d := .int 0) (ee_var rfl) (ee_is (ee_repT (ds := [.int ((p : Int) - 1)]) (ee_tup (ea_cons (ee_sub (ee_p (ee_var rfl)) ee_int) ea_nil) (by simp)) (ee_n (ee_var rfl)) (by omega) (by omega) (by simp) (by simp)) ?_) ee_int) ?_)))
  · exact onK_nodup _ _ _ _ _
  · exact Nat.le_trans (tidyK_len _ _) (by rw [polyK, List.length_map]; omega)
  · simp [keyD]
  · rw [look_map]
    unfold topK
    cases look (onK p n (zK p n qs) 1 0) (List.replicate n ((p : Int) - 1)) <;> rfl
abbrev s_least_zeros : Stmt := topP 42
theorem sc_least_zeros : FnScope ["field", "system", "found", "turn", "poly"] ["field", "system"] (defScope s_least_zeros) := ⟨rfl, rfl, rfl, by decide +kernel, rfl, by decide +kernel, by decide +kernel⟩
def R_least_zeros : List EV → EV → Prop := fun xs r => ∃ (p n : Nat) (qs : List Poly), xs = [.d (fD p n), .d (sD qs)] ∧ Fld p n ∧ SysOk p n qs ∧ r = iv ((p : Int) ^ ((n : Int) - (degsK qs).sum).toNat)
theorem ok_least_zeros (T : Txt K mg) (D : DefAt K mg "least_zeros" s_least_zeros ["field", "system"]) (O_need_system : Ok P w K mg base "need_system" 6 (spD R_need_system)) (O_degree_of : Ok P w K mg base "degree_of" 1 (spD R_degree_of)) : Ok P w K mg base "least_zeros" 7 (spD R_least_zeros) := by
  refine ok_sr D sc_least_zeros (fun xs r h => by obtain ⟨p, n, q, rfl, _⟩ := h; rfl) fun f cd A out s H hG hr => ?_
  refine ⟨_, pss_cons (ps_expr (pe_ok O_need_system hG (hr.mono (by decide)) (by rfl) (pa_cons (pv 0) (pa_cons (pv 1) pa_nil)))) (pss_cons (ps_set (i := 2) sc_least_zeros.nd rfl (Or.inl rfl) (pe_int)) (pss_cons (ps_for PassesOwn.never rfl (pi_range1 (by rfl) T.m_range (pa_cons (pe_op op_sub (pe_ix (ix_seqK (K := K) rfl) (pv 0) (pe_int) (fun _ _ => rfl)) (pe_callB (cr_sumA rfl) (by rfl) T.m_sum boot_sum (pa_cons (pe_lc (own := [("poly", 4)]) (tt := tYes) rfl sc_least_zeros.nd (pi_seqK (K := K) rfl (pv 1)) (blkOk_by (N := ["field", "system", "found", "turn", "poly"]) (sc := defScope s_least_zeros) (by decide +kernel)) (fun _ _ _ _ _ => (pg_name (i := 4) sc_least_zeros.nd rfl (Or.inl rfl))) (fun _ _ _ _ _ => pts_nil) (fun _ _ _ _ _ => (pe_ok O_degree_of hG (hr.mono (by decide)) (by rfl) (pa_cons (pv 4) pa_nil)))) pa_nil))) pa_nil)) (pg_name (i := 3) sc_least_zeros.nd rfl (Or.inl rfl)) (pss_one (ps_set (i := 2) sc_least_zeros.nd rfl (Or.inl rfl) (pe_op op_mul (pv 2) (pe_ix (ix_seqK (K := K) rfl) (pv 0) (pe_int) (fun _ _ => rfl)))))) (pss_one (ps_ret (pv 2))))), ?_⟩
  rintro xs r ⟨p, n, qs, rfl, hF, hs, rfl⟩
  have h4 := hF.n4
  have h7 := hF.le7
  have hS := sum_pos (degsK_pos hs) (degsK_ne hs)
  refine sr_seq (sn_drop (ee_cal (ea_cons (ee_var rfl) (ea_cons (ee_var rfl) ea_nil)) ⟨p, n, qs, rfl, hF, hs, rfl⟩)) (sr_seq (sn_asg ee_int) (sr_seq (sn_rngI (n := (n : Int) - (degsK qs).sum) (fun i => [some (.d (fD p n)), some (.d (sD qs)), some (iv ((p : Int) ^ i)), none, none]) (ee_sub (ee_n (ee_var rfl)) (ee_sum (ns := degsK qs) (ee_is (ee_lcm qs pD (fun q => .int (degK q)) (wi_seq (ee_var rfl) (sv_t _)) (by have := hs.few; omega) fun q hq => ⟨_, _, ge_name, by decide, ee_cal (ea_cons (ee_var rfl) ea_nil) ⟨q, _, rfl, sv_t _, by have := (hs.polys q hq).few; omega, rfl⟩⟩) (by simp [degsK])) (.inr rfl))) ?_ (by omega) (.cons (.inr rfl) (.cons (.inr rfl) (.cons (.inr rfl) (.cons (.inl rfl) (.cons (.inl rfl) .nil))))) fun i hi => ?_) (sr_one (sr_ret (ee_var rfl)))))
  · have := degs_le hF hs
    omega
  · exact ⟨_, sn_one (sn_asg (ee_mul (ee_var rfl) (ee_p (ee_var rfl)) (cmul_small (by omega) (by omega)))), (.cons (.inr rfl) (.cons (.inr rfl) (.cons (.inr rfl) (.cons (.inl rfl) (.cons (.inl rfl) .nil)))))⟩
end
end Pz
namespace Pz
open PySem PySem.Spec PyProof.Rows L2 Evl StX
/-! ### the law's own defs -/
def lzK (p n : Nat) (qs : List Poly) : List (List Int) := qs.foldl (fun l q => l.filter fun x => decide (evK q x % (p : Int) = 0)) (pts p n)
theorem lzK_sub (p n : Nat) (qs : List Poly) : List.Sublist (lzK p n qs) (pts p n) := by
  have : ∀ (qs : List Poly) (l : List (List Int)), List.Sublist (qs.foldl (fun l q => l.filter fun x => decide (evK q x % (p : Int) = 0)) l) l := by
    intro qs
    induction qs with
    | nil => exact fun l => List.Sublist.refl l
    | cons q qs ih => exact fun l => (ih _).trans List.filter_sublist
  exact this qs _
section
variable {w : World} {P : Program} {mg : Str → Option Value} {K : PySem.W.Frag} {base : Heap}
abbrev s_size : Stmt := topP 48
theorem sc_size : FnScope ["frame", "found", "turn"] ["frame"] (defScope s_size) := ⟨rfl, rfl, rfl, by decide +kernel, rfl, by decide +kernel, by decide +kernel⟩
theorem ok_size (T : Txt K mg) (D : DefAt K mg "_law_size" s_size ["frame"]) : Ok P w K mg base "_law_size" 1 (spD R_size_of) := by
  refine ok_sr D sc_size (fun xs r h => by obtain ⟨p, n, rfl, _⟩ := h; rfl) fun f cd A out s H hG hr => ?_
  refine ⟨_, pss_cons (ps_set (i := 1) sc_size.nd rfl (Or.inl rfl) (pe_int)) (pss_cons (ps_for PassesOwn.never rfl (pi_range1 (by rfl) T.m_range (pa_cons (pe_ix (ix_seqK (K := K) rfl) (pv 0) (pe_int) (fun _ _ => rfl)) pa_nil)) (pg_name (i := 2) sc_size.nd rfl (Or.inl rfl)) (pss_one (ps_set (i := 1) sc_size.nd rfl (Or.inl rfl) (pe_op op_mul (pv 1) (pe_ix (ix_seqK (K := K) rfl) (pv 0) (pe_int) (fun _ _ => rfl)))))) (pss_one (ps_ret (pv 1)))), ?_⟩
  rintro xs r ⟨p, n, rfl, hF, rfl⟩
  have h7 := hF.le7
  have h4 := hF.n4
  refine sr_seq (sn_asg ee_int) (sr_seq (sn_rng1 (fun i => [some (.d (fD p n)), some (iv ((p : Int) ^ i)), none]) (ee_n (ee_var rfl)) (by omega) (.cons (.inr rfl) (.cons (.inr rfl) (.cons (.inl rfl) .nil))) fun i hi => ?_) (sr_one (sr_ret (ee_var rfl))))
  refine ⟨_, sn_one (sn_asg (ee_mul (ee_var rfl) (ee_p (ee_var rfl)) (cmul_small (by omega) (by omega)))), (.cons (.inr rfl) (.cons (.inr rfl) (.cons (.inl rfl) .nil)))⟩
abbrev s_spots : Stmt := topP 49
theorem sc_spots : FnScope ["frame", "rows", "turn", "longer", "row", "rest"] ["frame"] (defScope s_spots) := ⟨rfl, rfl, rfl, by decide +kernel, rfl, by decide +kernel, by decide +kernel⟩
theorem ok_spots (T : Txt K mg) (D : DefAt K mg "_law_spots" s_spots ["frame"]) : Ok P w K mg base "_law_spots" 1 (spD R_all_points) := by
  refine ok_sr D sc_spots (fun xs r h => by obtain ⟨p, n, rfl, _⟩ := h; rfl) fun f cd A out s H hG hr => ?_
  refine ⟨_, pss_cons (ps_set (i := 1) sc_spots.nd rfl (Or.inl rfl) (pe_lst (pa_cons (pe_tup pa_nil) pa_nil))) (pss_cons (ps_for PassesOwn.never rfl (pi_range1 (by rfl) T.m_range (pa_cons (pe_ix (ix_seqK (K := K) rfl) (pv 0) (pe_int) (fun _ _ => rfl)) pa_nil)) (pg_name (i := 2) sc_spots.nd rfl (Or.inl rfl)) (pss_cons (ps_set (i := 3) sc_spots.nd rfl (Or.inl rfl) (pe_lst pa_nil)) (pss_cons (ps_for PassesOwn.never rfl (pi_seqK (K := K) rfl (pv 1)) (pg_name (i := 4) sc_spots.nd rfl (Or.inr rfl)) (pss_one (ps_set (i := 3) sc_spots.nd rfl (Or.inl rfl) (pe_op op_cat (pv 3) (pe_lc (own := [("rest", 5)]) (tt := tYes) rfl sc_spots.nd (pi_range1 (by rfl) T.m_range (pa_cons (pe_ix (ix_seqK (K := K) rfl) (pv 0) (pe_int) (fun _ _ => rfl)) pa_nil)) (blkOk_by (N := ["frame", "rows", "turn", "longer", "row", "rest"]) (sc := defScope s_spots) (by decide +kernel)) (fun _ _ _ _ _ => (pg_name (i := 5) sc_spots.nd rfl (Or.inl rfl))) (fun _ _ _ _ _ => pts_nil) (fun _ _ _ _ _ => (pe_op (op_catAK (K := K) rfl) (pv 4) (pe_tup (pa_cons (pv 5) pa_nil))))))))) (pss_one (ps_set (i := 1) sc_spots.nd rfl (Or.inl rfl) (pv 3)))))) (pss_one (ps_ret (pv 1)))), ?_⟩
  rintro xs r ⟨p, n, rfl, hF, rfl⟩
  have h7 := hF.le7
  have h4 := hF.n4
  refine sr_seq (sn_asg (ee_lst (ds := [.tuple []]) (ea_cons (ee_tup (ds := []) ea_nil (by decide)) ea_nil) (by decide))) (sr_seq (sn_rng1 (fun i => [some (.d (fD p n)), some (.d (.list ((pts p i).map keyD))), none, none, none, none]) (ee_n (ee_var rfl)) (by omega) (.cons (.inr rfl) (.cons (.inr rfl) (.cons (.inl rfl) (.cons (.inl rfl) (.cons (.inl rfl) (.cons (.inl rfl) .nil)))))) fun i hi => ?_) (sr_one (sr_ret (ee_var rfl))))
  refine ⟨_, sn_seq (sn_asg (ee_lst (ds := []) ea_nil (by decide))) (sn_seq (sn_forM (pts p i) keyD (fun m => [some (.d (fD p n)), some (.d (.list ((pts p i).map keyD))), none, some (.d (.list ((lateK p i m).map keyD))), none, none]) (wi_seq (ee_var rfl) (sv_l _)) (.cons (.inr rfl) (.cons (.inr rfl) (.cons (.inl rfl) (.cons (.inr rfl) (.cons (.inl rfl) (.cons (.inl rfl) .nil)))))) fun m k hk => ?_) (sn_one (sn_asg (ee_var rfl)))), .cons (.inr rfl) (.cons (.inr ?_) (.cons (.inl rfl) (.cons (.inl rfl) (.cons (.inl rfl) (.cons (.inl rfl) .nil)))))⟩
  · have hk1 := (mem_pts.mp (List.mem_of_getElem? hk)).1
    have hl := lateK_len hF hi hk (Nat.le_refl p)
    refine ⟨_, _, _, ge_name, sn_one (sn_asg (ee_cat (ee_var rfl) (ee_lcm (List.range p) (fun (j : Nat) => .int (0 + (j : Int))) (fun j => keyD (k ++ [((j : Nat) : Int)])) ?_ (by simp; omega) fun j hj => ⟨_, _, ge_name, by decide, ee_is (ee_catT (ee_var rfl) (ee_tup (ds := [.int (0 + ((j : Nat) : Int))]) (ea_cons (ee_var rfl) ea_nil) (by simp)) (by simp; omega)) (by simp [keyD])⟩) (by simp [kidsK] at hl ⊢; omega))), .cons (.inr rfl) (.cons (.inr rfl) (.cons (.inl rfl) (.cons (.inr ?_) (.cons (.inl rfl) (.cons (.inl rfl) .nil)))))⟩
    · rw [← rngD_map]
      exact wi_rng1 (ea_cons (ee_p (ee_var rfl)) ea_nil) (by omega) (by omega)
    · rw [lateK_next hk]
      simp [kidsK]
  · rw [lateK_all]
abbrev s_high : Stmt := topP 51
theorem sc_high : FnScope ["sheet", "key", "rest"] ["sheet"] (defScope s_high) := ⟨rfl, rfl, rfl, by decide +kernel, rfl, by decide +kernel, by decide +kernel⟩
theorem ok_high (T : Txt K mg) (D : DefAt K mg "_law_high" s_high ["sheet"]) : Ok P w K mg base "_law_high" 1 (spD R_degree_of) := by
  refine ok_sr D sc_high (fun xs r h => by obtain ⟨q, u, rfl, _⟩ := h; rfl) fun f cd A out s H hG hr => ?_
  refine ⟨_, pss_one (ps_ret (pe_callB (cr_maxK (K := K) rfl rfl) (by rfl) T.m_max boot_max (pa_cons (pe_op op_cat (pe_lc (own := [("key", 1), ("rest", 2)]) (tt := tYes) rfl sc_high.nd (pi_seqK (K := K) rfl (pv 0)) (blkOk_by (N := ["sheet", "key", "rest"]) (sc := defScope s_high) (by decide +kernel)) (fun _ _ _ _ _ => (pg_tupK (K := K) (n := 2) rfl rfl (pgs_cons (pg_name (i := 1) sc_high.nd rfl (Or.inl rfl)) (pgs_cons (pg_name (i := 2) sc_high.nd rfl (Or.inl rfl)) pgs_nil)))) (fun _ _ _ _ _ => pts_nil) (fun _ _ _ _ _ => (pe_callB (cr_sumA rfl) (by rfl) T.m_sum boot_sum (pa_cons (pv 1) pa_nil)))) (pe_lst (pa_cons (pe_un un_neg (pe_int)) pa_nil))) pa_nil))), ?_⟩
  rintro xs r ⟨q, u, rfl, hu, hz, rfl⟩
  refine sr_one (sr_ret (ee_max (ns := (q.map fun t => t.1.sum) ++ [-1]) (ee_is (ee_cat (ee_lcm q tD (fun t => .int t.1.sum) (wi_seq (ee_var rfl) hu) (by omega) fun t ht => ⟨_, _, ge_two, by decide, ee_sum (ee_var rfl) (.inl rfl)⟩) (ee_lst (ds := [.int (-1)]) (ea_cons (ee_neg ee_int) ea_nil) (by decide)) (by simp; omega)) ?_) (by simp) fun m' h1 h2 => ?_))
  · simp
  · exact Int.le_antisymm (maxL_le _ _ h1) (h2 _ (maxL_mem _))
abbrev s_lraised : Stmt := topP 53
theorem sc_lraised : FnScope ["base", "power", "prime", "found", "turn"] ["base", "power", "prime"] (defScope s_lraised) := ⟨rfl, rfl, rfl, by decide +kernel, rfl, by decide +kernel, by decide +kernel⟩
theorem ok_lraised (T : Txt K mg) (D : DefAt K mg "_law_raised" s_lraised ["base", "power", "prime"]) : Ok P w K mg base "_law_raised" 1 (spD R_raised) := by
  refine ok_sr D sc_lraised (fun xs r h => by obtain ⟨p, n, k, rfl, _⟩ := h; rfl) fun f cd A out s H hG hr => ?_
  refine ⟨_, pss_cons (ps_set (i := 3) sc_lraised.nd rfl (Or.inl rfl) (pe_int)) (pss_cons (ps_for PassesOwn.never rfl (pi_range1 (by rfl) T.m_range (pa_cons (pv 1) pa_nil)) (pg_name (i := 4) sc_lraised.nd rfl (Or.inl rfl)) (pss_one (ps_set (i := 3) sc_lraised.nd rfl (Or.inl rfl) (pe_op op_mod (pe_callTy call_int1 (by rfl) T.m_int boot_int (pa_cons (pe_op op_mul (pv 3) (pv 0)) pa_nil)) (pv 2))))) (pss_one (ps_ret (pv 3)))), ?_⟩
  rintro xs r ⟨a, e, p, rfl, a0, a7, p2, p7, he, rfl⟩
  refine sr_seq (sn_asg ee_int) (sr_seq (sn_rng1 (fun i => [some (iv a), some (iv (e : Int)), some (iv (p : Int)), some (iv (a ^ i % (p : Int))), none]) (ee_var rfl) (by omega) (.cons (.inr rfl) (.cons (.inr rfl) (.cons (.inr rfl) (.cons (.inr ?_) (.cons (.inl rfl) .nil))))) fun i hi => ?_) (sr_one (sr_ret (ee_var rfl))))
  · congr 2
    rw [Int.pow_zero]
    exact Int.emod_eq_of_lt (by decide) (by omega)
  · refine ⟨_, sn_one (sn_asg (ee_is (ee_mod (ee_int1 (ee_mul (ee_var rfl) (ee_var rfl) (cmul_small (by omega) (by omega)))) (ee_var rfl) (by omega)) ?_)), (.cons (.inr rfl) (.cons (.inr rfl) (.cons (.inr rfl) (.cons (.inr rfl) (.cons (.inl rfl) .nil)))))⟩
    rw [emod_step, ← Int.pow_succ]
abbrev s_worth : Stmt := topP 54
theorem sc_worth : FnScope ["frame", "sheet", "spot", "total", "key", "rest", "part", "power", "item"] ["frame", "sheet", "spot"] (defScope s_worth) := ⟨rfl, rfl, rfl, by decide +kernel, rfl, by decide +kernel, by decide +kernel⟩
def R_worth : List EV → EV → Prop := fun xs r => ∃ (p n : Nat) (q : Poly) (x : List Int), xs = [.d (fD p n), .d (pD q), .d (keyD x)] ∧ Fld p n ∧ (∀ t ∈ q, TermOk p n t) ∧ PtOk p n x ∧ r = iv (evK q x % (p : Int))
theorem ok_worth (T : Txt K mg) (D : DefAt K mg "_law_worth" s_worth ["frame", "sheet", "spot"]) (O_lraised : Ok P w K mg base "_law_raised" 1 (spD R_raised)) : Ok P w K mg base "_law_worth" 2 (spD R_worth) := by
  refine ok_sr D sc_worth (fun xs r h => by obtain ⟨p, n, k, x, rfl, _⟩ := h; rfl) fun f cd A out s H hG hr => ?_
  refine ⟨_, pss_cons (ps_set (i := 3) sc_worth.nd rfl (Or.inl rfl) (pe_int)) (pss_cons (ps_for PassesOwn.never rfl (pi_seqK (K := K) rfl (pv 1)) (pg_tupK (K := K) (n := 2) rfl rfl (pgs_cons (pg_name (i := 4) sc_worth.nd rfl (Or.inl rfl)) (pgs_cons (pg_name (i := 5) sc_worth.nd rfl (Or.inl rfl)) pgs_nil))) (pss_cons (ps_set (i := 6) sc_worth.nd rfl (Or.inl rfl) (pv 5)) (pss_cons (ps_for PassesOwn.never rfl (RZ.pi_zipA (by rfl) T.m_zip (pa_cons (pv 4) (pa_cons (pv 2) pa_nil))) (pg_tupK (K := K) (n := 2) rfl rfl (pgs_cons (pg_name (i := 7) sc_worth.nd rfl (Or.inl rfl)) (pgs_cons (pg_name (i := 8) sc_worth.nd rfl (Or.inl rfl)) pgs_nil))) (pss_one (ps_set (i := 6) sc_worth.nd rfl (Or.inl rfl) (pe_op op_mod (pe_callTy call_int1 (by rfl) T.m_int boot_int (pa_cons (pe_op op_mul (pv 6) (pe_ok O_lraised hG (hr.mono (by decide)) (by rfl) (pa_cons (pv 8) (pa_cons (pv 7) (pa_cons (pe_ix (ix_seqK (K := K) rfl) (pv 0) (pe_int) (fun _ _ => rfl)) pa_nil))))) pa_nil)) (pe_ix (ix_seqK (K := K) rfl) (pv 0) (pe_int) (fun _ _ => rfl)))))) (pss_one (ps_set (i := 3) sc_worth.nd rfl (Or.inl rfl) (pe_op op_mod (pe_callTy call_int1 (by rfl) T.m_int boot_int (pa_cons (pe_op op_add (pv 3) (pv 6)) pa_nil)) (pe_ix (ix_seqK (K := K) rfl) (pv 0) (pe_int) (fun _ _ => rfl)))))))) (pss_one (ps_ret (pv 3)))), ?_⟩
  rintro xs r ⟨p, n, q, x, rfl, hF, hq, hx, rfl⟩
  have h7 := hF.le7
  refine sr_seq (sn_asg ee_int) (sr_seq (sn_forM q tD (fun i => [some (.d (fD p n)), some (.d (pD q)), some (.d (keyD x)), some (iv (evK (q.take i) x % (p : Int))), none, none, none, none, none]) (wi_seq (ee_var rfl) (sv_t _)) (.cons (.inr rfl) (.cons (.inr rfl) (.cons (.inr rfl) (.cons (.inr ?_) (.cons (.inl rfl) (.cons (.inl rfl) (.cons (.inl rfl) (.cons (.inl rfl) (.cons (.inl rfl) .nil))))))))) fun i t ht => ?_) (sr_one (sr_ret (ee_is (ee_var rfl) (by rw [List.take_length])))))
  · congr 2
  · have hk := hq t (List.mem_of_getElem? ht)
    have hl : t.1.length = x.length := hk.key.len.trans hx.1.symm
    have l1 := hk.one
    have l2 := hk.less
    refine ⟨_, _, _, ge_two, sn_seq (sn_asg (ee_var rfl)) (sn_seq (sn_forM (t.1.zip x) (fun q => .tuple [.int q.1, .int q.2]) (fun j => [some (.d (fD p n)), some (.d (pD q)), some (.d (keyD x)), some (iv (evK (q.take i) x % (p : Int))), some (.d (keyD t.1)), some (iv t.2), some (iv (t.2 * monK (t.1.take j) (x.take j) % (p : Int))), none, none])
      (by rw [← zipD_map]; exact wi_zip (ea_cons (ee_var rfl) (ea_cons (ee_var rfl) ea_nil)) (by simp [hl])) (.cons (.inr rfl) (.cons (.inr rfl) (.cons (.inr rfl) (.cons (.inr rfl) (.cons (.inr rfl) (.cons (.inr rfl) (.cons (.inr ?_) (.cons (.inl rfl) (.cons (.inl rfl) .nil))))))))) fun j z hz => ?_) (sn_one (sn_asg (ee_mod (ee_int1 (ee_add (ee_var rfl) (ee_var rfl))) (ee_p (ee_var rfl)) (by omega))))), .cons (.inr rfl) (.cons (.inr rfl) (.cons (.inr rfl) (.cons (.inr ?_) (.cons (.inl rfl) (.cons (.inl rfl) (.cons (.inl rfl) (.cons (.inl rfl) (.cons (.inl rfl) .nil))))))))⟩
    · congr 2
      show t.2 * 1 % (p : Int) = t.2
      rw [Int.mul_one]
      exact Int.emod_eq_of_lt (by omega) (by omega)
    · obtain ⟨e, a⟩ := z
      rw [List.getElem?_zip_eq_some] at hz
      obtain ⟨h1, h2⟩ := hz
      have ke := hk.key.lo e (List.mem_of_getElem? h1)
      have ka := hx.2 a (List.mem_of_getElem? h2)
      refine ⟨_, _, _, ge_two, sn_one (sn_asg (ee_is (ee_mod (ee_int1 (ee_mul (ee_var rfl) (ee_cal (ea_cons (ee_var rfl) (ea_cons (ee_is (ee_var rfl) (y := iv ((e.toNat : Nat) : Int)) (by congr 2; show e = _; omega)) (ea_cons (ee_p (ee_var rfl)) ea_nil))) ⟨a, e.toNat, p, rfl, ka.1, by omega, h7.1, h7.2, by omega, rfl⟩) (cmul_small (Int.emod_nonneg _ (by omega)) (Int.le_of_lt (Int.lt_of_lt_of_le (Int.emod_lt_of_pos _ (by omega)) (by omega)))))) (ee_p (ee_var rfl)) (by omega)) rfl)), .cons (.inr rfl) (.cons (.inr rfl) (.cons (.inr rfl) (.cons (.inr rfl) (.cons (.inr rfl) (.cons (.inr rfl) (.cons (.inr ?_) (.cons (.inl rfl) (.cons (.inl rfl) .nil))))))))⟩
      congr 2
      have t1 : t.1.take (j + 1) = t.1.take j ++ [e] := by rw [List.take_add_one, h1]; rfl
      have t2 : x.take (j + 1) = x.take j ++ [a] := by rw [List.take_add_one, h2]; rfl
      rw [t1, t2, monK_snoc (by simp [hl]), ← Int.mul_assoc, ← Int.mul_emod]
    · congr 2
      have tk : q.take (i + 1) = q.take i ++ [t] := by rw [List.take_add_one, ht]; rfl
      have e1 : (t.1.zip x).length = x.length := by simp [hl]
      rw [tk, e1, List.take_of_length_le (show t.1.length ≤ x.length by omega), List.take_of_length_le (Nat.le_refl x.length), ← Int.add_emod]
      simp [evK]
abbrev s_lzeros : Stmt := topP 55
theorem sc_lzeros : FnScope ["frame", "sheets", "found", "sheet", "spot"] ["frame", "sheets"] (defScope s_lzeros) := ⟨rfl, rfl, rfl, by decide +kernel, rfl, by decide +kernel, by decide +kernel⟩
def R_lzeros : List EV → EV → Prop := fun xs r => ∃ (p n : Nat) (qs : List Poly), xs = [.d (fD p n), .d (sD qs)] ∧ Fld p n ∧ SysOk p n qs ∧ r = .d (.list ((lzK p n qs).map keyD))
theorem ok_lzeros (T : Txt K mg) (D : DefAt K mg "_law_zeros" s_lzeros ["frame", "sheets"]) (O_spots : Ok P w K mg base "_law_spots" 1 (spD R_all_points)) (O_worth : Ok P w K mg base "_law_worth" 2 (spD R_worth)) : Ok P w K mg base "_law_zeros" 3 (spD R_lzeros) := by
  refine ok_sr D sc_lzeros (fun xs r h => by obtain ⟨p, n, q, rfl, _⟩ := h; rfl) fun f cd A out s H hG hr => ?_
  refine ⟨_, pss_cons (ps_set (i := 2) sc_lzeros.nd rfl (Or.inl rfl) (pe_ok O_spots hG (hr.mono (by decide)) (by rfl) (pa_cons (pv 0) pa_nil))) (pss_cons (ps_for PassesOwn.never rfl (pi_seqK (K := K) rfl (pv 1)) (pg_name (i := 3) sc_lzeros.nd rfl (Or.inr rfl)) (pss_one (ps_setLc (i := 2) (own := [("spot", 4)]) rfl sc_lzeros.nd rfl rfl (sw_true rfl rfl rfl (by decide +kernel)) (pi_seqK (K := K) rfl (pv 2)) (blkOk_by (N := ["frame", "sheets", "found", "sheet", "spot"]) (sc := defScope s_lzeros) (by decide +kernel)) (fun _ _ _ _ _ => (pg_name (i := 4) sc_lzeros.nd rfl (Or.inl rfl))) (fun _ _ _ _ _ => pts_one (pt_cmpR op_eq (pe_ok O_worth hG (hr.mono (by decide)) (by rfl) (pa_cons (pv 0) (pa_cons (pv 3) (pa_cons (pv 4) pa_nil)))) (pe_int) (nomark _))) (fun _ _ _ _ _ => (pv 4))))) (pss_one (ps_ret (pv 2)))), ?_⟩
  rintro xs r ⟨p, n, qs, rfl, hF, hs, rfl⟩
  refine sr_seq (sn_asg (ee_cal (ea_cons (ee_var rfl) ea_nil) ⟨p, n, rfl, hF, rfl⟩)) (sr_seq (sn_forM qs pD (fun i => [some (.d (fD p n)), some (.d (sD qs)), some (.d (.list ((lzK p n (qs.take i)).map keyD))), none, none]) (wi_seq (ee_var rfl) (sv_t _)) (.cons (.inr rfl) (.cons (.inr rfl) (.cons (.inr rfl) (.cons (.inl rfl) (.cons (.inl rfl) .nil))))) fun i q hq => ?_) (sr_one (sr_ret (ee_is (ee_var rfl) (by rw [List.take_length])))))
  have hq1 := hs.polys q (List.mem_of_getElem? hq)
  have tk : qs.take (i + 1) = qs.take i ++ [q] := by rw [List.take_add_one, hq]; rfl
  have hz := Nat.le_trans (lzK_sub p n (qs.take i)).length_le (pts_few hF (Nat.le_refl n))
  refine ⟨_, _, _, ge_name, sn_one (sn_asg (ee_lc (lzK p n (qs.take i)) keyD (fun x => decide (evK q x % (p : Int) = 0)) keyD (wi_seq (ee_var rfl) (sv_l _)) (by omega) fun x hx => ⟨_, _, ge_name, by decide,
    eb_test (ee_eqI (ee_cal (ea_cons (ee_var rfl) (ea_cons (ee_var rfl) (ea_cons (ee_var rfl) ea_nil))) ⟨p, n, q, x, rfl, hF, hq1.terms, mem_pts.mp ((lzK_sub p n (qs.take i)).subset hx), rfl⟩) ee_int), fun _ => ee_var rfl⟩)), .cons (.inr rfl) (.cons (.inr rfl) (.cons (.inr ?_) (.cons (.inl rfl) (.cons (.inl rfl) .nil))))⟩
  congr 3
  unfold lzK
  rw [tk, List.foldl_append]
  rfl
abbrev s_least : Stmt := topP 57
theorem sc_least : FnScope ["sheets", "frame", "highs", "found", "sheet"] ["sheets", "frame"] (defScope s_least) := ⟨rfl, rfl, rfl, by decide +kernel, rfl, by decide +kernel, by decide +kernel⟩
def R_least : List EV → EV → Prop := fun xs r => ∃ (p n : Nat) (qs : List Poly), xs = [.d (sD qs), .d (fD p n)] ∧ Fld p n ∧ SysOk p n qs ∧ r = iv (promK ((n : Int) - (degsK qs).sum) (maxL (degsK qs)) : Int)
theorem ok_least (T : Txt K mg) (D : DefAt K mg "_law_least" s_least ["sheets", "frame"]) (O_high : Ok P w K mg base "_law_high" 1 (spD R_degree_of)) : Ok P w K mg base "_law_least" 2 (spD R_least) := by
  refine ok_sr D sc_least (fun xs r h => by obtain ⟨p, n, q, rfl, _⟩ := h; rfl) fun f cd A out s H hG hr => ?_
  refine ⟨_, pss_cons (ps_setLc (i := 2) (own := [("sheet", 4)]) (tt := tYes) rfl sc_least.nd rfl rfl (sw_true rfl rfl rfl (by decide +kernel)) (pi_seqK (K := K) rfl (pv 0)) (blkOk_by (N := ["sheets", "frame", "highs", "found", "sheet"]) (sc := defScope s_least) (by decide +kernel)) (fun _ _ _ _ _ => (pg_name (i := 4) sc_least.nd rfl (Or.inl rfl))) (fun _ _ _ _ _ => pts_nil) (fun _ _ _ _ _ => (pe_ok O_high hG (hr.mono (by decide)) (by rfl) (pa_cons (pv 4) pa_nil)))) (pss_cons (ps_set (i := 3) sc_least.nd rfl (Or.inl rfl) (pe_int)) (pss_cons (ps_while PassesOwn.never (pt_cmpR op_lt (pe_op op_mul (pv 3) (pe_callB (cr_maxK (K := K) rfl rfl) (by rfl) T.m_max boot_max (pa_cons (pv 2) pa_nil))) (pe_op op_sub (pe_ix (ix_seqK (K := K) rfl) (pv 1) (pe_int) (fun _ _ => rfl)) (pe_callB (cr_sumA rfl) (by rfl) T.m_sum boot_sum (pa_cons (pv 2) pa_nil))) (nomark _)) (pss_one (ps_set (i := 3) sc_least.nd rfl (Or.inl rfl) (pe_op op_add (pv 3) (pe_int))))) (pss_one (ps_ret (pv 3))))), ?_⟩
  rintro xs r ⟨p, n, qs, rfl, hF, hs, rfl⟩
  have h4 := hF.n4
  have hf := hs.few
  have hE := maxL_pos (degsK_pos hs) (degsK_ne hs)
  have hS := sum_pos (degsK_pos hs) (degsK_ne hs)
  have hlen : 0 < (degsK qs).length := List.length_pos_iff.mpr (degsK_ne hs)
  have tst : ∀ (i : Nat), i ≤ 3 → EvB _ [some (.d (sD qs)), some (.d (fD p n)), some (.d (lD (degsK qs))), some (iv (i : Int)), none] (decide ((i : Int) * maxL (degsK qs) < (n : Int) - (degsK qs).sum)) := fun i hi => eb_test (ee_lt (ee_mul (ee_var (i := 3) rfl) (ee_max (K := K) (ee_var (i := 2) rfl) hlen fun m' h1 h2 => Int.le_antisymm ((maxL_spec _ _).2.2 _ h1) (h2 _ hE.2)) (.inl ⟨by omega, by omega⟩)) (ee_sub (ee_n (K := K) (ee_var (i := 1) rfl)) (ee_sum (ee_var (i := 2) rfl) (.inr rfl))))
  refine sr_seq (sn_asg (ee_is (y := .d (lD (degsK qs))) (ee_lcm qs pD (fun q => .int (degK q)) (wi_seq (ee_var rfl) (sv_t _)) (by omega) fun q hq => ⟨_, _, ge_name, by decide, ee_cal (ea_cons (ee_var rfl) ea_nil) ⟨q, _, rfl, sv_t _, by have := (hs.polys q hq).few; omega, rfl⟩⟩) (by simp [degsK]))) (sr_seq (sn_asg ee_int) (sr_seq (sn_while (fun i => [some (.d (sD qs)), some (.d (fD p n)), some (.d (lD (degsK qs))), some (iv (i : Int)), none]) (fun i => [some (.d (sD qs)), some (.d (fD p n)), some (.d (lD (degsK qs))), some (iv ((i : Int) + 1)), none]) (promK ((n : Int) - (degsK qs).sum) (maxL (degsK qs))) (.cons (.inr rfl) (.cons (.inr rfl) (.cons (.inr rfl) (.cons (.inr rfl) (.cons (.inl rfl) .nil))))) (fun i hi => ⟨eb_is (tst i (by have := promK_le ((n : Int) - (degsK qs).sum) (maxL (degsK qs)); omega)) (decide_eq_true (promK_lt i hi)), sn_one (sn_asg (ee_add (ee_var rfl) ee_int)), (.cons (.inr rfl) (.cons (.inr rfl) (.cons (.inr rfl) (.cons (.inr rfl) (.cons (.inl rfl) .nil)))))⟩) (eb_is (tst _ (promK_le _ _)) (decide_eq_false (promK_ge hE.1 (by omega))))) (sr_one (sr_ret (ee_var rfl)))))
abbrev s_lpower : Stmt := topP 58
theorem sc_lpower : FnScope ["prime", "many", "found", "turn"] ["prime", "many"] (defScope s_lpower) := ⟨rfl, rfl, rfl, by decide +kernel, rfl, by decide +kernel, by decide +kernel⟩
def R_lpower : List EV → EV → Prop := fun xs r => ∃ (p : Nat) (m : Int), xs = [iv (p : Int), iv m] ∧ p ≤ 7 ∧ -1000000 ≤ m ∧ m ≤ 4 ∧ r = iv ((p : Int) ^ m.toNat)
theorem ok_lpower (T : Txt K mg) (D : DefAt K mg "_law_power" s_lpower ["prime", "many"]) : Ok P w K mg base "_law_power" 1 (spD R_lpower) := by
  refine ok_sr D sc_lpower (fun xs r h => by obtain ⟨p, n, rfl, _⟩ := h; rfl) fun f cd A out s H hG hr => ?_
  refine ⟨_, pss_cons (ps_set (i := 2) sc_lpower.nd rfl (Or.inl rfl) (pe_int)) (pss_cons (ps_for PassesOwn.never rfl (pi_range1 (by rfl) T.m_range (pa_cons (pv 1) pa_nil)) (pg_name (i := 3) sc_lpower.nd rfl (Or.inl rfl)) (pss_one (ps_set (i := 2) sc_lpower.nd rfl (Or.inl rfl) (pe_op op_mul (pv 2) (pv 0))))) (pss_one (ps_ret (pv 2)))), ?_⟩
  rintro xs r ⟨p, m, rfl, hp, h1, h4, rfl⟩
  refine sr_seq (sn_asg ee_int) (sr_seq (sn_rngI (fun i => [some (iv (p : Int)), some (iv m), some (iv ((p : Int) ^ i)), none]) (ee_var rfl) h1 (by omega) (.cons (.inr rfl) (.cons (.inr rfl) (.cons (.inr rfl) (.cons (.inl rfl) .nil)))) fun i hi => ?_) (sr_one (sr_ret (ee_var rfl))))
  exact ⟨_, sn_one (sn_asg (ee_mul (ee_var rfl) (ee_var rfl) (cmul_small (by omega) (by omega)))), (.cons (.inr rfl) (.cons (.inr rfl) (.cons (.inr rfl) (.cons (.inl rfl) .nil))))⟩
end
end Pz
namespace Pz
/-! ### the plain law -/
theorem fold_filter {α β : Type} (f : β → α → Bool) : ∀ (qs : List β) (l : List α), qs.foldl (fun l q => l.filter (f q)) l = l.filter fun x => qs.all fun q => f q x
  | [], l => (List.filter_eq_self.mpr fun _ _ => rfl).symm
  | q :: qs, l => by
    rw [List.foldl_cons, fold_filter f qs, List.filter_filter]
    congr 1
    funext x
    rw [List.all_cons, Bool.and_comm]
theorem perm_sum {l m : List Int} (h : l.Perm m) : l.sum = m.sum := by
  induction h with
  | nil => rfl
  | cons a _ ih => rw [List.sum_cons, List.sum_cons, ih]
  | swap a b l => simp only [List.sum_cons]; omega
  | trans _ _ h1 h2 => exact h1.trans h2
theorem evK_nil (x : List Int) : evK [] x = 0 := rfl
theorem evK_cons (t : List Int × Int) (q : Poly) (x : List Int) : evK (t :: q) x = t.2 * monK t.1 x + evK q x := by simp [evK]
theorem evK_append (q r : Poly) (x : List Int) : evK (q ++ r) x = evK q x + evK r x := by simp [evK]
theorem ev_tidy (p : Nat) (q : Poly) (x : List Int) : evK (tidyK p q) x % (p : Int) = evK q x % (p : Int) := by
  have hp := List.mergeSort_perm ((q.filter fun t => !decide (t.2 % (p : Int) = 0)).map fun t => (t.1, t.2 % (p : Int))) leT
  have e : evK (tidyK p q) x = evK ((q.filter fun t => !decide (t.2 % (p : Int) = 0)).map fun t => (t.1, t.2 % (p : Int))) x := perm_sum (hp.map fun t => t.2 * monK t.1 x)
  rw [e]
  clear e hp
  induction q with
  | nil => rfl
  | cons t q ih =>
    rw [List.filter_cons]
    by_cases h : t.2 % (p : Int) = 0
    · rw [if_neg (by simp [h]), ih, evK_cons, Int.add_emod, Int.mul_emod, h]
      simp
    · rw [if_pos (by simp [h]), List.map_cons, evK_cons, evK_cons, Int.add_emod, ih, Int.mul_emod, Int.emod_emod, ← Int.mul_emod, ← Int.add_emod]
theorem put_none {acc : Poly} {k : List Int} {w : Int} (h : k ∉ acc.map (·.1)) : put acc k w = acc ++ [(k, w)] := put_new fun q hq e => h (e ▸ List.mem_map_of_mem hq)
theorem look_none {acc : Poly} {k : List Int} (h : k ∉ acc.map (·.1)) : look acc k = none := by
  unfold look
  rw [List.find?_eq_none.mpr]
  · rfl
  · intro q hq z
    exact h (of_decide_eq_true z ▸ List.mem_map_of_mem hq)
theorem put_cons_ne {a : List Int × Int} {acc : Poly} {k : List Int} {w : Int} (h : a.1 ≠ k) : put (a :: acc) k w = a :: put acc k w := by
  unfold put
  rw [List.any_cons, decide_eq_false h, Bool.false_or]
  split
  · rw [List.map_cons, if_neg h]
  · rfl
theorem look_cons_ne {a : List Int × Int} {acc : Poly} {k : List Int} (h : a.1 ≠ k) : look (a :: acc) k = look acc k := by
  unfold look
  rw [List.find?_cons, decide_eq_false h]
theorem ev_put (x k : List Int) (v : Int) : ∀ acc : Poly, (acc.map (·.1)).Nodup → evK (put acc k ((look acc k).getD 0 + v)) x = evK acc x + v * monK k x
  | [], _ => by simp [put, look, evK]
  | a :: acc, nd => by
    obtain ⟨h1, h2⟩ := List.nodup_cons.mp (show (a.1 :: acc.map (·.1)).Nodup from nd)
    by_cases h : a.1 = k
    · subst h
      have e1 : look (a :: acc) a.1 = some a.2 := by
        unfold look
        rw [List.find?_cons_of_pos (by simp)]
        rfl
      have e2 : put (a :: acc) a.1 (a.2 + v) = (a.1, a.2 + v) :: acc := by
        unfold put
        rw [if_pos (by simp), List.map_cons, if_pos rfl]
        congr 1
        have : ∀ l : Poly, a.1 ∉ l.map (·.1) → l.map (fun p => if p.1 = a.1 then (a.1, a.2 + v) else p) = l := by
          intro l hl
          induction l with
          | nil => rfl
          | cons b l ih =>
            rw [List.map_cons] at hl
            rw [List.map_cons, if_neg (fun z => hl (by rw [← z]; exact List.mem_cons_self)), ih fun m => hl (List.mem_cons_of_mem _ m)]
        exact this acc h1
      rw [e1]
      show evK (put (a :: acc) a.1 (a.2 + v)) x = _
      rw [e2, evK_cons, evK_cons]
      show (a.2 + v) * monK a.1 x + evK acc x = a.2 * monK a.1 x + evK acc x + v * monK a.1 x
      rw [Int.add_mul]
      omega
    · rw [put_cons_ne h, look_cons_ne h, evK_cons, evK_cons, ev_put x k v acc h2]
      omega
theorem put_nodup {q : Poly} {k : List Int} {v : Int} (h : (q.map (·.1)).Nodup) : ((put q k v).map (·.1)).Nodup := by
  by_cases m : k ∈ q.map (·.1)
  · have : (put q k v).map (·.1) = q.map (·.1) := by
      unfold put
      rw [if_pos (by
        obtain ⟨t, ht, e⟩ := List.mem_map.mp m
        exact List.any_eq_true.mpr ⟨t, ht, decide_eq_true e⟩), List.map_map]
      apply List.map_congr_left
      intro t _
      show (if t.1 = k then (k, v) else t).1 = t.1
      by_cases e2 : t.1 = k
      · rw [if_pos e2]; exact e2.symm
      · rw [if_neg e2]
    rw [this]
    exact h
  · rw [put_none m, List.map_append]
    exact List.nodup_append.mpr ⟨h, by simp, fun x hx y hy e => m (by
      have hy : y = k := by simpa using hy
      rw [← hy, ← e]
      exact hx)⟩
theorem ev_found (p : Nat) (q : Poly) (x : List Int) : evK (foundK p q) x = (q.map fun t => t.2 * monK (t.1.map fun e => lessP e p) x).sum := by
  have : ∀ (q acc : Poly), (acc.map (·.1)).Nodup → evK (q.foldl (bump p) acc) x = evK acc x + (q.map fun t => t.2 * monK (t.1.map fun e => lessP e p) x).sum := by
    intro q
    induction q with
    | nil => intro acc _; simp
    | cons t q ih =>
      intro acc nd
      have nd2 : ((bump p acc t).map (·.1)).Nodup := put_nodup nd
      rw [List.foldl_cons, ih _ nd2, List.map_cons, List.sum_cons]
      unfold bump
      rw [ev_put _ _ _ acc nd]
      omega
  have h := this q [] List.nodup_nil
  rw [evK_nil, Int.zero_add] at h
  exact h
def powB (p : Nat) : Bool := (List.range p).all fun (a : Nat) => (List.range 31).all fun (e : Nat) => decide ((a : Int) ^ (lessP (e : Int) p).toNat % (p : Int) = (a : Int) ^ e % (p : Int))
theorem powB_all : powB 2 = true ∧ powB 3 = true ∧ powB 5 = true ∧ powB 7 = true := by decide +kernel
theorem pow_less {p : Nat} (hp : Pr p) {a e : Int} (a0 : 0 ≤ a) (a1 : a < p) (e0 : 0 ≤ e) (e1 : e ≤ 30) : a ^ (lessP e p).toNat % (p : Int) = a ^ e.toNat % (p : Int) := by
  have h : powB p = true := by
    obtain ⟨h2, h3, h5, h7⟩ := powB_all
    rcases hp with rfl | rfl | rfl | rfl <;> assumption
  unfold powB at h
  obtain ⟨n, rfl⟩ : ∃ n : Nat, a = (n : Int) := ⟨a.toNat, by omega⟩
  obtain ⟨m, rfl⟩ : ∃ m : Nat, e = (m : Int) := ⟨e.toNat, by omega⟩
  have h1 := List.all_eq_true.mp h n (List.mem_range.mpr (by omega))
  have h2 := List.all_eq_true.mp h1 m (List.mem_range.mpr (by omega))
  rw [Int.toNat_natCast]
  exact of_decide_eq_true h2
theorem mon_less {p : Nat} (hp : Pr p) : ∀ (k x : List Int), (∀ e ∈ k, 0 ≤ e ∧ e ≤ 30) → (∀ a ∈ x, 0 ≤ a ∧ a < (p : Int)) → monK (k.map fun e => lessP e p) x % (p : Int) = monK k x % (p : Int)
  | [], x, _, _ => rfl
  | e :: k, [], _, _ => rfl
  | e :: k, a :: x, hk, hx => by
    have ih := mon_less hp k x (fun e he => hk e (List.mem_cons_of_mem _ he)) fun a ha => hx a (List.mem_cons_of_mem _ ha)
    have h1 := hk e List.mem_cons_self
    have h2 := hx a List.mem_cons_self
    show a ^ (lessP e p).toNat * monK (k.map fun e => lessP e p) x % (p : Int) = a ^ e.toNat * monK k x % (p : Int)
    rw [Int.mul_emod, ih, pow_less hp h2.1 h2.2 h1.1 h1.2, ← Int.mul_emod]
theorem ev_red {p n : Nat} (hF : Fld p n) {q : Poly} (hq : ∀ t ∈ q, KeyOk n t.1) {x : List Int} (hx : PtOk p n x) : evK (redK p q) x % (p : Int) = evK q x % (p : Int) := by
  unfold redK
  rw [ev_tidy, ev_found]
  unfold evK
  exact sum_emod _ _ _ _ fun t ht => by rw [Int.mul_emod, mon_less hF.pr _ _ (hq t ht).lo hx.2, ← Int.mul_emod]
theorem m_zeros {p n : Nat} {qs : List Poly} (hF : Fld p n) (hs : SysOk p n qs) : zK p n qs = lzK p n qs := by
  unfold zK lzK
  rw [fold_filter (fun q x => decide (evK (redK p q) x % (p : Int) = 0)), fold_filter (fun q x => decide (evK q x % (p : Int) = 0))]
  apply List.filter_congr
  intro x hx
  have hx := mem_pts.mp hx
  rw [Bool.eq_iff_iff]
  simp only [List.all_eq_true, decide_eq_true_eq]
  constructor
  · intro h q hq
    rw [← ev_red hF (hs.polys q hq).keys hx]
    exact h q hq
  · intro h q hq
    rw [ev_red hF (hs.polys q hq).keys hx]
    exact h q hq
/-! ### the number of zeros -/
theorem lz_Zn (p n : Nat) (qs : List Poly) : (lzK p n qs).length = Zn p n (qs.map evK) := by
  unfold lzK Zn
  rw [fold_filter (fun q x => decide (evK q x % (p : Int) = 0))]
  congr 2
  funext x
  unfold zeroAt
  rw [List.all_map]
  apply List.all_congr rfl
  intro q
  show decide (evK q x % (p : Int) = 0) = (evK q x % (p : Int) == 0)
  by_cases h : evK q x % (p : Int) = 0 <;> simp [h]
theorem toNat_sum : ∀ {k : List Int}, (∀ e ∈ k, 0 ≤ e) → (((k.map Int.toNat).sum : Nat) : Int) = k.sum
  | [], _ => rfl
  | e :: k, h => by
    have ih := toNat_sum (k := k) fun x hx => h x (List.mem_cons_of_mem _ hx)
    have := h e (by simp)
    rw [List.map_cons, List.sum_cons, List.sum_cons, Int.natCast_add, ih]
    omega
theorem evK_pf {p n : Nat} {q : Poly} (hq : PolyOk p n q) : PF n (degK q).toNat (evK q) := by
  refine ⟨q.map fun t => (t.1.map Int.toNat, t.2), fun t ht => ?_, fun x _ => ?_⟩
  · obtain ⟨s, hs, rfl⟩ := List.mem_map.mp ht
    have k := (hq.terms s hs).key
    refine ⟨by rw [List.length_map]; exact k.len, ?_⟩
    have h1 := toNat_sum fun e he => (k.lo e he).1
    have h2 : s.1.sum ≤ degK q := (maxL_spec _ _).2.2 _ (List.mem_map_of_mem (f := fun t : List Int × Int => t.1.sum) hs)
    show (s.1.map Int.toNat).sum ≤ _
    omega
  · unfold evK evT
    rw [List.map_map]
    rfl
theorem zip_map {α β γ : Type} (f : α → β) (g : α → γ) : ∀ l : List α, (l.map f).zip (l.map g) = l.map fun a => (f a, g a)
  | [] => rfl
  | a :: l => by simp [zip_map f g l]
theorem pfs {p n : Nat} {qs : List Poly} (hs : SysOk p n qs) : ∀ q ∈ (qs.map evK).zip (qs.map fun q => (degK q).toNat), PF n q.2 q.1 := by
  rw [zip_map]
  intro r hr
  obtain ⟨q, hq, rfl⟩ := List.mem_map.mp hr
  exact evK_pf (hs.polys q hq)
theorem degs_nat {p n : Nat} {qs : List Poly} (hs : SysOk p n qs) : (((qs.map fun q => (degK q).toNat).sum : Nat) : Int) = (degsK qs).sum := by
  have h := toNat_sum (k := degsK qs) fun d hd => by have := degsK_pos hs d hd; omega
  rw [← h]
  unfold degsK
  rw [List.map_map]
  rfl
theorem dvd_one {p n : Nat} {qs : List Poly} (hF : Fld p n) (hs : SysOk p n qs) (h : (degsK qs).sum < n) : p ∣ (lzK p n qs).length := by
  rw [lz_Zn]
  refine cw hF.pr _ (qs.map fun q => (degK q).toNat) (by simp) (pfs hs) ?_
  have := degs_nat hs
  omega
theorem pow_le_of {p k : Nat} {L : Nat} (h : p ^ k ∣ L) (h0 : L ≠ 0) : p ^ k ≤ L := Nat.le_of_dvd (by omega) h
/-- what a system of a low degree is -/
theorem low_cases {p n : Nat} {qs : List Poly} (hs : SysOk p n qs) (h : (degsK qs).sum ≤ 2) : (∃ q, qs = [q] ∧ degK q = 1) ∨ (∃ q, qs = [q] ∧ degK q = 2) ∨ ∃ q r, qs = [q, r] ∧ degK q = 1 ∧ degK r = 1 := by
  have hd := hs.degs
  match qs, hs.one, h, hd with
  | [q], _, h, hd =>
    have h1 := hd q (by simp)
    have h2 : (degsK [q]).sum = degK q := by simp [degsK]
    rw [h2] at h
    by_cases e : degK q = 1
    · exact .inl ⟨q, rfl, e⟩
    · exact .inr (.inl ⟨q, rfl, by omega⟩)
  | [q, r], _, h, hd =>
    have h1 := hd q (by simp)
    have h3 := hd r (by simp)
    have h2 : (degsK [q, r]).sum = degK q + degK r := by simp [degsK]
    rw [h2] at h
    exact .inr (.inr ⟨q, r, rfl, by omega, by omega⟩)
  | q :: r :: u :: l, _, h, hd =>
    have h1 := hd q (by simp)
    have h2 := hd r (by simp)
    have h3 := hd u (by simp)
    have h4 : ∀ l : List Poly, (∀ q ∈ l, 1 ≤ degK q) → 0 ≤ (degsK l).sum := by
      intro l
      induction l with
      | nil => intro _; exact Int.le_refl 0
      | cons a l ih =>
        intro hh
        have := ih fun q hq => hh q (List.mem_cons_of_mem _ hq)
        have := hh a (by simp)
        show 0 ≤ (degK a :: degsK l).sum
        rw [List.sum_cons]
        omega
    have h5 := h4 l fun q hq => hd q (by simp [hq])
    have h6 : (degsK (q :: r :: u :: l)).sum = degK q + (degK r + (degK u + (degsK l).sum)) := by
      show (degK q :: degK r :: degK u :: degsK l).sum = _
      simp only [List.sum_cons]
    omega
theorem m_both {p n : Nat} {qs : List Poly} (hF : Fld p n) (hs : SysOk p n qs) : p ^ promK ((n : Int) - (degsK qs).sum) (maxL (degsK qs)) ∣ (lzK p n qs).length ∧ ((lzK p n qs).length ≠ 0 → p ^ ((n : Int) - (degsK qs).sum).toNat ≤ (lzK p n qs).length) := by
  have hn := hF.n4
  have hS := sum_pos (degsK_pos hs) (degsK_ne hs)
  have hE := maxL_pos (degsK_pos hs) (degsK_ne hs)
  by_cases h0 : (n : Int) - (degsK qs).sum ≤ 0
  · have e1 : promK ((n : Int) - (degsK qs).sum) (maxL (degsK qs)) = 0 := by unfold promK; rw [if_pos h0]
    have e2 : ((n : Int) - (degsK qs).sum).toNat = 0 := by omega
    rw [e1, e2]
    exact ⟨by simp, fun h => by simp; omega⟩
  have d1 := dvd_one hF hs (by omega)
  by_cases h1 : (n : Int) - (degsK qs).sum = 1
  · have e1 : promK ((n : Int) - (degsK qs).sum) (maxL (degsK qs)) = 1 := by
      unfold promK
      rw [if_neg (by omega), if_pos (by omega)]
    have e2 : ((n : Int) - (degsK qs).sum).toNat = 1 := by omega
    rw [e1, e2, Nat.pow_one]
    exact ⟨d1, fun h => Nat.le_of_dvd (by omega) d1⟩
  rcases low_cases hs (by omega) with ⟨q, rfl, e⟩ | ⟨q, rfl, e⟩ | ⟨q, r, rfl, e, e'⟩
  · -- one straight one
    have e1 : degsK [q] = [1] := by simp [degsK, e]
    have e2 : maxL [1] = 1 := rfl
    have af : IsAff n (evK q) := (show PF n 1 (evK q) by have := evK_pf (hs.polys q (by simp)); rw [e] at this; exact this).aff
    have dv := one_aff hF.pr af
    rw [lz_Zn]
    rw [e1] at h0 h1 ⊢
    have e3 : promK ((n : Int) - [1].sum) (maxL [1]) = n - 1 := by
      rw [e2]
      have : n = 3 ∨ n = 4 := by simp at h0 h1; omega
      rcases this with rfl | rfl <;> rfl
    have e4 : ((n : Int) - [1].sum).toNat = n - 1 := by
      have : ([1] : List Int).sum = 1 := rfl
      rw [this]
      omega
    rw [e3, e4]
    exact ⟨dv, fun h => pow_le_of dv h⟩
  · -- one of degree two, in four unknowns
    have e1 : degsK [q] = [2] := by simp [degsK, e]
    rw [e1] at h0 h1 ⊢
    have n4 : n = 4 := by simp at h0 h1; omega
    subst n4
    have pf : PF 4 2 (evK q) := by have := evK_pf (hs.polys q (by simp)); rw [e] at this; exact this
    refine ⟨?_, fun h => ?_⟩
    · show p ^ 1 ∣ _
      rw [Nat.pow_one]
      exact d1
    · rw [lz_Zn] at h ⊢
      exact quad hF.pr pf h
  · have e1 : degsK [q, r] = [1, 1] := by simp [degsK, e, e']
    rw [e1] at h0 h1 ⊢
    have n4 : n = 4 := by simp at h0 h1; omega
    subst n4
    have a1 : IsAff 4 (evK q) := (show PF 4 1 (evK q) by have := evK_pf (hs.polys q (by simp)); rw [e] at this; exact this).aff
    have a2 : IsAff 4 (evK r) := (show PF 4 1 (evK r) by have := evK_pf (hs.polys r (by simp)); rw [e'] at this; exact this).aff
    have dv := two_aff hF.pr a1 a2 (by decide)
    rw [lz_Zn]
    exact ⟨dv, fun h => pow_le_of dv h⟩
theorem m_part {p n : Nat} {qs : List Poly} (hF : Fld p n) (hs : SysOk p n qs) : (p : Int) ^ promK ((n : Int) - (degsK qs).sum) (maxL (degsK qs)) ∣ ((lzK p n qs).length : Int) := by
  have h := (m_both hF hs).1
  have := Int.natCast_dvd_natCast.mpr h
  rwa [Int.natCast_pow] at this
theorem m_great {p n : Nat} {qs : List Poly} (hF : Fld p n) (hs : SysOk p n qs) (h : lzK p n qs ≠ []) : (p : Int) ^ ((n : Int) - (degsK qs).sum).toNat ≤ ((lzK p n qs).length : Int) := by
  have h1 := (m_both hF hs).2 (fun z => h (List.length_eq_zero_iff.mp z))
  have e := Int.natCast_pow p ((n : Int) - (degsK qs).sum).toNat
  omega
/-! ### the top coefficient -/
theorem look_iff {q : Poly} {k : List Int} {v : Int} (nd : (q.map (·.1)).Nodup) : look q k = some v ↔ (k, v) ∈ q := by
  induction q with
  | nil => simp [look]
  | cons a q ih =>
    obtain ⟨h1, h2⟩ := List.nodup_cons.mp (show (a.1 :: q.map (·.1)).Nodup from nd)
    by_cases h : a.1 = k
    · subst h
      have e : look (a :: q) a.1 = some a.2 := by
        unfold look
        rw [List.find?_cons_of_pos (by simp)]
        rfl
      rw [e]
      constructor
      · intro z
        cases z
        exact List.mem_cons_self
      · intro z
        obtain z | z := List.mem_cons.mp z
        · rw [← z]
        · exact absurd (List.mem_map_of_mem (f := fun t : List Int × Int => t.1) z) h1
    · rw [look_cons_ne h, ih h2]
      constructor
      · exact fun z => List.mem_cons_of_mem _ z
      · intro z
        obtain z | z := List.mem_cons.mp z
        · rw [← z] at h
          exact absurd rfl h
        · exact z
theorem look_tidy {p : Nat} {q : Poly} {k : List Int} {v : Int} (nd : (q.map (·.1)).Nodup) (h : (k, v) ∈ q) : (look (tidyK p q) k).getD 0 = v % (p : Int) := by
  have nt := tidyK_nodup (p := p) nd
  by_cases h0 : v % (p : Int) = 0
  · have : look (tidyK p q) k = none := by
      cases e : look (tidyK p q) k with
      | none => rfl
      | some w =>
        obtain ⟨s, hs, e1, e2, e3⟩ := tidyK_mem ((look_iff nt).mp e)
        have e1 : k = s.1 := e1
        have m1 : look q k = some s.2 := (look_iff nd).mpr (by rw [e1]; exact hs)
        rw [(look_iff nd).mpr h] at m1
        cases m1
        exact absurd h0 e3
    rw [this, h0]
    rfl
  · have m : (k, v % (p : Int)) ∈ tidyK p q := (List.mergeSort_perm _ _).mem_iff.mpr (List.mem_map.mpr ⟨(k, v), List.mem_filter.mpr ⟨h, by simp [h0]⟩, rfl⟩)
    rw [(look_iff nt).mpr m]
    rfl
theorem sum_getD : ∀ l : List Int, ((List.range l.length).map fun i => l.getD i 0).sum = l.sum
  | [] => rfl
  | a :: l => by
    have ih := sum_getD l
    rw [List.length_cons, List.range_succ_eq_map, List.map_cons, List.sum_cons, List.map_map, List.sum_cons]
    show a + ((List.range l.length).map fun i => l.getD i 0).sum = _
    rw [ih]
theorem grid (f : Nat → Int) (m : Nat) : ∀ p : Nat, ((List.range p).map fun i => ((List.range m).map fun s => f (i * m + s)).sum).sum = ((List.range (p * m)).map f).sum
  | 0 => by simp
  | p + 1 => by
    have ih := grid f m p
    rw [List.range_succ, List.map_append, List.sum_append, ih, Nat.succ_mul, List.range_add, List.map_append, List.sum_append, List.map_map]
    simp [Function.comp_def]
theorem coef_last {p : Nat} (hp : 2 ≤ p) (l : List Int) : coefK p l (p - 1) = (0 - l.sum) % (p : Int) := by
  unfold coefK
  have e : (l.zipIdx.map fun q => q.1 * (((q.2 : Nat) : Int) ^ (p - 1 - (p - 1)) % (p : Int))) = l := by
    have : ∀ q : Int × Nat, q.1 * (((q.2 : Nat) : Int) ^ (p - 1 - (p - 1)) % (p : Int)) = q.1 := fun q => by
      rw [Nat.sub_self, Int.pow_zero, Int.emod_eq_of_lt (by decide) (by omega), Int.mul_one]
    rw [List.map_congr_left fun q _ => this q]
    exact List.zipIdx_map_fst 0 l
  rw [e]
theorem line_last {p : Nat} (hp : 2 ≤ p) (l : List Int) : (lineK p l).getD (p - 1) 0 = (0 - l.sum) % (p : Int) := by
  obtain ⟨m, rfl⟩ : ∃ m, p = m + 2 := ⟨p - 2, by omega⟩
  rw [← coef_last hp]
  unfold lineK lineT
  simp
  rw [Nat.add_comm 1 m]
theorem next_sum {p m : Nat} (hp : 2 ≤ p) {row : List Int} (h : row.length = p * m) : (nextK p row ((p : Int) - 1)).sum % (p : Int) = (0 - row.sum) % (p : Int) := by
  have hs : row.length / p = m := by rw [h, Nat.mul_comm, Nat.mul_div_cancel _ (by omega)]
  have e1 : nextK p row ((p : Int) - 1) = (List.range m).map fun spot => (0 - (colK p row spot).sum) % (p : Int) := by
    unfold nextK
    rw [hs]
    apply List.map_congr_left
    intro spot _
    have : ((p : Int) - 1).toNat = p - 1 := by omega
    rw [this, line_last hp]
  have e2 : ((List.range m).map fun spot => (colK p row spot).sum).sum = row.sum := by
    unfold colK
    rw [hs, sum_comm (List.range m) (List.range p) fun spot item => row.getD (item * m + spot) 0, grid (fun j => row.getD j 0) m p, ← h, sum_getD]
  rw [e1, sum_emod _ _ (fun spot => 0 - (colK p row spot).sum) _ fun spot _ => Int.emod_emod _ _, sum_map_sub (List.range m) (fun _ => (0 : Int)) fun spot => (colK p row spot).sum, e2, sum_map_zero]
theorem row_last {p : Nat} (hp : 2 ≤ p) : ∀ (n : Nat) (row : List Int), row.length = p ^ n → (rowAt p row (List.replicate n ((p : Int) - 1))).sum % (p : Int) = (if n % 2 = 0 then row.sum else 0 - row.sum) % (p : Int)
  | 0, row, _ => by simp [rowAt]
  | n + 1, row, h => by
    have hm : row.length = p * p ^ n := by rw [h, Nat.pow_succ, Nat.mul_comm]
    have hl : (nextK p row ((p : Int) - 1)).length = p ^ n := by rw [nextK_len, hm, Nat.mul_comm, Nat.mul_div_cancel _ (by omega)]
    have ih := row_last hp n _ hl
    have ns := next_sum hp hm
    show (rowAt p (nextK p row ((p : Int) - 1)) (List.replicate n ((p : Int) - 1))).sum % (p : Int) = _
    rw [ih]
    by_cases e : n % 2 = 0
    · rw [if_pos e, if_neg (by omega), ns]
    · rw [if_neg e, if_pos (by omega), Int.sub_emod, ns, ← Int.sub_emod]
      congr 1
      omega
theorem m_top {p n : Nat} {qs : List Poly} (hF : Fld p n) (hs : SysOk p n qs) : topK p n qs = (if n % 2 = 0 then ((lzK p n qs).length : Int) else 0 - ((lzK p n qs).length : Int)) % (p : Int) := by
  have h7 := hF.le7
  have hz := m_zeros hF hs
  let rs : List Int := (pts p n).map fun x => if x ∈ zK p n qs then 1 else 0
  have hl : rs.length = p ^ n := by rw [List.length_map, pts_length]
  have hk : List.replicate n ((p : Int) - 1) ∈ pts p n := mem_pts.mpr ⟨by simp, fun a ha => by rw [(List.mem_replicate.mp ha).2]; omega⟩
  have nd : ((polyK p n rs).map (·.1)).Nodup := by
    unfold polyK
    rw [List.map_map]
    simpa [Function.comp_def] using pts_nodup p n
  have mem : (List.replicate n ((p : Int) - 1), (rowAt p rs (List.replicate n ((p : Int) - 1))).getD 0 0) ∈ polyK p n rs := List.mem_map.mpr ⟨_, hk, rfl⟩
  have e1 : topK p n qs = (rowAt p rs (List.replicate n ((p : Int) - 1))).getD 0 0 % (p : Int) := look_tidy nd mem
  have len1 : (rowAt p rs (List.replicate n ((p : Int) - 1))).length = 1 := by
    have := rowAt_len (p := p) (by omega) 0 (List.replicate n ((p : Int) - 1)) rs (by rw [hl]; simp)
    simpa using this
  have e2 : (rowAt p rs (List.replicate n ((p : Int) - 1))).getD 0 0 = (rowAt p rs (List.replicate n ((p : Int) - 1))).sum := by
    generalize rowAt p rs (List.replicate n ((p : Int) - 1)) = l at len1
    match l, len1 with
    | [a], _ => simp
  have e3 : rs.sum = ((lzK p n qs).length : Int) := by
    have f1 : lzK p n qs = (pts p n).filter fun x => qs.all fun q => decide (evK q x % (p : Int) = 0) := by
      unfold lzK
      rw [fold_filter (fun q x => decide (evK q x % (p : Int) = 0))]
    rw [f1, filter_sum]
    refine sum_congr _ _ _ fun x hx => ?_
    rw [hz, f1]
    simp only [List.mem_filter, hx, true_and]
  rw [e1, e2, row_last (by omega) n rs hl, e3]
end Pz
namespace Pz
open PySem PySem.Spec PyProof.Rows L2 Evl StX
section
variable {K : PySem.W.Frag} {as : List Addr} {ρ ρ1 ρ2 : Env1} {C C1 C2 : CP} {P P1 P2 : Env1 → CP → Prop} {PV PW : EV → CP → Prop} {ta tb te td tk tv ty : TE} {t u : TS} {x y : EV} {g : TG} {wi : TI}
/-- found.append(v), found owned -/
theorem so_append {a : Addr} {i : Nat} {ds : List PyData} (ha : a ∉ as) (hi : ρ[i]? = some (some (.a a))) (hv : EM (a :: as) tv ρ (lC a ds C) PV) (ds0 : CPok as C)
    (hP : ∀ x c, PV x c → ∃ y c0, x = .d y ∧ c = lC a ds c0 ∧ CPok as c0 ∧ ds.length ≤ 50000 ∧ P ρ (lC a (ds ++ [y]) c0)) : SO (a :: as) (tDrop (tBM K "list" rAppend (tVar i) (tCons tv tNil))) ρ (lC a ds C) P := fun D σ H d w o cc en q => by
  obtain ⟨va, hva, eva⟩ := en.get hi
  cases eva
  obtain ⟨⟨xs0, he0, _⟩, _⟩ := id cc
  refine ⟨.ref a, hva, .inl ⟨rfl, xs0, .inl (.inl he0)⟩, ?_⟩
  refine hv σ H d w o cc en _ fun x c v H1 p e w1 c1 dv => ?_
  obtain ⟨y, c0, rfl, rfl, ck, hl, hp⟩ := hP x c p
  obtain ⟨⟨xs, he, ent⟩, cc0⟩ := c1
  have hx := ent.len
  refine ⟨a, xs, v, rfl, rfl, he, by rw [sizeLine_eq]; omega, ?_⟩
  have da : d a = true := o a List.mem_cons_self
  refine q ρ _ σ _ hp (e.trans (exB_upd List.mem_cons_self)) (vw_own w1 nofun) ?_ ?_
  · rw [hide_own da]
    refine ⟨⟨_, upd_same, ent.app (.cons dv .nil)⟩, ck _ _ _ _ cc0 (Ex.refl _) fun b hb ob z => ?_⟩
    rw [upd_ne (by rintro rfl; exact ha hb)]
    exact z
  · rw [hide_own da]
    exact en.mono (e.hide o)
theorem so_appendD {a : Addr} {i : Nat} {ds : List PyData} {y : PyData} (hi : ρ[i]? = some (some (.a a))) (hv : EvE tv ρ (.d y)) (hl : ds.length ≤ 50000) :
    SO [a] (tDrop (tBM K "list" rAppend (tVar i) (tCons tv tNil))) ρ (lC a ds noC) (is2 ρ (lC a (ds ++ [y]) noC)) := so_append (by simp) hi (em_ee hv (ok_lC List.mem_cons_self (ok_noC _))) (ok_noC _) fun x c ⟨e1, e2⟩ => ⟨y, noC, e1, e2, ok_noC _, hl, rfl, rfl⟩
/-- t[:k] -/
theorem ee_slT {ds : List PyData} {k : Nat} (h : EvE te ρ (.d (.tuple ds))) (hk : EvE tk ρ (iv (k : Int))) (lt : k < ds.length) : EvE (tSl (rSlT K) te tNoPart (tPart tk)) ρ (.d (.tuple (ds.take k))) := fun σ H d w en Q q =>
  h σ H d w en _ fun u H1 e1 d1 => hk σ H1 d (w.mono e1) (en.mono (exh e1)) _ fun v H2 e2 d2 => by
    cases d2
    refine ⟨k, rfl, ?_⟩
    have d1' : Dh (hide H2 d) u (.tuple ds) := Dh.mono (Sx.of (exh e2)) d1
    cases d1' with
    | @tup a xs _ hp t =>
      have hl := t.len
      refine ⟨a, xs, rfl, .inl (.inl (hide_some hp)), ?_, fun p hn => q _ _ ((e1.trans e2).trans (Ex.new hn)) (.tup (new_tup (w.mono (e1.trans e2)) hn) ?_)⟩
      · rw [HT.sIx_nat]
        omega
      · have e : cutV xs none (some (k : Int)) = xs.take k := by
          unfold cutV
          rw [HT.sIx_nat, HT.sIx_none]
          show List.take (min k xs.length - 0) (xs.drop 0) = xs.take k
          rw [List.drop_zero, Nat.sub_zero, Nat.min_eq_left (by omega)]
        rw [e]
        have : ∀ {xs : List V} {ds : List PyData} (k : Nat) {G : Hp}, DhA G xs ds → DhA G (xs.take k) (ds.take k) := by
          intro xs ds k G h
          induction k generalizing xs ds with
          | zero => exact .nil
          | succ k ih =>
            cases h with
            | nil => exact .nil
            | cons h t => exact .cons h (ih t)
        exact (this k t).mono (ex_new hn)
end
/-! ### what may be shown -/
structure Sh (d : PyData) (dp wt : Nat) : Prop where
  leaves : d.leavesShort 13 = true
  shows : d.showable = true
  dict : d.hasDict = false
  can : d.canLay0 = true
  dep : d.depth ≤ dp
  wgt : d.weight ≤ wt
theorem Sh.ok {d : PyData} {dp wt : Nat} (h : Sh d dp wt) (h1 : dp ≤ 60) (h2 : 15 * wt + 13 ≤ 16777216) : ShowOk d := by
  refine ⟨h.shows, h.dict, Nat.le_trans h.dep h1, ?_⟩
  have a := PyData.shown_le 13 (by decide) d h.leaves
  have b := h.wgt
  rw [sizeLine_eq]
  have : (13 + 2) * d.weight ≤ 15 * wt := Nat.mul_le_mul_left 15 b
  omega
theorem Sh.shaped {d : PyData} {dp wt : Nat} (h : Sh d dp wt) (h1 : dp ≤ 60) : SeqAt.shaped d = true := by
  unfold SeqAt.shaped
  rw [h.can, decide_eq_true (Nat.le_trans h.dep (by omega))]
  rfl
theorem Sh.mono {d : PyData} {a b dp wt : Nat} (h : Sh d a b) (h1 : a ≤ dp) (h2 : b ≤ wt) : Sh d dp wt := ⟨h.leaves, h.shows, h.dict, h.can, Nat.le_trans h.dep h1, Nat.le_trans h.wgt h2⟩
theorem sh_int {i : Int} (h : i.natAbs < 2 ^ 20) : Sh (.int i) 0 20 := by
  have lg : i.natAbs.log2 < 20 := by
    by_cases h0 : i.natAbs = 0
    · rw [h0]; decide
    · (exact (Nat.log2_lt h0).mpr h)
  refine ⟨?_, ?_, rfl, rfl, Nat.le_refl _, ?_⟩
  · simp only [PyData.leavesShort]
    exact decide_eq_true (PyData.shown_int_le (Nat.lt_of_lt_of_le h (by decide)))
  · simp only [PyData.showable]
    (exact decide_eq_true (by omega))
  · simp only [PyData.weight]
    split <;> omega
theorem shAll {dp wt : Nat} : ∀ {xs : List PyData}, (∀ x ∈ xs, Sh x dp wt) → PyData.leavesShortAll 13 xs = true ∧ PyData.showableAll xs = true ∧ PyData.hasDictAll xs = false ∧ PyData.canLayAll0 xs = true ∧ PyData.depthAll xs ≤ dp ∧ PyData.weightAll xs ≤ (wt + 1) * xs.length
  | [], _ => ⟨rfl, rfl, rfl, rfl, Nat.zero_le _, Nat.zero_le _⟩
  | x :: xs, h => by
    obtain ⟨a, b, c, d, e, f⟩ := shAll (xs := xs) fun y hy => h y (List.mem_cons_of_mem _ hy)
    have k := h x List.mem_cons_self
    refine ⟨?_, ?_, ?_, ?_, ?_, ?_⟩
    · simp only [PyData.leavesShortAll, k.leaves, a, Bool.and_self]
    · simp only [PyData.showableAll, k.shows, b, Bool.and_self]
    · simp only [PyData.hasDictAll, k.dict, c, Bool.or_self]
    · simp only [PyData.canLayAll0, k.can, d, Bool.and_self]
    · simp only [PyData.depthAll]
      exact Nat.max_le.mpr ⟨k.dep, e⟩
    · simp only [PyData.weightAll, List.length_cons, Nat.mul_add]
      have := k.wgt
      omega
theorem sh_tup {dp wt n : Nat} {xs : List PyData} (h : ∀ x ∈ xs, Sh x dp wt) (hn : xs.length ≤ n) : Sh (.tuple xs) (dp + 1) ((wt + 1) * n) := by
  obtain ⟨a, b, c, d, e, f⟩ := shAll h
  refine ⟨by simpa only [PyData.leavesShort] using a, by simpa only [PyData.showable] using b, by simpa only [PyData.hasDict] using c, by simpa only [PyData.canLay0] using d, ?_, ?_⟩
  · simp only [PyData.depth]; omega
  · simp only [PyData.weight]
    exact Nat.le_trans f (Nat.mul_le_mul_left _ hn)
theorem sh_lst {dp wt n : Nat} {xs : List PyData} (h : ∀ x ∈ xs, Sh x dp wt) (hn : xs.length ≤ n) : Sh (.list xs) (dp + 1) ((wt + 1) * n) := by
  obtain ⟨a, b, c, d, e, f⟩ := shAll h
  refine ⟨by simpa only [PyData.leavesShort] using a, by simpa only [PyData.showable] using b, by simpa only [PyData.hasDict] using c, by simpa only [PyData.canLay0] using d, ?_, ?_⟩
  · simp only [PyData.depth]; omega
  · simp only [PyData.weight]
    exact Nat.le_trans f (Nat.mul_le_mul_left _ hn)
end Pz
namespace Pz
open PySem PySem.Spec PyProof.Rows L2 Evl StX
section
variable {p n : Nat} {qs : List Poly}
theorem sh_F (hF : Fld p n) : Sh (fD p n) 1 42 := by
  have h4 := hF.n4
  have h7 := hF.le7
  refine sh_tup (dp := 0) (wt := 20) (n := 2) (fun x hx => ?_) (Nat.le_refl _)
  obtain rfl | hx := List.mem_cons.mp hx
  · exact sh_int (by omega)
  · rw [List.mem_singleton.mp hx]
    exact sh_int (by omega)
theorem sh_K {k : List Int} (h1 : k.length ≤ 4) (h2 : ∀ e ∈ k, 0 ≤ e ∧ e ≤ 1000) : Sh (keyD k) 1 84 := by
  refine sh_tup (dp := 0) (wt := 20) (n := 4) (fun x hx => ?_) (by rw [List.length_map]; exact h1)
  obtain ⟨e, he, rfl⟩ := List.mem_map.mp hx
  have := h2 e he
  exact sh_int (by omega)
theorem sh_T (hF : Fld p n) {t : List Int × Int} (k : TermOk p n t) : Sh (tD t) 2 170 := by
  have h4 := hF.n4
  have h7 := hF.le7
  have l1 := k.one
  have l2 := k.less
  refine sh_tup (dp := 1) (wt := 84) (n := 2) (fun y hy => ?_) (Nat.le_refl _)
  obtain rfl | hy := List.mem_cons.mp hy
  · have hl := k.key.len
    refine sh_K (k := t.1) (by omega) fun e he => ?_
    have := k.key.lo e he
    omega
  · rw [List.mem_singleton.mp hy]
    exact (sh_int (i := t.2) (by omega)).mono (by decide) (by decide)
theorem sh_P (hF : Fld p n) {q : Poly} (hq : PolyOk p n q) : Sh (pD q) 3 119700 := by
  refine sh_tup (dp := 2) (wt := 170) (n := 700) (fun x hx => ?_) (by rw [List.length_map]; exact hq.few)
  obtain ⟨t, ht, rfl⟩ := List.mem_map.mp hx
  exact sh_T hF (hq.terms t ht)
theorem sh_S (hF : Fld p n) (hs : SysOk p n qs) : Sh (sD qs) 4 478804 := by
  refine sh_tup (dp := 3) (wt := 119700) (n := 4) (fun x hx => ?_) (by rw [List.length_map]; exact hs.few)
  obtain ⟨q, hq, rfl⟩ := List.mem_map.mp hx
  exact sh_P hF (hs.polys q hq)
theorem sh_kept (hF : Fld p n) (hs : SysOk p n qs) : ShowOk (.list [fD p n, sD qs]) := (sh_lst (dp := 4) (wt := 478804) (n := 2) (fun x hx => by
  obtain rfl | hx := List.mem_cons.mp hx
  · exact (sh_F hF).mono (by decide) (by decide)
  · rw [List.mem_singleton.mp hx]
    exact sh_S hF hs) (Nat.le_refl _)).ok (by decide) (by decide)
theorem sh_Z (hF : Fld p n) : Sh (.tuple ((lzK p n qs).map keyD)) 2 59500 := by
  refine sh_tup (dp := 1) (wt := 84) (n := 700) (fun x hx => ?_) (by rw [List.length_map]; exact Nat.le_trans (lzK_sub p n qs).length_le (pts_few hF (Nat.le_refl n)))
  obtain ⟨k, hk, rfl⟩ := List.mem_map.mp hx
  have m := mem_pts.mp ((lzK_sub p n qs).subset hk)
  have h4 := hF.n4
  have h7 := hF.le7
  refine sh_K (k := k) (by omega) fun e he => ?_
  have := m.2 e he
  omega
theorem lz_few (hF : Fld p n) : (lzK p n qs).length ≤ 700 := Nat.le_trans (lzK_sub p n qs).length_le (pts_few hF (Nat.le_refl n))
theorem sh_told (hF : Fld p n) : ShowOk (.list [.tuple ((lzK p n qs).map keyD), .int ((lzK p n qs).length : Int), .tuple ((lzK p n qs).map keyD), .int ((lzK p n qs).length : Int)]) := by
  have hl := lz_few (qs := qs) hF
  have hi : Sh (.int ((lzK p n qs).length : Int)) 2 59500 := (sh_int (by omega)).mono (by decide) (by decide)
  refine (sh_lst (dp := 2) (wt := 59500) (n := 4) (fun x hx => ?_) (Nat.le_refl _)).ok (by decide) (by decide)
  simp only [or_false, List.not_mem_nil, List.mem_cons] at hx
  rcases hx with rfl | rfl | rfl | rfl
  · exact sh_Z hF
  · exact hi
  · exact sh_Z hF
  · exact hi
theorem sh_ints {l : List Int} (h : ∀ e ∈ l, e.natAbs < 2 ^ 20) (hn : l.length ≤ 100) : ShowOk (lD l) := (sh_lst (dp := 0) (wt := 20) (n := 100) (fun x hx => by
  obtain ⟨e, he, rfl⟩ := List.mem_map.mp hx
  exact sh_int (h e he)) (by rw [List.length_map]; exact hn)).ok (by decide) (by decide)
end
section
variable {w : World} {P : Program} {mg : Str → Option Value} {K : PySem.W.Frag} {base : Heap}
abbrev s_right : Stmt := topP 59
theorem sc_right : FnScope ["frame", "sheets", "kept_so", "due", "told", "least", "rest", "left", "sheet"] ["frame", "sheets"] (defScope s_right) := ⟨rfl, rfl, rfl, by decide +kernel, rfl, by decide +kernel, by decide +kernel⟩
def R_right : List EV → EV → Prop := fun xs r => ∃ (p n : Nat) (qs : List Poly), xs = [.d (fD p n), .d (sD qs)] ∧ Fld p n ∧ SysOk p n qs ∧ r = bv true
theorem ok_right (T : Txt K mg) (D : DefAt K mg "_law_right" s_right ["frame", "sheets"]) (O_lzeros : Ok P w K mg base "_law_zeros" 3 (spD R_lzeros)) (O_zeros : Ok P w K mg base "zeros" 7 (spD R_zeros)) (O_count : Ok P w K mg base "count" 7 (spD R_count))
    (O_least : Ok P w K mg base "_law_least" 2 (spD R_least)) (O_high : Ok P w K mg base "_law_high" 1 (spD R_degree_of)) (O_promise : Ok P w K mg base "promise" 7 (spD R_promise)) (O_least_zeros : Ok P w K mg base "least_zeros" 7 (spD R_least_zeros)) (O_lpower : Ok P w K mg base "_law_power" 1 (spD R_lpower)) (O_top : Ok P w K mg base "top" 7 (spD R_top)) : Ok P w K mg base "_law_right" 8 (spD R_right) := by
  refine ok_sr D sc_right (fun xs r h => by obtain ⟨p, n, q, rfl, _⟩ := h; rfl) fun f cd A out s H hG hr => ?_
  refine ⟨_, pss_cons (ps_par (i := 2) (j := 3) rfl sc_right.nd rfl rfl (by decide) rfl rfl (pa_cons (pe_callB (cr_reprK (K := K) rfl hG hr.units) (by rfl) T.m_repr boot_repr (pa_cons (pe_lst (pa_cons (pv 0) (pa_cons (pv 1) pa_nil))) pa_nil)) (pa_cons (pe_ok O_lzeros hG (hr.mono (by decide)) (by rfl) (pa_cons (pv 0) (pa_cons (pv 1) pa_nil))) pa_nil)) rfl) (pss_cons (ps_set (i := 4) sc_right.nd rfl (Or.inl rfl) (pe_lst (pa_cons (pe_ok O_zeros hG (hr.mono (by decide)) (by rfl) (pa_cons (pv 0) (pa_cons (pv 1) pa_nil))) (pa_cons (pe_ok O_count hG (hr.mono (by decide)) (by rfl) (pa_cons (pv 0) (pa_cons (pv 1) pa_nil))) (pa_cons (pe_ok O_zeros hG (hr.mono (by decide)) (by rfl) (pa_cons (pv 0) (pa_cons (pv 1) pa_nil))) (pa_cons (pe_ok O_count hG (hr.mono (by decide)) (by rfl) (pa_cons (pv 0) (pa_cons (pv 1) pa_nil))) pa_nil)))))) (pss_cons (ps_if (pt_cmpR op_ne (pe_callB (cr_reprK (K := K) rfl hG hr.units) (by rfl) T.m_repr boot_repr (pa_cons (pv 4) pa_nil)) (pe_callB (cr_reprK (K := K) rfl hG hr.units) (by rfl) T.m_repr boot_repr (pa_cons (pe_op op_rep (pe_lst (pa_cons (pe_callTy (cr_tupOfK (K := K) rfl) (by rfl) T.m_tuple boot_tuple (pa_cons (pv 3) pa_nil)) (pa_cons (pe_callB (cr_lenK (K := K) rfl) (by rfl) T.m_len boot_len (pa_cons (pv 3) pa_nil)) pa_nil))) (pe_int)) pa_nil)) (nomark _)) (pss_one (ps_ret (pe_bl))) (pss_nil)) (pss_cons (ps_par (i := 5) (j := 6) rfl sc_right.nd rfl rfl (by decide) rfl rfl (pa_cons (pe_ok O_least hG (hr.mono (by decide)) (by rfl) (pa_cons (pv 1) (pa_cons (pv 0) pa_nil))) (pa_cons (pe_op op_sub (pe_ix (ix_seqK (K := K) rfl) (pv 0) (pe_int) (fun _ _ => rfl)) (pe_callB (cr_sumA rfl) (by rfl) T.m_sum boot_sum (pa_cons (pe_lc (own := [("sheet", 8)]) (tt := tYes) rfl sc_right.nd (pi_seqK (K := K) rfl (pv 1)) (blkOk_by (N := ["frame", "sheets", "kept_so", "due", "told", "least", "rest", "left", "sheet"]) (sc := defScope s_right) (by decide +kernel)) (fun _ _ _ _ _ => (pg_name (i := 8) sc_right.nd rfl (Or.inl rfl))) (fun _ _ _ _ _ => pts_nil) (fun _ _ _ _ _ => (pe_ok O_high hG (hr.mono (by decide)) (by rfl) (pa_cons (pv 8) pa_nil)))) pa_nil))) pa_nil)) rfl) (pss_cons (ps_set (i := 4) sc_right.nd rfl (Or.inl rfl) (pe_lst (pa_cons (pe_ok O_promise hG (hr.mono (by decide)) (by rfl) (pa_cons (pv 0) (pa_cons (pv 1) pa_nil))) (pa_cons (pe_ok O_least_zeros hG (hr.mono (by decide)) (by rfl) (pa_cons (pv 0) (pa_cons (pv 1) pa_nil))) (pa_cons (pe_ok O_promise hG (hr.mono (by decide)) (by rfl) (pa_cons (pv 0) (pa_cons (pv 1) pa_nil))) (pa_cons (pe_ok O_least_zeros hG (hr.mono (by decide)) (by rfl) (pa_cons (pv 0) (pa_cons (pv 1) pa_nil))) pa_nil)))))) (pss_cons (ps_if (pt_cmpR op_ne (pe_callB (cr_reprK (K := K) rfl hG hr.units) (by rfl) T.m_repr boot_repr (pa_cons (pv 4) pa_nil)) (pe_callB (cr_reprK (K := K) rfl hG hr.units) (by rfl) T.m_repr boot_repr (pa_cons (pe_op op_rep (pe_lst (pa_cons (pv 5) (pa_cons (pe_ok O_lpower hG (hr.mono (by decide)) (by rfl) (pa_cons (pe_ix (ix_seqK (K := K) rfl) (pv 0) (pe_int) (fun _ _ => rfl)) (pa_cons (pv 6) pa_nil))) pa_nil))) (pe_int)) pa_nil)) (nomark _)) (pss_one (ps_ret (pe_bl))) (pss_nil)) (pss_cons (ps_if (PW.pt (pw_or (pt_cmpR op_ne (pe_op op_mod (pe_callTy call_int1 (by rfl) T.m_int boot_int (pa_cons (pe_callB (cr_lenK (K := K) rfl) (by rfl) T.m_len boot_len (pa_cons (pv 3) pa_nil)) pa_nil)) (pe_ok O_lpower hG (hr.mono (by decide)) (by rfl) (pa_cons (pe_ix (ix_seqK (K := K) rfl) (pv 0) (pe_int) (fun _ _ => rfl)) (pa_cons (pv 5) pa_nil)))) (pe_int) (nomark _)) (pw_or1 (PW.pt (pw_and (pt_cmpR (op_neDK (K := K) rfl hr.units) (pv 3) (pe_lst pa_nil) (nomark _)) (pw_and1 (pt_cmpR op_lt (pe_callB (cr_lenK (K := K) rfl) (by rfl) T.m_len boot_len (pa_cons (pv 3) pa_nil)) (pe_ok O_lpower hG (hr.mono (by decide)) (by rfl) (pa_cons (pe_ix (ix_seqK (K := K) rfl) (pv 0) (pe_int) (fun _ _ => rfl)) (pa_cons (pv 6) pa_nil))) (nomark _)))))))) (pss_one (ps_ret (pe_bl))) (pss_nil)) (pss_cons (ps_set (i := 7) sc_right.nd rfl (Or.inl rfl) (pe_op op_mod (pe_callTy call_int1 (by rfl) T.m_int boot_int (pa_cons (pe_ifExp (pt_cmpR op_eq (pe_op op_mod (pe_callTy call_int1 (by rfl) T.m_int boot_int (pa_cons (pe_ix (ix_seqK (K := K) rfl) (pv 0) (pe_int) (fun _ _ => rfl)) pa_nil)) (pe_int)) (pe_int) (nomark _)) (pe_callB (cr_lenK (K := K) rfl) (by rfl) T.m_len boot_len (pa_cons (pv 3) pa_nil)) (pe_op op_sub (pe_int) (pe_callB (cr_lenK (K := K) rfl) (by rfl) T.m_len boot_len (pa_cons (pv 3) pa_nil)))) pa_nil)) (pe_ix (ix_seqK (K := K) rfl) (pv 0) (pe_int) (fun _ _ => rfl)))) (pss_cons (ps_set (i := 4) sc_right.nd rfl (Or.inl rfl) (pe_lst (pa_cons (pe_ok O_top hG (hr.mono (by decide)) (by rfl) (pa_cons (pv 0) (pa_cons (pv 1) pa_nil))) (pa_cons (pe_ok O_top hG (hr.mono (by decide)) (by rfl) (pa_cons (pv 0) (pa_cons (pv 1) pa_nil))) pa_nil)))) (pss_one (ps_ret (pe_and (pe_cmpR op_eq (pe_callB (cr_reprK (K := K) rfl hG hr.units) (by rfl) T.m_repr boot_repr (pa_cons (pv 4) pa_nil)) (pe_callB (cr_reprK (K := K) rfl hG hr.units) (by rfl) T.m_repr boot_repr (pa_cons (pe_op op_rep (pe_lst (pa_cons (pv 7) pa_nil)) (pe_int)) pa_nil)) (nomark _)) (pe_one (pe_cmpR op_eq (pe_callB (cr_reprK (K := K) rfl hG hr.units) (by rfl) T.m_repr boot_repr (pa_cons (pe_lst (pa_cons (pv 0) (pa_cons (pv 1) pa_nil))) pa_nil)) (pv 2) (nomark _)))))))))))))), ?_⟩
  rintro xs r ⟨p, n, qs, rfl, hF, hs, rfl⟩
  have h4 := hF.n4
  have h7 := hF.le7
  have hf := hs.few
  have hlf := lz_few (qs := qs) hF
  have hS := sum_pos (degsK_pos hs) (degsK_ne hs)
  have hD := degs_le hF hs
  -- the parts that are asked twice
  let Z : PyData := .tuple ((lzK p n qs).map keyD)
  let L : Int := ((lzK p n qs).length : Int)
  let rr : Int := (n : Int) - (degsK qs).sum
  let M : Nat := promK rr (maxL (degsK qs))
  have hM : M ≤ 3 := promK_le _ _
  have hp3 : (p : Int) ^ M ≤ 343 := by
    have h1 : p ^ M ≤ 7 ^ 3 := Nat.le_trans (Nat.pow_le_pow_left h7.2 M) (Nat.pow_le_pow_right (by decide) hM)
    have : ((p ^ M : Nat) : Int) = (p : Int) ^ M := Int.natCast_pow _ _
    omega
  have hp0 : 0 < (p : Int) ^ M := Int.pow_pos (by omega)
  have hr3 : (p : Int) ^ rr.toNat ≤ 343 := by
    have h1 : p ^ rr.toNat ≤ 7 ^ 3 := Nat.le_trans (Nat.pow_le_pow_left h7.2 _) (Nat.pow_le_pow_right (by decide) (by omega))
    have : ((p ^ rr.toNat : Nat) : Int) = (p : Int) ^ rr.toNat := Int.natCast_pow _ _
    omega
  have hr0 : 0 < (p : Int) ^ rr.toNat := Int.pow_pos (by omega)
  refine sr_seq (sn_par (ea_cons (ee_repr (ds := [fD p n, sD qs]) (ee_lst (ea_cons (ee_var rfl) (ea_cons (ee_var rfl) ea_nil)) (by simp)) (sh_kept hF hs)) (ea_cons (ee_cal (ea_cons (ee_var rfl) (ea_cons (ee_var rfl) ea_nil)) ⟨p, n, qs, rfl, hF, hs, rfl⟩) ea_nil))) ?_
  refine sr_seq (sn_asg (ee_lst (ds := [Z, .int L, Z, .int L]) (ea_cons (ee_cal (ea_cons (ee_var rfl) (ea_cons (ee_var rfl) ea_nil)) ⟨p, n, qs, rfl, hF, hs, by rw [m_zeros hF hs]⟩) (ea_cons (ee_cal (ea_cons (ee_var rfl) (ea_cons (ee_var rfl) ea_nil)) ⟨p, n, qs, rfl, hF, hs, by rw [m_zeros hF hs]⟩) (ea_cons (ee_cal (ea_cons (ee_var rfl) (ea_cons (ee_var rfl) ea_nil)) ⟨p, n, qs, rfl, hF, hs, by rw [m_zeros hF hs]⟩) (ea_cons (ee_cal (ea_cons (ee_var rfl) (ea_cons (ee_var rfl) ea_nil)) ⟨p, n, qs, rfl, hF, hs, by rw [m_zeros hF hs]⟩) ea_nil)))) (by simp))) ?_
  refine sr_seq (sn_pass (eb_is (eb_test (ee_neS (ee_repr (ee_var rfl) (sh_told hF)) (ee_repr (ee_is (y := .d (.list [Z, .int L, Z, .int L])) (ee_rep (ds := [Z, .int L]) (ee_lst (ea_cons (ee_tupOf (ee_var rfl)) (ea_cons (ee_len' (ee_var rfl) (sv_l _) (by simp)) ea_nil)) (by simp)) ee_int (by omega) (by omega) (by simp)) rfl) (sh_told hF)))) (by simp))) ?_
  refine sr_seq (sn_par (ea_cons (ee_cal (ea_cons (ee_var rfl) (ea_cons (ee_var rfl) ea_nil)) ⟨p, n, qs, rfl, hF, hs, rfl⟩) (ea_cons (ee_sub (ee_n (ee_var rfl)) (ee_sum (ns := degsK qs) (ee_is (ee_lcm qs pD (fun q => .int (degK q)) (wi_seq (ee_var rfl) (sv_t _)) (by omega) fun q hq => ⟨_, _, ge_name, by decide, ee_cal (ea_cons (ee_var rfl) ea_nil) ⟨q, _, rfl, sv_t _, by have := (hs.polys q hq).few; omega, rfl⟩⟩) (by simp [degsK])) (.inr rfl))) ea_nil))) ?_
  have sh2 : ShowOk (.list [.int (M : Int), .int ((p : Int) ^ rr.toNat), .int (M : Int), .int ((p : Int) ^ rr.toNat)]) := sh_ints (l := [(M : Int), (p : Int) ^ rr.toNat, (M : Int), (p : Int) ^ rr.toNat]) (fun e he => by
    simp only [List.mem_cons, List.not_mem_nil, or_false] at he
    rcases he with rfl | rfl | rfl | rfl <;> omega) (by simp)
  refine sr_seq (sn_asg (ee_lst (ds := [.int (M : Int), .int ((p : Int) ^ rr.toNat), .int (M : Int), .int ((p : Int) ^ rr.toNat)]) (ea_cons (ee_cal (ea_cons (ee_var rfl) (ea_cons (ee_var rfl) ea_nil)) ⟨p, n, qs, rfl, hF, hs, rfl⟩) (ea_cons (ee_cal (ea_cons (ee_var rfl) (ea_cons (ee_var rfl) ea_nil)) ⟨p, n, qs, rfl, hF, hs, rfl⟩) (ea_cons (ee_cal (ea_cons (ee_var rfl) (ea_cons (ee_var rfl) ea_nil)) ⟨p, n, qs, rfl, hF, hs, rfl⟩) (ea_cons (ee_cal (ea_cons (ee_var rfl) (ea_cons (ee_var rfl) ea_nil)) ⟨p, n, qs, rfl, hF, hs, rfl⟩) ea_nil)))) (by simp))) ?_
  refine sr_seq (sn_pass (eb_is (eb_test (ee_neS (ee_repr (ee_var rfl) sh2) (ee_repr (ee_is (y := .d (.list [.int (M : Int), .int ((p : Int) ^ rr.toNat), .int (M : Int), .int ((p : Int) ^ rr.toNat)])) (ee_rep (ds := [.int (M : Int), .int ((p : Int) ^ rr.toNat)]) (ee_lst (ea_cons (ee_var rfl) (ea_cons (ee_cal (ea_cons (ee_p (ee_var rfl)) (ea_cons (ee_var rfl) ea_nil)) ⟨p, rr, rfl, by omega, by omega, by omega, rfl⟩) ea_nil)) (by simp)) ee_int (by omega) (by omega) (by simp)) rfl) sh2))) (by simp))) ?_
  refine sr_seq (sn_pass (eb_is (eb_or (eb_test (ee_neI (ee_mod (ee_int1 (ee_len' (n := (lzK p n qs).length) (ee_var rfl) (sv_l _) (by simp))) (ee_cal (ea_cons (ee_p (ee_var rfl)) (ea_cons (ee_var rfl) ea_nil)) ⟨p, (M : Int), rfl, by omega, by omega, by omega, rfl⟩) (by rw [Int.toNat_natCast]; exact hp0)) ee_int)) fun _ =>
    eb_and (eb_test (ee_neD (ee_var rfl) (ee_lst (ds := []) ea_nil (by simp)) ?_ rfl)) fun _ => eb_test (ee_lt (ee_len' (n := (lzK p n qs).length) (ee_var rfl) (sv_l _) (by simp)) (ee_cal (ea_cons (ee_p (ee_var rfl)) (ea_cons (ee_var rfl) ea_nil)) ⟨p, rr, rfl, by omega, by omega, by omega, rfl⟩))) ?_)) ?_
  · refine (sh_lst (dp := 1) (wt := 84) (n := 700) (fun x hx => ?_) (by rw [List.length_map]; exact hlf)).shaped (by decide)
    obtain ⟨k, hk, rfl⟩ := List.mem_map.mp hx
    have m := mem_pts.mp ((lzK_sub p n qs).subset hk)
    refine sh_K (k := k) (by omega) fun e he => ?_
    have := m.2 e he
    omega
  · rw [Int.toNat_natCast, decide_eq_true (Int.emod_eq_zero_of_dvd (m_part hF hs))]
    by_cases he : lzK p n qs = []
    · rw [he]
      rfl
    · rw [decide_eq_false (p := ((lzK p n qs).length : Int) < (p : Int) ^ rr.toNat) (by have h : (p : Int) ^ rr.toNat ≤ ((lzK p n qs).length : Int) := m_great hF hs he; omega)]
      simp
  let x : Int := if n % 2 = 0 then L else 0 - L
  refine sr_seq (sn_asg (ee_mod (ee_int1 (ee_if (x := iv x) (eb_test (ee_eqI (ee_mod (ee_int1 (ee_n (ee_var rfl))) ee_int (by omega)) ee_int)) (fun h => ee_is (ee_len' (n := (lzK p n qs).length) (ee_var rfl) (sv_l _) (by simp)) ?_) (fun h => ee_is (ee_sub ee_int (ee_len' (n := (lzK p n qs).length) (ee_var rfl) (sv_l _) (by simp))) ?_))) (ee_p (ee_var rfl)) (by omega))) ?_
  · have := of_decide_eq_true h
    show iv L = iv (if n % 2 = 0 then L else 0 - L)
    rw [if_pos (by omega)]
  · have := of_decide_eq_false h; show iv (0 - L) = iv (if n % 2 = 0 then L else 0 - L)
    rw [if_neg (by omega)]
  have ht : topK p n qs = x % (p : Int) := m_top hF hs
  have hx0 := Int.emod_nonneg x (b := (p : Int)) (by omega)
  have hx1 := Int.emod_lt_of_pos x (b := (p : Int)) (by omega)
  have sh3 : ShowOk (.list [.int (x % (p : Int)), .int (x % (p : Int))]) := sh_ints (l := [x % (p : Int), x % (p : Int)]) (fun e he => by
    simp only [List.mem_cons, List.not_mem_nil, or_false] at he
    rcases he with rfl | rfl <;> omega) (by simp)
  refine sr_seq (sn_asg (ee_lst (ds := [.int (x % (p : Int)), .int (x % (p : Int))]) (ea_cons (ee_cal (ea_cons (ee_var rfl) (ea_cons (ee_var rfl) ea_nil)) ⟨p, n, qs, rfl, hF, hs, by rw [ht]⟩) (ea_cons (ee_cal (ea_cons (ee_var rfl) (ea_cons (ee_var rfl) ea_nil)) ⟨p, n, qs, rfl, hF, hs, by rw [ht]⟩) ea_nil)) (by simp))) ?_
  refine sr_one (sr_ret (ee_is (ee_andV (ee_eqS (ee_repr (ee_var rfl) sh3) (ee_repr (ee_is (y := .d (.list [.int (x % (p : Int)), .int (x % (p : Int))])) (ee_rep (ds := [.int (x % (p : Int))]) (ee_lst (ea_cons (ee_var rfl) ea_nil) (by simp)) ee_int (by omega) (by omega) (by simp)) rfl) sh3)) fun _ => ee_eqS (ee_repr (ds := [fD p n, sD qs]) (ee_lst (ea_cons (ee_var rfl) (ea_cons (ee_var rfl) ea_nil)) (by simp)) (sh_kept hF hs)) (ee_var rfl)) ?_))
  simp
end
end Pz
namespace Pz
open PySem PySem.Spec PyProof.Rows L2 Evl StX
/-! ### the rows by hand -/
def termB (p n : Nat) (t : List Int × Int) : Bool := decide (t.1.length = n) && t.1.all (fun e => decide (0 ≤ e) && decide (e ≤ 30)) && decide (1 ≤ t.2) && decide (t.2 ≤ (p : Int) - 1)
def polyB (p n : Nat) (q : Poly) : Bool := q.all (termB p n) && (q.zip (q.drop 1)).all (fun ab => decide (ab.1.1 < ab.2.1)) && decide (q.length ≤ 700)
def sysB (p n : Nat) (qs : List Poly) : Bool := qs.all (fun q => polyB p n q && decide (1 ≤ degK q)) && decide (1 ≤ qs.length) && decide (qs.length ≤ 4)
def fldB (p n : Nat) : Bool := decide (p = 2 ∨ p = 3 ∨ p = 5 ∨ p = 7) && decide (1 ≤ n) && decide (n ≤ 4) && decide (p ^ n ≤ 700)
theorem fld_of {p n : Nat} (h : fldB p n = true) : Fld p n := by
  unfold fldB at h
  simp only [decide_eq_true_eq, Bool.and_eq_true] at h
  exact ⟨h.1.1.1, h.1.1.2, h.1.2, h.2⟩
theorem poly_of {p n : Nat} {q : Poly} (h : polyB p n q = true) : PolyOk p n q := by
  unfold polyB at h
  simp only [Bool.and_eq_true, decide_eq_true_eq, List.all_eq_true] at h
  obtain ⟨⟨h1, h2⟩, h3⟩ := h
  refine ⟨fun t ht => ?_, fun i a b ha hb => ?_, h3⟩
  · have k := h1 t ht
    unfold termB at k
    simp only [Bool.and_eq_true, decide_eq_true_eq, List.all_eq_true] at k
    exact ⟨⟨k.1.1.1, fun e he => k.1.1.2 e he⟩, k.1.2, k.2⟩
  · refine h2 (a, b) (List.mem_of_getElem? (i := i) ?_)
    rw [List.getElem?_zip_eq_some]
    exact ⟨ha, by rw [List.getElem?_drop, Nat.add_comm]; exact hb⟩
theorem sys_of {p n : Nat} {qs : List Poly} (h : sysB p n qs = true) : SysOk p n qs := by
  unfold sysB at h
  simp only [Bool.and_eq_true, decide_eq_true_eq, List.all_eq_true] at h
  exact ⟨fun q hq => poly_of (h.1.1 q hq).1, fun q hq => (h.1.1 q hq).2, h.1.2, h.2⟩
def squaresH : Poly := [([0, 0, 2], 1), ([0, 2, 0], 1), ([2, 0, 0], 1)]
def crossH : Poly := [([0, 0, 1, 1], 1), ([1, 1, 0, 0], 1)]
def twoH : List Poly := [[([0, 0, 0, 1], 1)], [([0, 0, 1, 0], 1)]]
structure RowH where
  p : Nat
  n : Nat
  qs : List Poly
  many : Int
  least : Int
def rowD (r : RowH) : PyData := .tuple [fD r.p r.n, sD r.qs, .int r.many, .int r.least]
def rowsA : List RowH := [⟨3, 3, [squaresH], 9, 1⟩, ⟨5, 3, [squaresH], 25, 1⟩, ⟨7, 3, [squaresH], 49, 1⟩]
def rowsB : List RowH := [⟨2, 4, [crossH], 10, 1⟩, ⟨3, 4, [crossH], 33, 1⟩, ⟨5, 4, [crossH], 145, 1⟩]
def rowsC : List RowH := [⟨7, 2, [[([0, 1], 2), ([1, 0], 1)]], 7, 1⟩, ⟨2, 4, [[([0, 0, 1, 1], 1)], [([1, 0, 0, 0], 1)]], 6, 1⟩]
def rowsE : List RowH := [⟨7, 1, [[([0], 6), ([6], 1)]], 6, 0⟩, ⟨2, 4, [[([0, 0, 0, 1], 1)]], 8, 3⟩]
def rowsG : List RowH := [⟨5, 2, [[([0, 4], 1), ([4, 0], 1)]], 1, 0⟩, ⟨3, 1, [[([0], 1), ([2], 1)]], 0, 0⟩]
def rowsI : List RowH := [⟨2, 4, twoH, 4, 2⟩]
def rowsH : List RowH := ((((rowsA ++ rowsB) ++ rowsC) ++ rowsE) ++ rowsG) ++ rowsI
def rowOk (r : RowH) : Bool := fldB r.p r.n && sysB r.p r.n r.qs && decide (((lzK r.p r.n r.qs).length : Int) = r.many) && decide ((promK ((r.n : Int) - (degsK r.qs).sum) (maxL (degsK r.qs)) : Int) = r.least)
theorem rowsH_ok : rowsH.all rowOk = true := by decide +kernel
theorem handA : (fldB 2 4 && sysB 2 4 twoH && fldB 3 3 && sysB 3 3 [squaresH, [([1, 0, 0], 2)]]) = true := by decide +kernel
theorem handB : (fldB 3 4 && sysB 3 4 [crossH] && fldB 5 2 && sysB 5 2 [[([0, 4], 1), ([4, 0], 1)]] && fldB 7 1 && sysB 7 1 [[([0], 6), ([6], 1)]]) = true := by decide +kernel
theorem handC : (lzK 3 4 [crossH]).length = 33 ∧ (lzK 5 2 [[([0, 4], 1), ([4, 0], 1)]]).length = 1 ∧ (lzK 7 1 [[([0], 6), ([6], 1)]]).length = 6 := by decide +kernel
section
variable {K : PySem.W.Frag} {ρ ρ2 : Env1} {te : TE} {t1 t2 : TS}
theorem sr_ownL2 {i : Nat} {ds es : List PyData} {u : TS} {r1 : Addr → Env1} {r : EV} (h0 : EvN te ρ ds) (h2 : ∀ a, SO [a] (tSeq t1 t2) (ρ.set i (some (.a a))) (lC a ds noC) (is2 (r1 a) (lC a es noC))) (h1 : ∀ a, (r1 a)[i]? = some (some (.a a)) ∧ (r1 a).set i (some (.d (.list es))) = ρ2)
    (h3 : SR u ρ2 r) : SR (tSeq (tAsg te (gName i)) (tSeq t1 (tSeq t2 u))) ρ r := sr_ownL (t := tSeq t1 t2) h0 h2 h1 h3
end
section
variable {w : World} {P : Program} {mg : Str → Option Value} {K : PySem.W.Frag} {base : Heap}
abbrev s_hand : Stmt := topP 60
theorem sc_hand : FnScope ["squares", "cross", "rows", "two", "frame", "sheets", "many", "least"] [] (defScope s_hand) := ⟨rfl, rfl, rfl, by decide +kernel, rfl, by decide +kernel, by decide +kernel⟩
def R_hand : List EV → EV → Prop := fun xs r => xs = [] ∧ r = bv true
theorem ok_hand (T : Txt K mg) (D : DefAt K mg "_law_hand_right" s_hand []) (O_right : Ok P w K mg base "_law_right" 8 (spD R_right)) (O_count : Ok P w K mg base "count" 7 (spD R_count)) (O_promise : Ok P w K mg base "promise" 7 (spD R_promise)) (O_top : Ok P w K mg base "top" 7 (spD R_top)) : Ok P w K mg base "_law_hand_right" 9 (spD R_hand) := by
  refine ok_sr D sc_hand (fun xs r h => by obtain ⟨rfl, _⟩ := h; rfl) fun f cd A out s H hG hr => ?_
  refine ⟨_, pss_cons (ps_set (i := 0) sc_hand.nd rfl (Or.inl rfl) (pe_tup (pa_cons (pe_tup (pa_cons (pe_tup (pa_cons (pe_int) (pa_cons (pe_int) (pa_cons (pe_int) pa_nil)))) (pa_cons (pe_int) pa_nil))) (pa_cons (pe_tup (pa_cons (pe_tup (pa_cons (pe_int) (pa_cons (pe_int) (pa_cons (pe_int) pa_nil)))) (pa_cons (pe_int) pa_nil))) (pa_cons (pe_tup (pa_cons (pe_tup (pa_cons (pe_int) (pa_cons (pe_int) (pa_cons (pe_int) pa_nil)))) (pa_cons (pe_int) pa_nil))) pa_nil))))) (pss_cons (ps_set (i := 1) sc_hand.nd rfl (Or.inl rfl) (pe_tup (pa_cons (pe_tup (pa_cons (pe_tup (pa_cons (pe_int) (pa_cons (pe_int) (pa_cons (pe_int) (pa_cons (pe_int) pa_nil))))) (pa_cons (pe_int) pa_nil))) (pa_cons (pe_tup (pa_cons (pe_tup (pa_cons (pe_int) (pa_cons (pe_int) (pa_cons (pe_int) (pa_cons (pe_int) pa_nil))))) (pa_cons (pe_int) pa_nil))) pa_nil)))) (pss_cons (ps_set (i := 2) sc_hand.nd rfl (Or.inl rfl) (pe_lst (pa_cons (pe_tup (pa_cons (pe_tup (pa_cons (pe_int) (pa_cons (pe_int) pa_nil))) (pa_cons (pe_tup (pa_cons (pv 0) pa_nil)) (pa_cons (pe_int) (pa_cons (pe_int) pa_nil))))) (pa_cons (pe_tup (pa_cons (pe_tup (pa_cons (pe_int) (pa_cons (pe_int) pa_nil))) (pa_cons (pe_tup (pa_cons (pv 0) pa_nil)) (pa_cons (pe_int) (pa_cons (pe_int) pa_nil))))) (pa_cons (pe_tup (pa_cons (pe_tup (pa_cons (pe_int) (pa_cons (pe_int) pa_nil))) (pa_cons (pe_tup (pa_cons (pv 0) pa_nil)) (pa_cons (pe_int) (pa_cons (pe_int) pa_nil))))) pa_nil))))) (pss_cons (ps_set (i := 2) sc_hand.nd rfl (Or.inl rfl) (pe_op op_cat (pv 2) (pe_lst (pa_cons (pe_tup (pa_cons (pe_tup (pa_cons (pe_int) (pa_cons (pe_int) pa_nil))) (pa_cons (pe_tup (pa_cons (pv 1) pa_nil)) (pa_cons (pe_int) (pa_cons (pe_int) pa_nil))))) (pa_cons (pe_tup (pa_cons (pe_tup (pa_cons (pe_int) (pa_cons (pe_int) pa_nil))) (pa_cons (pe_tup (pa_cons (pv 1) pa_nil)) (pa_cons (pe_int) (pa_cons (pe_int) pa_nil))))) (pa_cons (pe_tup (pa_cons (pe_tup (pa_cons (pe_int) (pa_cons (pe_int) pa_nil))) (pa_cons (pe_tup (pa_cons (pv 1) pa_nil)) (pa_cons (pe_int) (pa_cons (pe_int) pa_nil))))) pa_nil)))))) (pss_cons (ps_set (i := 2) sc_hand.nd rfl (Or.inl rfl) (pe_op op_cat (pv 2) (pe_lst (pa_cons (pe_tup (pa_cons (pe_tup (pa_cons (pe_int) (pa_cons (pe_int) pa_nil))) (pa_cons (pe_tup (pa_cons (pe_tup (pa_cons (pe_tup (pa_cons (pe_tup (pa_cons (pe_int) (pa_cons (pe_int) pa_nil))) (pa_cons (pe_int) pa_nil))) (pa_cons (pe_tup (pa_cons (pe_tup (pa_cons (pe_int) (pa_cons (pe_int) pa_nil))) (pa_cons (pe_int) pa_nil))) pa_nil))) pa_nil)) (pa_cons (pe_int) (pa_cons (pe_int) pa_nil))))) (pa_cons (pe_tup (pa_cons (pe_tup (pa_cons (pe_int) (pa_cons (pe_int) pa_nil))) (pa_cons (pe_tup (pa_cons (pe_slice (sl_tupK (K := K) rfl) (pv 1) po_none (po_some (pe_int))) (pa_cons (pe_tup (pa_cons (pe_tup (pa_cons (pe_tup (pa_cons (pe_int) (pa_cons (pe_int) (pa_cons (pe_int) (pa_cons (pe_int) pa_nil))))) (pa_cons (pe_int) pa_nil))) pa_nil)) pa_nil))) (pa_cons (pe_int) (pa_cons (pe_int) pa_nil))))) pa_nil))))) (pss_cons (ps_set (i := 2) sc_hand.nd rfl (Or.inl rfl) (pe_op op_cat (pv 2) (pe_lst (pa_cons (pe_tup (pa_cons (pe_tup (pa_cons (pe_int) (pa_cons (pe_int) pa_nil))) (pa_cons (pe_tup (pa_cons (pe_tup (pa_cons (pe_tup (pa_cons (pe_tup (pa_cons (pe_int) pa_nil)) (pa_cons (pe_int) pa_nil))) (pa_cons (pe_tup (pa_cons (pe_tup (pa_cons (pe_int) pa_nil)) (pa_cons (pe_int) pa_nil))) pa_nil))) pa_nil)) (pa_cons (pe_int) (pa_cons (pe_int) pa_nil))))) (pa_cons (pe_tup (pa_cons (pe_tup (pa_cons (pe_int) (pa_cons (pe_int) pa_nil))) (pa_cons (pe_tup (pa_cons (pe_tup (pa_cons (pe_tup (pa_cons (pe_tup (pa_cons (pe_int) (pa_cons (pe_int) (pa_cons (pe_int) (pa_cons (pe_int) pa_nil))))) (pa_cons (pe_int) pa_nil))) pa_nil)) pa_nil)) (pa_cons (pe_int) (pa_cons (pe_int) pa_nil))))) pa_nil))))) (pss_cons (ps_set (i := 2) sc_hand.nd rfl (Or.inl rfl) (pe_op op_cat (pv 2) (pe_lst (pa_cons (pe_tup (pa_cons (pe_tup (pa_cons (pe_int) (pa_cons (pe_int) pa_nil))) (pa_cons (pe_tup (pa_cons (pe_tup (pa_cons (pe_tup (pa_cons (pe_tup (pa_cons (pe_int) (pa_cons (pe_int) pa_nil))) (pa_cons (pe_int) pa_nil))) (pa_cons (pe_tup (pa_cons (pe_tup (pa_cons (pe_int) (pa_cons (pe_int) pa_nil))) (pa_cons (pe_int) pa_nil))) pa_nil))) pa_nil)) (pa_cons (pe_int) (pa_cons (pe_int) pa_nil))))) (pa_cons (pe_tup (pa_cons (pe_tup (pa_cons (pe_int) (pa_cons (pe_int) pa_nil))) (pa_cons (pe_tup (pa_cons (pe_tup (pa_cons (pe_tup (pa_cons (pe_tup (pa_cons (pe_int) pa_nil)) (pa_cons (pe_int) pa_nil))) (pa_cons (pe_tup (pa_cons (pe_tup (pa_cons (pe_int) pa_nil)) (pa_cons (pe_int) pa_nil))) pa_nil))) pa_nil)) (pa_cons (pe_int) (pa_cons (pe_int) pa_nil))))) pa_nil))))) (pss_cons (ps_set (i := 3) sc_hand.nd rfl (Or.inl rfl) (pe_tup (pa_cons (pe_tup (pa_cons (pe_tup (pa_cons (pe_tup (pa_cons (pe_int) (pa_cons (pe_int) (pa_cons (pe_int) (pa_cons (pe_int) pa_nil))))) (pa_cons (pe_int) pa_nil))) pa_nil)) (pa_cons (pe_tup (pa_cons (pe_tup (pa_cons (pe_tup (pa_cons (pe_int) (pa_cons (pe_int) (pa_cons (pe_int) (pa_cons (pe_int) pa_nil))))) (pa_cons (pe_int) pa_nil))) pa_nil)) pa_nil)))) (pss_cons (ps_expr (pe_bm PySem.F.plainAttrs_list PySem.F.slot_list_append PySem.F.type_list_append mt_append (pv 2) (pa_cons (pe_tup (pa_cons (pe_tup (pa_cons (pe_int) (pa_cons (pe_int) pa_nil))) (pa_cons (pv 3) (pa_cons (pe_int) (pa_cons (pe_int) pa_nil))))) pa_nil))) (pss_cons (ps_if (PW.pt (pw_or (pt_not (pt_val (pe_ok O_right hG (hr.mono (by decide)) (by rfl) (pa_cons (pe_tup (pa_cons (pe_int) (pa_cons (pe_int) pa_nil))) (pa_cons (pv 3) pa_nil))))) (pw_or1 (pt_not (pt_val (pe_ok O_right hG (hr.mono (by decide)) (by rfl) (pa_cons (pe_tup (pa_cons (pe_int) (pa_cons (pe_int) pa_nil))) (pa_cons (pe_tup (pa_cons (pv 0) (pa_cons (pe_tup (pa_cons (pe_tup (pa_cons (pe_tup (pa_cons (pe_int) (pa_cons (pe_int) (pa_cons (pe_int) pa_nil)))) (pa_cons (pe_int) pa_nil))) pa_nil)) pa_nil))) pa_nil)))))))) (pss_one (ps_ret (pe_bl))) (pss_nil)) (pss_cons (ps_for PassesOwn.never rfl (pi_seqK (K := K) rfl (pv 2)) (pg_tupK (K := K) (n := 4) rfl rfl (pgs_cons (pg_name (i := 4) sc_hand.nd rfl (Or.inl rfl)) (pgs_cons (pg_name (i := 5) sc_hand.nd rfl (Or.inl rfl)) (pgs_cons (pg_name (i := 6) sc_hand.nd rfl (Or.inl rfl)) (pgs_cons (pg_name (i := 7) sc_hand.nd rfl (Or.inl rfl)) pgs_nil))))) (pss_one (ps_if (pt_cmpR op_ne (pe_callB (cr_reprK (K := K) rfl hG hr.units) (by rfl) T.m_repr boot_repr (pa_cons (pe_lst (pa_cons (pe_ok O_count hG (hr.mono (by decide)) (by rfl) (pa_cons (pv 4) (pa_cons (pv 5) pa_nil))) (pa_cons (pe_ok O_promise hG (hr.mono (by decide)) (by rfl) (pa_cons (pv 4) (pa_cons (pv 5) pa_nil))) pa_nil))) pa_nil)) (pe_callB (cr_reprK (K := K) rfl hG hr.units) (by rfl) T.m_repr boot_repr (pa_cons (pe_lst (pa_cons (pv 6) (pa_cons (pv 7) pa_nil))) pa_nil)) (nomark _)) (pss_one (ps_ret (pe_bl))) (pss_nil)))) (pss_one (ps_ret (pe_cmpR (op_eqDK (K := K) rfl hr.units) (pe_lst (pa_cons (pe_ok O_top hG (hr.mono (by decide)) (by rfl) (pa_cons (pe_tup (pa_cons (pe_int) (pa_cons (pe_int) pa_nil))) (pa_cons (pe_tup (pa_cons (pv 1) pa_nil)) pa_nil))) (pa_cons (pe_ok O_top hG (hr.mono (by decide)) (by rfl) (pa_cons (pe_tup (pa_cons (pe_int) (pa_cons (pe_int) pa_nil))) (pa_cons (pe_ix (ix_seqK (K := K) rfl) (pe_ix (ix_seqK (K := K) rfl) (pv 2) (pe_int) (fun _ _ => rfl)) (pe_int) (fun _ _ => rfl)) pa_nil))) (pa_cons (pe_ok O_top hG (hr.mono (by decide)) (by rfl) (pa_cons (pe_tup (pa_cons (pe_int) (pa_cons (pe_int) pa_nil))) (pa_cons (pe_ix (ix_seqK (K := K) rfl) (pe_ix (ix_seqK (K := K) rfl) (pv 2) (pe_int) (fun _ _ => rfl)) (pe_int) (fun _ _ => rfl)) pa_nil))) pa_nil)))) (pe_lst (pa_cons (pe_int) (pa_cons (pe_int) (pa_cons (pe_int) pa_nil)))) (nomark _)))))))))))))), ?_⟩
  rintro xs r ⟨rfl, rfl⟩
  have fA : ∀ ρ : Env1, ∀ r ∈ rowsH, rowOk r = true := fun _ r hr => List.all_eq_true.mp rowsH_ok r hr
  refine sr_seq (sn_asg (x := .d (pD squaresH)) ?c1) (sr_seq (sn_asg (x := .d (pD crossH)) ?c2) (sr_seq (sn_asg (x := .d (.list (rowsA.map rowD))) (ee_lst ?c3 ?c4)) (sr_seq (sn_asg (x := .d (.list (rowsA.map rowD ++ rowsB.map rowD))) (ee_cat (ee_var rfl) (ee_lst ?c5 ?c6) ?c7)) (sr_seq (sn_asg (x := .d (.list ((rowsA.map rowD ++ rowsB.map rowD) ++ rowsC.map rowD))) (ee_cat (ee_var rfl) (ee_lst ?c8 ?c9) ?c10)) (sr_seq (sn_asg (x := .d (.list (((rowsA.map rowD ++ rowsB.map rowD) ++ rowsC.map rowD) ++ rowsE.map rowD))) (ee_cat (ee_var rfl) (ee_lst ?c11 ?c12) ?c13)) ?rest)))))
  case c1 => repeat' (first | exact ee_int | exact ea_nil | exact ee_var rfl | refine ee_tup ?_ ?_ | refine ea_cons ?_ ?_ | exact Nat.le_of_ble_eq_true rfl)
  case c2 => repeat' (first | exact ee_int | exact ea_nil | exact ee_var rfl | refine ee_tup ?_ ?_ | refine ea_cons ?_ ?_ | exact Nat.le_of_ble_eq_true rfl)
  case c3 => repeat' (first | exact ee_int | exact ea_nil | exact ee_var rfl | refine ee_tup ?_ ?_ | refine ea_cons ?_ ?_ | exact Nat.le_of_ble_eq_true rfl)
  case c4 => decide
  case c5 => repeat' (first | exact ee_int | exact ea_nil | exact ee_var rfl | refine ee_tup ?_ ?_ | refine ea_cons ?_ ?_ | exact Nat.le_of_ble_eq_true rfl)
  case c6 => decide
  case c7 => decide
  case c8 => repeat' (first | exact ee_slT (k := 1) (ds := crossH.map tD) (ee_var rfl) ee_int (by decide) | exact ee_int | exact ea_nil | exact ee_var rfl | refine ee_tup ?_ ?_ | refine ea_cons ?_ ?_ | exact Nat.le_of_ble_eq_true rfl)
  case c9 => decide
  case c10 => decide
  case c11 => repeat' (first | exact ee_int | exact ea_nil | exact ee_var rfl | refine ee_tup ?_ ?_ | refine ea_cons ?_ ?_ | exact Nat.le_of_ble_eq_true rfl)
  case c12 => decide
  case c13 => decide
  case rest =>
    let R5 : List PyData := ((((rowsA.map rowD ++ rowsB.map rowD) ++ rowsC.map rowD) ++ rowsE.map rowD) ++ rowsG.map rowD)
    have eR : R5 ++ [rowD ⟨2, 4, twoH, 4, 2⟩] = rowsH.map rowD := by simp [R5, rowsH, rowsI]
    let RA : Addr → Env1 := fun a => [some (.d (pD squaresH)), some (.d (pD crossH)), some (.a a), some (.d (sD twoH)), none, none, none, none]
    refine sr_ownL2 (i := 2) (ds := R5) (es := R5 ++ [rowD ⟨2, 4, twoH, 4, 2⟩]) (r1 := RA) (ρ2 := [some (.d (pD squaresH)), some (.d (pD crossH)), some (.d (.list (R5 ++ [rowD ⟨2, 4, twoH, 4, 2⟩]))), some (.d (sD twoH)), none, none, none, none]) (en_cat (ee_var rfl) (ee_lst (ds := rowsG.map rowD) ?d1 (by decide)) (by decide)) (fun a => ?d2) (fun a => ⟨rfl, rfl⟩) ?d3
    case d1 => repeat' (first | exact ee_int | exact ea_nil | exact ee_var rfl | refine ee_tup ?_ ?_ | refine ea_cons ?_ ?_ | exact Nat.le_of_ble_eq_true rfl)
    case d2 =>
      refine so_seq (so_sn (sn_asg (x := .d (sD twoH)) ?e1) (ok_lC List.mem_cons_self (ok_noC _))) fun r c ⟨e1, e2⟩ => ?e2
      case e1 => repeat' (first | exact ee_int | exact ea_nil | exact ee_var rfl | refine ee_tup ?_ ?_ | refine ea_cons ?_ ?_ | exact Nat.le_of_ble_eq_true rfl)
      case e2 =>
        subst e1 e2
        refine so_appendD (y := rowD ⟨2, 4, twoH, 4, 2⟩) rfl ?f1 (by decide)
        case f1 => repeat' (first | exact ee_int | exact ea_nil | exact ee_var rfl | refine ee_tup ?_ ?_ | refine ea_cons ?_ ?_ | exact Nat.le_of_ble_eq_true rfl)
    case d3 =>
      rw [eR]
      have hA := handA
      have hB := handB
      simp only [Bool.and_eq_true] at hA hB
      obtain ⟨⟨⟨a1, a2⟩, a3⟩, a4⟩ := hA
      obtain ⟨⟨⟨⟨⟨b1, b2⟩, b3⟩, b4⟩, b5⟩, b6⟩ := hB
      obtain ⟨c1, c2, c3⟩ := handC
      have t1 : topK 3 4 [crossH] = 0 := by rw [m_top (fld_of b1) (sys_of b2), c1]; rfl
      have t2 : topK 5 2 [[([0, 4], 1), ([4, 0], 1)]] = 1 := by rw [m_top (fld_of b3) (sys_of b4), c2]; rfl
      have t3 : topK 7 1 [[([0], 6), ([6], 1)]] = 1 := by rw [m_top (fld_of b5) (sys_of b6), c3]; rfl
      refine sr_seq (sn_pass (eb_is (eb_or (eb_not (eb_B (ee_cal (ea_cons (x := .d (fD 2 4)) ?g1 (ea_cons (x := .d (sD twoH)) ?g2 ea_nil)) ⟨2, 4, twoH, rfl, fld_of a1, sys_of a2, rfl⟩))) fun _ => eb_not (eb_B (ee_cal (ea_cons (x := .d (fD 3 3)) ?g3 (ea_cons (x := .d (sD [squaresH, [([1, 0, 0], 2)]])) ?g4 ea_nil)) ⟨3, 3, _, rfl, fld_of a3, sys_of a4, rfl⟩))) rfl)) ?g5
      case g1 => repeat' (first | exact ee_int | exact ea_nil | exact ee_var rfl | refine ee_tup ?_ ?_ | refine ea_cons ?_ ?_ | exact Nat.le_of_ble_eq_true rfl)
      case g2 => repeat' (first | exact ee_int | exact ea_nil | exact ee_var rfl | refine ee_tup ?_ ?_ | refine ea_cons ?_ ?_ | exact Nat.le_of_ble_eq_true rfl)
      case g3 => repeat' (first | exact ee_int | exact ea_nil | exact ee_var rfl | refine ee_tup ?_ ?_ | refine ea_cons ?_ ?_ | exact Nat.le_of_ble_eq_true rfl)
      case g4 => repeat' (first | exact ee_int | exact ea_nil | exact ee_var rfl | refine ee_tup ?_ ?_ | refine ea_cons ?_ ?_ | exact Nat.le_of_ble_eq_true rfl)
      case g5 =>
        refine sr_seq (sn_forM rowsH rowD (fun _ => [some (.d (pD squaresH)), some (.d (pD crossH)), some (.d (.list (rowsH.map rowD))), some (.d (sD twoH)), none, none, none, none]) (wi_seq (ee_var rfl) (sv_l _)) (.cons (.inr rfl) (.cons (.inr rfl) (.cons (.inr rfl) (.cons (.inr rfl) (.cons (.inl rfl) (.cons (.inl rfl) (.cons (.inl rfl) (.cons (.inl rfl) .nil)))))))) fun i r hr => ?h1) (sr_one (sr_ret (ee_is (ee_eqD (d := .list [.int 0, .int 1, .int 1]) (e := .list [.int 0, .int 1, .int 1]) (ee_lst (ea_cons (ee_cal (ea_cons (x := .d (fD 3 4)) ?k1 (ea_cons (x := .d (sD [crossH])) ?k2 ea_nil)) ⟨3, 4, _, rfl, fld_of b1, sys_of b2, by rw [t1]⟩) (ea_cons (ee_cal (ea_cons (x := .d (fD 5 2)) ?k3 (ea_cons (x := .d (sD [[([0, 4], 1), ([4, 0], 1)]])) (ee_ix (n := 1) (ee_ix (n := 10) (ee_var rfl) (sv_l _) ee_int rfl) (sv_t _) ee_int rfl) ea_nil)) ⟨5, 2, _, rfl, fld_of b3, sys_of b4, by rw [t2]⟩) (ea_cons (ee_cal (ea_cons (x := .d (fD 7 1)) ?k5 (ea_cons (x := .d (sD [[([0], 6), ([6], 1)]])) (ee_ix (n := 1) (ee_ix (n := 8) (ee_var rfl) (sv_l _) ee_int rfl) (sv_t _) ee_int rfl) ea_nil)) ⟨7, 1, _, rfl, fld_of b5, sys_of b6, by rw [t3]⟩) ea_nil))) (by decide)) (ee_lst ?k7 (by decide)) (by decide) (by decide)) (congrArg bv (by decide)))))
        case k1 => repeat' (first | exact ee_int | exact ea_nil | exact ee_var rfl | refine ee_tup ?_ ?_ | refine ea_cons ?_ ?_ | exact Nat.le_of_ble_eq_true rfl)
        case k2 => repeat' (first | exact ee_int | exact ea_nil | exact ee_var rfl | refine ee_tup ?_ ?_ | refine ea_cons ?_ ?_ | exact Nat.le_of_ble_eq_true rfl)
        case k3 => repeat' (first | exact ee_int | exact ea_nil | exact ee_var rfl | refine ee_tup ?_ ?_ | refine ea_cons ?_ ?_ | exact Nat.le_of_ble_eq_true rfl)
        case k5 => repeat' (first | exact ee_int | exact ea_nil | exact ee_var rfl | refine ee_tup ?_ ?_ | refine ea_cons ?_ ?_ | exact Nat.le_of_ble_eq_true rfl)
        case k7 => repeat' (first | exact ee_int | exact ea_nil | exact ee_var rfl | refine ee_tup ?_ ?_ | refine ea_cons ?_ ?_ | exact Nat.le_of_ble_eq_true rfl)
        case h1 =>
          have ok := fA [] r (List.mem_of_getElem? hr)
          unfold rowOk at ok
          simp only [decide_eq_true_eq, Bool.and_eq_true] at ok
          obtain ⟨⟨⟨o1, o2⟩, o3⟩, o4⟩ := ok
          have hF := fld_of o1
          have hS := sys_of o2
          have hz := m_zeros hF hS
          have hl := lz_few (qs := r.qs) hF
          have hp := promK_le ((r.n : Int) - (degsK r.qs).sum) (maxL (degsK r.qs))
          have sh : ShowOk (.list [.int r.many, .int r.least]) := sh_ints (l := [r.many, r.least]) (fun e he => by
            simp only [List.mem_cons, List.not_mem_nil, or_false] at he
            rcases he with rfl | rfl <;> omega) (by simp)
          refine ⟨_, _, _, ge_four, sn_one (sn_pass (eb_is (eb_test (ee_neS (ee_repr (ds := [.int r.many, .int r.least]) (ee_lst (ea_cons (ee_cal (ea_cons (ee_var rfl) (ea_cons (ee_var rfl) ea_nil)) ⟨r.p, r.n, r.qs, rfl, hF, hS, by rw [hz, o3]⟩) (ea_cons (ee_cal (ea_cons (ee_var rfl) (ea_cons (ee_var rfl) ea_nil)) ⟨r.p, r.n, r.qs, rfl, hF, hS, by rw [o4]⟩) ea_nil)) (by simp)) sh) (ee_repr (ds := [.int r.many, .int r.least]) (ee_lst (ea_cons (ee_var rfl) (ea_cons (ee_var rfl) ea_nil)) (by simp)) sh))) (by simp))), (.cons (.inr rfl) (.cons (.inr rfl) (.cons (.inr rfl) (.cons (.inr rfl) (.cons (.inl rfl) (.cons (.inl rfl) (.cons (.inl rfl) (.cons (.inl rfl) .nil))))))))⟩
end
end Pz
namespace Pz
open PySem PySem.Spec PyProof.Rows L2 Evl StX
/-! ### what draws from the script: values that are not known, an object that changes -/
def EMB (as : List Addr) (tt : TT) (ρ : Env1) (C : CP) (P : Bool → CP → Prop) : Prop := ∀ (σ : L2.St) (H : Hp) (d : Hid), Vw d H → (∀ a ∈ as, d a = true) → C (hide H d) H → Envs (hide H d) σ ρ →
  ∀ Q : Bool → Hp → Prop, (∀ b C' H', P b C' → ExB as H H' → Vw d H' → C' (hide H' d) H' → Q b H') → tt σ H Q
def WiM (as : List Addr) (wi : TI) (ρ : Env1) (C : CP) (P : List PyData → CP → Prop) : Prop := ∀ (σ : L2.St) (H : Hp) (d : Hid), Vw d H → (∀ a ∈ as, d a = true) → C (hide H d) H → Envs (hide H d) σ ρ →
  ∀ R : It → Hp → Prop, (∀ ds C' J H', P ds C' → ExB as H H' → Vw d H' → C' (hide H' d) H' → Wk J H' d ds → R J H') → wi σ H R
def SRM (as : List Addr) (t : TS) (ρ : Env1) (C : CP) (P : EV → CP → Prop) : Prop := ∀ (D : Ends) (σ : L2.St) (H : Hp) (d : Hid), Vw d H → (∀ a ∈ as, d a = true) → C (hide H d) H → Envs (hide H d) σ ρ →
  (∀ x C' v H', P x C' → ExB as H H' → Vw d H' → C' (hide H' d) H' → Dv (hide H' d) v x → D.rt v H') → t D σ H
section
variable {K : PySem.W.Frag} {as : List Addr} {ρ ρ1 ρ2 : Env1} {C C1 C2 : CP} {P P1 P2 : Env1 → CP → Prop} {PV PW : EV → CP → Prop} {ta tb te td tk tv ty : TE} {tt : TT} {t u : TS} {x y : EV} {g : TG} {wi : TI}
theorem em_weak (h : EM as te ρ C PV) (k : ∀ x c, PV x c → PW x c) : EM as te ρ C PW := fun σ H d w o cc en Q q => h σ H d w o cc en Q fun x c v H' p => q x c v H' (k x c p)
theorem em_two {g : Int → Int → V} {gd : Int → Int → PyData} {A : Int → CP → Prop} {B : Int → Int → CP → Prop} (ha : EM as ta ρ C (fun x c => ∃ i, x = iv i ∧ A i c)) (hb : ∀ i c, A i c → EM as tb ρ c (fun y c' => ∃ j, y = iv j ∧ B i j c'))
    (hd : ∀ i j H, Dh H (g i j) (gd i j)) (k : ∀ i j c, B i j c → PV (.d (gd i j)) c) : EM as (tOp (rI0 g) ta tb) ρ C PV := fun σ H d w o cc en Q q =>
  ha σ H d w o cc en _ fun x c v H1 ⟨i, e1, p1⟩ e w1 c1 d1 => hb i c p1 σ H1 d w1 o c1 (en.mono (e.hide o)) _ fun y c' v2 H2 ⟨j, e2, p2⟩ e' w2 c2 d2 => by
    subst e1 e2
    cases d1
    cases d2
    exact ⟨i, j, rfl, rfl, q _ c' _ H2 (k i j c' p2) (e.trans e') w2 c2 (hd i j _)⟩
theorem emb_test {A : Bool → CP → Prop} (h : EM as te ρ C (fun x c => ∃ b, x = bv b ∧ A b c)) : EMB as (tTest te) ρ C A := fun σ H d w o cc en Q q => h σ H d w o cc en _ fun x c v H1 ⟨b, e1, p⟩ e w1 c1 d1 => by
  subst e1
  cases d1
  exact ⟨b, rfl, q b c H1 p e w1 c1⟩
theorem emb_eq {A : Int → CP → Prop} {k : Int} (ha : EM as ta ρ C (fun x c => ∃ i, x = iv i ∧ A i c)) (hc : ∀ i c, A i c → CPok as c) (hb : EvE tb ρ (iv k)) : EMB as (tTest (tOp rEq ta tb)) ρ C (fun b c => ∃ i, b = decide (i = k) ∧ A i c) := fun σ H d w o cc en Q q =>
  ha σ H d w o cc en _ fun x c v H1 ⟨i, e1, p1⟩ e w1 c1 d1 => hb σ H1 d w1 (en.mono (e.hide o)) _ fun v2 H2 e' d2 => by
    subst e1
    cases d1
    cases d2
    refine ⟨rfl, _, rfl, q _ c H2 ⟨i, ?_, p1⟩ (e.trans (.of e')) (w1.mono e') (hc i c p1 _ _ _ _ c1 (exh e') fun a _ ob z => e' a ob z)⟩
    by_cases h : i = k <;> simp [h]
theorem em_if {PB : Bool → CP → Prop} (ht : EMB as tt ρ C PB) (k1 : ∀ c, PB true c → EM as ta ρ c PV) (k2 : ∀ c, PB false c → EM as tb ρ c PV) : EM as (tIf tt ta tb) ρ C PV := fun σ H d w o cc en Q q => ht σ H d w o cc en _ fun b c H1 p e w1 c1 => by
  cases b with
  | true => exact k1 c p σ H1 d w1 o c1 (en.mono (e.hide o)) _ fun x c' v H2 p2 e2 => q x c' v H2 p2 (e.trans e2)
  | false => exact k2 c p σ H1 d w1 o c1 (en.mono (e.hide o)) _ fun x c' v H2 p2 e2 => q x c' v H2 p2 (e.trans e2)
theorem so_if {PB : Bool → CP → Prop} (ht : EMB as tt ρ C PB) (k1 : ∀ c, PB true c → SO as t ρ c P) (k2 : ∀ c, PB false c → SO as u ρ c P) : SO as (tIfS tt t u) ρ C P := fun D σ H d w o cc en q => ht σ H d w o cc en _ fun b c H1 p e w1 c1 => by
  cases b with
  | true => exact k1 c p D σ H1 d w1 o c1 (en.mono (e.hide o)) fun r c' σ' H2 p2 e2 => q r c' σ' H2 p2 (e.trans e2)
  | false => exact k2 c p D σ H1 d w1 o c1 (en.mono (e.hide o)) fun r c' σ' H2 p2 e2 => q r c' σ' H2 p2 (e.trans e2)
theorem em_tupOf (h : EM as te ρ C PV) (k : ∀ x c, PV x c → CPok as c ∧ ∃ ds, x = .d (.list ds) ∧ PW (.d (.tuple ds)) c) : EM as (tCB (rTupOf K) (tCons te tNil)) ρ C PW := fun σ H d w o cc en Q q => h σ H d w o cc en _ fun x c v H1 p e w1 c1 d1 => by
  obtain ⟨ck, ds, rfl, p2⟩ := k x c p
  have d' : Dh (hide H1 d) v (.list ds) := d1
  cases d' with
  | @lst a xs _ hp t =>
    refine ⟨_, _, rfl, .inl ⟨.inl (.inl (hide_some hp)), fun l hl => ?_⟩⟩
    have e2 : Ex H1 (upd H1 l (.tup xs)) := Ex.new hl
    exact q _ c _ _ p2 (e.trans (.of e2)) (w1.mono e2) (ck _ _ _ _ c1 (exh e2) fun a _ ob z => e2 a ob z) (.tup (new_tup w1 hl) (t.mono (ex_new hl)))
theorem em_ee' (h : EvE te ρ x) (c : CPok as C) (k : PV x C) : EM as te ρ C PV := em_weak (em_ee h c) fun y c' ⟨e1, e2⟩ => by subst e1 e2; exact k
/-- f(m, ..) of pure arguments: see em_cal below; here what is walked -/
theorem wim_of {ds : List PyData} (h : WiE wi ρ ds) (c : CPok as C) : WiM as wi ρ C (fun e c => e = ds ∧ c = C) := fun σ H d w o cc en R k => h σ H d w en R fun J H1 e wk => k ds C J H1 ⟨rfl, rfl⟩ (.of e) (w.mono e) (c _ _ _ _ cc (exh e) fun a _ ob z => e a ob z) wk
theorem wim_rng {A : Int → CP → Prop} (h : EM as te ρ C (fun x c => ∃ i, x = iv i ∧ A i c)) (hi : ∀ i c, A i c → -1000000 ≤ i ∧ i ≤ 1000000) : WiM as (iRng1 (tCons te tNil)) ρ C (fun e c => ∃ i, e = rngD 0 i.toNat ∧ A i c) := fun σ H d w o cc en R k =>
  h σ H d w o cc en _ fun x c v H1 ⟨i, e1, p⟩ e w1 c1 d1 => by
    subst e1
    cases d1
    have b := hi i c p
    exact ⟨i, rfl, by omega, by omega, k _ c _ H1 ⟨i, rfl, p⟩ e w1 c1 wk_rng⟩
theorem so_forW {PD : List PyData → CP → Prop} (hw : WiM as wi ρ C PD) (inv : Nat → Env1 → CP → Prop) (ch : ∀ ds c, PD ds c → inv 0 ρ c ∧ (∀ i d r c, ds[i]? = some d → inv i r c → CPok as c ∧ ∃ js ρ1, GE g js r (.d d) ρ1 ∧ SO as t ρ1 c (inv (i + 1))) ∧ ∀ r c, inv ds.length r c → P r c) :
    SO as (tFor wi g t) ρ C P := fun D σ H d w o cc en q => hw σ H d w o cc en _ fun ds c0 J H1 pd e w1 c1 wk => by
  obtain ⟨h0, hs, hP⟩ := ch ds c0 pd
  exact for_it wk (fun i σ' H' => ∃ r c, inv i r c ∧ ExB as H1 H' ∧ Vw d H' ∧ c (hide H' d) H' ∧ Envs (hide H' d) σ' r) ⟨ρ, c0, h0, .refl _ _, w1, c1, en.mono (e.hide o)⟩
    (fun i σ' H' _ ⟨r, c, p, e2, w2, _⟩ => ⟨d, w2, e2.hide o⟩)
    (fun i x σ' H2 H3 hi ⟨r, c, p, e2, w2, cc2, en2⟩ y => by
      obtain ⟨e3, dt, hdi, dd⟩ := y
      obtain ⟨ck, js, ρ1, h1, h2⟩ := hs i dt r c hdi p
      refine h1 x σ' H3 d _ (en2.mono (exh e3)) (dd d w2 (e2.hide o)) fun σ2 en3 _ => h2 _ σ2 H3 d (w2.mono e3) o (ck _ _ _ _ cc2 (exh e3) fun a _ ob z => e3 a ob z) en3 fun r2 c2 σ3 H4 p2 e4 w4 cc4 en4 => ⟨r2, c2, p2, (e2.trans (.of e3)).trans e4, w4, cc4, en4⟩)
    fun σ' H' ⟨r, c, p, e2, w2, cc2, en2⟩ => q r c σ' H' (hP r c p) (e.trans e2) w2 cc2 en2
/-- [te for g in wi], te may draw -/
theorem em_lc {vs : List Nat} {PD : List PyData → CP → Prop} (hw : WiM as wi ρ C PD) (inv : Nat → List PyData → CP → Prop) (hok : ∀ i acc c, inv i acc c → CPok as c) (ch : ∀ ds c, PD ds c → ds.length ≤ 50000 ∧ inv 0 [] c ∧
      (∀ i d acc c, ds[i]? = some d → inv i acc c → ∃ js ρ1, GE g js (wipeR ρ vs) (.d d) ρ1 ∧ (∀ j ∈ js, j ∈ vs) ∧ EM as te ρ1 c (fun x c2 => ∃ y, x = .d y ∧ inv (i + 1) (acc ++ [y]) c2)) ∧ ∀ acc c, inv ds.length acc c → PV (.d (.list acc)) c) :
    EM as (tLc wi g tYes te vs) ρ C PV := fun σ H hd w o cc en Q q => hw σ H hd w o cc en _ fun ds c0 J H1 pd e w1 c1 wk => fun Dl hD => by
  obtain ⟨hz, h0, hs, hP⟩ := ch ds c0 pd
  have en1 : Envs (hide H1 hd) (wipe σ vs) (wipeR ρ vs) := (en.mono (e.hide o)).wipe vs
  have o1 : ∀ a ∈ as, hid1 hd Dl a = true := fun a ha => by unfold hid1; rw [o a ha]; rfl
  unfold Wk at wk
  have e0 : Ex H1 (upd H1 Dl (.lst [])) := Ex.new hD
  have nD : ∀ a ∈ as, a ≠ Dl := fun a ha z => by
    subst z
    obtain ⟨ob, z1, _⟩ := w1 a (o a ha)
    rw [hD] at z1
    cases z1
  refine lc_it wk (fun i H' => ∃ acc ds' c, inv i ds' c ∧ ds'.length ≤ i ∧ Ex (hide H1 hd) (hide H' (hid1 hd Dl)) ∧ Vw (hid1 hd Dl) H' ∧ ExB (Dl :: as) H1 H' ∧ c (hide H' (hid1 hd Dl)) H' ∧ H' Dl = some (.lst acc) ∧ DhA (hide H' (hid1 hd Dl)) acc ds')
    ⟨[], [], c0, h0, Nat.le_refl _, hide1_new hD e0, (w1.mono e0).one upd_same nofun, .of e0, hok 0 [] c0 h0 _ _ _ _ c1 (hide1_new hD e0) (fun a _ ob z => e0 a ob z), upd_same, .nil⟩ (fun i H' _ p => ?_) (fun i x H2 H3 hi p y => ?_) fun H' p => ?_
  · obtain ⟨acc, ds', c, _, _, s, wv, _⟩ := p
    exact ⟨hid1 hd Dl, wv, s⟩
  · obtain ⟨acc, ds', c, pi, hl, s2, w2, x2, cc2, ha, hacc⟩ := p
    obtain ⟨e3, d, hdi, dd⟩ := y
    obtain ⟨js, ρ1, g1, g2, g3⟩ := hs i d ds' c hdi pi
    have s3 := s2.trans (exh e3)
    refine g1 x _ H3 (hid1 hd Dl) _ (en1.mono s3) (dd _ w2 s2) fun σ2 en2 hwp => ⟨?_, ?_⟩
    · rw [hwp vs g2, wipe_wipe]
    · show te σ2 H3 _
      refine g3 σ2 H3 _ (w2.mono e3) o1 (hok _ _ _ pi _ _ _ _ cc2 (exh e3) fun a _ ob z => e3 a ob z) en2 _ fun z c2 yv H5 ⟨yd, ez, pi2⟩ e5 w5 c5 d5 => ?_
      subst ez
      have hl5 : H5 Dl = some (.lst acc) := e5 _ _ (fun m => nD Dl m rfl) (e3 _ _ ha)
      refine ⟨acc, hl5, ?_, acc ++ [yv], ds' ++ [yd], c2, pi2, by simp; omega, ?_, ?_, ?_, ?_, upd_same, ?_⟩
      · rw [hacc.len]
        exact Nat.lt_of_le_of_lt (Nat.le_trans hl (Nat.le_of_lt (Nat.lt_of_lt_of_le hi hz))) (by decide)
      · rw [hide1_upd]
        exact s3.trans (e5.hide o1)
      · exact vw_own w5 nofun
      · refine ((x2.trans (.of e3)).trans fun b ob n z => e5 b ob (fun m => n (List.mem_cons_of_mem _ m)) z).trans (exB_upd List.mem_cons_self)
      · rw [hide1_upd]
        refine hok _ _ _ pi2 _ _ _ _ c5 (Ex.refl _) fun a m ob z => ?_
        rw [upd_ne (nD a m)]
        exact z
      · rw [hide1_upd]
        exact (hacc.mono (Sx.of ((exh e3).trans (e5.hide o1)))).app (.cons d5 .nil)
  · obtain ⟨acc, ds', c, pi, hl, s2, w2, x2, cc2, ha, hacc⟩ := p
    have e2 : ExB as H1 H' := fun b ob n z => x2 b ob (fun m => by
      rcases List.mem_cons.mp m with rfl | m
      · rw [hD] at z; cases z
      · exact n m) z
    have wv : Vw hd H' := fun b hb => w2 b (by unfold hid1; rw [hb]; rfl)
    exact q _ c _ H' (hP _ _ pi) (e.trans e2) wv (hok _ _ _ pi _ _ _ _ cc2 hide1_le fun a _ ob z => z) (.lst (hide_of ha (w1.fresh hD)) (hacc.mono (Sx.of hide1_le)))
theorem srm_seq (h : SO as t ρ C P) {PE : EV → CP → Prop} (k : ∀ r c, P r c → SRM as u r c PE) : SRM as (tSeq t u) ρ C PE := fun D σ H d w o cc en q => h _ σ H d w o cc en fun r c σ' H' p e w' cc' en' => k r c p D σ' H' d w' o cc' en' fun x c' v H2 p2 e2 => q x c' v H2 p2 (e.trans e2)
theorem srm_ret (h : EM as te ρ C PV) : SRM as (tRet te) ρ C PV := fun D σ H d w o cc en q => h σ H d w o cc en _ q
theorem srm_one {PE : EV → CP → Prop} (h : SRM as t ρ C PE) : SRM as (tSeq t u) ρ C PE := fun D σ H d w o cc en q => h _ σ H d w o cc en q
theorem srm_is (h : SRM as t ρ C PV) (k : ∀ x c, PV x c → PW x c) : SRM as t ρ C PW := fun D σ H d w o cc en q => h D σ H d w o cc en fun x c v H' p => q x c v H' (k x c p)
theorem srm_if {PB : Bool → CP → Prop} (ht : EMB as tt ρ C PB) (k1 : ∀ c, PB true c → SRM as t ρ c PV) (k2 : ∀ c, PB false c → SRM as u ρ c PV) : SRM as (tSeq (tIfS tt t tNext) u) ρ C PV := fun D σ H d w o cc en q => ht σ H d w o cc en _ fun b c H1 p e w1 c1 => by
  cases b with
  | true => exact k1 c p _ σ H1 d w1 o c1 (en.mono (e.hide o)) fun x c' v H2 p2 e2 => q x c' v H2 p2 (e.trans e2)
  | false => exact k2 c p D σ H1 d w1 o c1 (en.mono (e.hide o)) fun x c' v H2 p2 e2 => q x c' v H2 p2 (e.trans e2)
end
end Pz
namespace Pz
open PySem PySem.Spec PyProof.Rows L2 Evl StX
/-! ### the dict that draws -/
abbrev kS (x : Str) : Key := Sum.inr x
def mK (left seed : Int) (c : Addr) (spot : Int) : List (Key × V) := [(kS "left", .int left), (kS "seed", .int seed), (kS "cells", .ref c), (kS "spot", .int spot)]
theorem n_ls : ¬ (kS "left" = kS "seed") := by decide +kernel
theorem n_lc : ¬ (kS "left" = kS "cells") := by decide +kernel
theorem n_lp : ¬ (kS "left" = kS "spot") := by decide +kernel
theorem n_sc : ¬ (kS "seed" = kS "cells") := by decide +kernel
theorem n_sp : ¬ (kS "seed" = kS "spot") := by decide +kernel
theorem n_cp : ¬ (kS "cells" = kS "spot") := by decide +kernel
section
variable {left seed spot x : Int} {c a : Addr} {H : Hp}
theorem v_left : valV (mK left seed c spot) (kS "left") = some (.int left) := by
  unfold valV mK
  rw [List.find?_cons_of_pos (by simp)]
  rfl
theorem v_seed : valV (mK left seed c spot) (kS "seed") = some (.int seed) := by
  unfold valV mK
  rw [List.find?_cons_of_neg (by simpa using n_ls), List.find?_cons_of_pos (by simp)]
  rfl
theorem v_cells : valV (mK left seed c spot) (kS "cells") = some (.ref c) := by
  unfold valV mK
  rw [List.find?_cons_of_neg (by simpa using n_lc), List.find?_cons_of_neg (by simpa using n_sc), List.find?_cons_of_pos (by simp)]
  rfl
theorem v_spot : valV (mK left seed c spot) (kS "spot") = some (.int spot) := by
  unfold valV mK
  rw [List.find?_cons_of_neg (by simpa using n_lp), List.find?_cons_of_neg (by simpa using n_sp), List.find?_cons_of_neg (by simpa using n_cp), List.find?_cons_of_pos (by simp)]
  rfl
theorem p_left : putK (mK left seed c spot) (kS "left") (.int x) = mK x seed c spot := by
  unfold putK mK
  rw [if_pos (by simp)]
  simp only [List.map_cons, List.map_nil]
  rw [if_pos trivial, if_neg (Ne.symm n_ls), if_neg (Ne.symm n_lc), if_neg (Ne.symm n_lp)]
theorem p_spot : putK (mK left seed c spot) (kS "spot") (.int x) = mK left seed c x := by
  unfold putK mK
  rw [if_pos (by simp)]
  simp only [List.map_cons, List.map_nil]
  rw [if_neg n_lp, if_neg n_sp, if_neg n_cp, if_pos trivial]
theorem g_left (h : H a = some (.dK (mK left seed c spot))) : DGet H a (.str "left") (some (.int left)) := v_left (seed := seed) (c := c) (spot := spot) ▸ DGet.k (k := kS "left") h
theorem g_seed (h : H a = some (.dK (mK left seed c spot))) : DGet H a (.str "seed") (some (.int seed)) := v_seed (left := left) (c := c) (spot := spot) ▸ DGet.k (k := kS "seed") h
theorem g_cells (h : H a = some (.dK (mK left seed c spot))) : DGet H a (.str "cells") (some (.ref c)) := v_cells (left := left) (seed := seed) (spot := spot) ▸ DGet.k (k := kS "cells") h
theorem g_spot (h : H a = some (.dK (mK left seed c spot))) : DGet H a (.str "spot") (some (.int spot)) := v_spot (left := left) (seed := seed) (c := c) ▸ DGet.k (k := kS "spot") h
theorem s_left (h : H a = some (.dK (mK left seed c spot))) : DPut H a (.str "left") (.int x) (upd H a (.dK (mK x seed c spot))) := p_left (left := left) ▸ DPut.k (k := kS "left") h (by show 4 < sizeLine; decide)
theorem s_spot (h : H a = some (.dK (mK left seed c spot))) : DPut H a (.str "spot") (.int x) (upd H a (.dK (mK left seed c x))) := p_spot (spot := spot) ▸ DPut.k (k := kS "spot") h (by show 4 < sizeLine; decide)
end
/-- the dict m at a, drawn from at most s times -/
def MOk (a : Addr) (s : Nat) : CP := fun G H => ∃ left seed spot c, ∃ ns : List Int, H a = some (.dK (mK left seed c spot)) ∧ 0 ≤ left ∧ (0 ≤ seed ∧ seed < 2147483647) ∧ (0 ≤ spot ∧ spot ≤ (s : Int)) ∧ G c = some (.lst (ns.map V.int)) ∧ ns ≠ []
theorem ok_MOk {as : List Addr} {a : Addr} (ha : a ∈ as) (s : Nat) : CPok as (MOk a s) := fun G G' H H' ⟨l, e, t, c, ns, h1, h2, h3, h4, h5, h6⟩ ex k => ⟨l, e, t, c, ns, k a ha _ h1, h2, h3, h4, ex _ _ h5, h6⟩
theorem MOk.le {a : Addr} {s s' : Nat} (h : s ≤ s') {G H : Hp} (m : MOk a s G H) : MOk a s' G H := by
  obtain ⟨l, e, t, c, ns, h1, h2, h3, h4, h5, h6⟩ := m
  exact ⟨l, e, t, c, ns, h1, h2, h3, ⟨h4.1, by omega⟩, h5, h6⟩
/-- a def of m and data: at most k draws -/
def spM (R : List EV → (EV → Prop) → Nat → Prop) : SpF := fun vs H Q => ∃ a d us xs s P k, vs = .ref a :: us ∧ Vw d H ∧ d a = true ∧ MOk a s (hide H d) H ∧ s + k ≤ 1000000 ∧ DvA (hide H d) us xs ∧ R xs P k ∧
  ∀ v x H', P x → ExB [a] H H' → Vw d H' → MOk a (s + k) (hide H' d) H' → Dv (hide H' d) v x → Q v H'
section
variable {w : World} {P : Program} {mg : Str → Option Value} {K : PySem.W.Frag} {base : Heap}
abbrev s_draw : Stmt := topP 45
theorem sc_draw : FnScope ["m", "many", "found", "spot", "cells", "extra", "cell", "blend"] ["m", "many"] (defScope s_draw) := ⟨rfl, rfl, rfl, by decide +kernel, rfl, by decide +kernel, by decide +kernel⟩
def R_draw : List EV → (EV → Prop) → Nat → Prop := fun xs P k => ∃ many : Int, xs = [iv many] ∧ 1 ≤ many ∧ many ≤ 100000 ∧ P = (fun x => ∃ n : Int, x = iv n ∧ 0 ≤ n ∧ n < many) ∧ k = 1
theorem atI_mod {ns : List Int} {i : Int} (h : ns ≠ []) (hi : 0 ≤ i) : ∃ z, atI (ns.map V.int) (i % ((ns.map V.int).length : Int)) = some (.int z) := by
  have hl : 0 < ns.length := List.length_pos_iff.mpr h
  rw [List.length_map]
  have h0 := Int.emod_nonneg i (b := (ns.length : Int)) (by omega)
  have h1 := Int.emod_lt_of_pos i (b := (ns.length : Int)) (by omega)
  obtain ⟨n, hn⟩ : ∃ n : Nat, i % (ns.length : Int) = (n : Int) := ⟨(i % (ns.length : Int)).toNat, by omega⟩
  rw [hn]
  have lt : n < ns.length := by omega
  exact ⟨ns[n], atI_nat (by rw [List.getElem?_map, List.getElem?_eq_getElem lt]; rfl)⟩
theorem ok_draw (T : Txt K mg) (D : DefAt K mg "_law_draw" s_draw ["m", "many"]) : Ok P w K mg base "_law_draw" 1 (spM R_draw) := by
  refine ok_of D sc_draw (fun vs H Q h => ?_) fun f cd A out s H vs Q hG hr h => ?_
  · obtain ⟨a, d, us, xs, s, Pp, k, rfl, _, _, _, _, dv, ⟨many, rfl, _⟩, _⟩ := h
    obtain ⟨v, rfl, _⟩ := dv1 dv
    rfl
  have hu := hu_of hr
  refine ⟨_, pss_cons (ps_if (pt_cmpR op_gt (pe_dget hu (pv 0) (pe_str) (fun _ _ => rfl)) (pe_int) (nomark _)) (pss_cons (ps_set (i := 2) sc_draw.nd rfl (Or.inl rfl) (pe_op op_mod (pe_callTy call_int1 (by rfl) T.m_int boot_int (pa_cons (pe_dget hu (pv 0) (pe_str) (fun _ _ => rfl)) pa_nil)) (pv 1))) (pss_cons (ps_dput hu (pv 0) (pe_str) (pe_op op_fdiv (pe_dget hu (pv 0) (pe_str) (fun _ _ => rfl)) (pv 1)) rfl) (pss_one (ps_ret (pv 2))))) (pss_nil)) (pss_cons (ps_set (i := 3) sc_draw.nd rfl (Or.inl rfl) (pe_dget hu (pv 0) (pe_str) (fun _ _ => rfl))) (pss_cons (ps_dput hu (pv 0) (pe_str) (pe_op op_add (pv 3) (pe_int)) rfl) (pss_cons (ps_par (i := 4) (j := 5) rfl sc_draw.nd rfl rfl (by decide) rfl rfl (pa_cons (pe_dget hu (pv 0) (pe_str) (fun _ _ => rfl)) (pa_cons (pe_op op_add (pe_dget hu (pv 0) (pe_str) (fun _ _ => rfl)) (pe_op op_mul (pe_op op_mul (pe_int) (pv 3)) (pv 3))) pa_nil)) rfl) (pss_cons (ps_set (i := 6) sc_draw.nd rfl (Or.inl rfl) (pe_ix (ix_seqK (K := K) rfl) (pv 4) (pe_op op_mod (pe_callTy call_int1 (by rfl) T.m_int boot_int (pa_cons (pv 3) pa_nil)) (pe_callB (cr_lenK (K := K) rfl) (by rfl) T.m_len boot_len (pa_cons (pv 4) pa_nil))) (fun _ _ => rfl))) (pss_cons (ps_set (i := 7) sc_draw.nd rfl (Or.inl rfl) (pe_op op_mod (pe_callTy call_int1 (by rfl) T.m_int boot_int (pa_cons (pe_op op_add (pe_op op_mul (pv 6) (pe_op op_add (pe_op op_mul (pe_int) (pv 3)) (pe_int))) (pv 5)) pa_nil)) (pe_int))) (pss_cons (ps_set (i := 7) sc_draw.nd rfl (Or.inl rfl) (pe_op op_mod (pe_callTy call_int1 (by rfl) T.m_int boot_int (pa_cons (pe_op op_add (pe_op op_add (pe_op op_mul (pv 7) (pv 7)) (pe_op op_mul (pe_int) (pv 3))) (pe_dget hu (pv 0) (pe_str) (fun _ _ => rfl))) pa_nil)) (pe_int))) (pss_one (ps_ret (pe_op op_mod (pe_op op_fdiv (pe_op op_mod (pe_callTy call_int1 (by rfl) T.m_int boot_int (pa_cons (pe_op op_add (pe_op op_mul (pv 7) (pe_int)) (pv 3)) pa_nil)) (pe_int)) (pe_int)) (pv 1)))))))))), ?_⟩
  obtain ⟨a, d, us, xs, s, Pp, k, rfl, w, da, ⟨left, seed, spot, c, ns, ha, hl0, ⟨hs0, hs1⟩, ⟨ht0, ht1⟩, hc, hns⟩, hs, dv, ⟨many, rfl, hm1, hm2, rfl, rfl⟩, q⟩ := h
  obtain ⟨v, rfl, dvv⟩ := dv1 dv
  cases dvv
  have hc' := hide_some hc
  have nca : c ≠ a := by
    rintro rfl
    rw [hide_not hc] at da
    cases da
  have fin : ∀ (n left' spot' : Int), 0 ≤ n → n < many → 0 ≤ left' → 0 ≤ spot' → spot' ≤ (s : Int) + 1 → Q (.int n) (upd H a (.dK (mK left' seed c spot'))) := fun n l t h1 h2 h3 h4 h5 =>
    q (.int n) (iv n) _ ⟨n, rfl, h1, h2⟩ (exB_upd (by simp)) (vw_own w nofun) (by rw [hide_own da]; exact ⟨l, seed, t, c, ns, upd_same, h3, ⟨hs0, hs1⟩, ⟨h4, by omega⟩, hc, hns⟩) (.int n)
  refine ⟨_, rfl, a, _, rfl, g_left ha, _, _, rfl, rfl, _, rfl, ?_⟩
  refine ite2 (fun hl => ?_) (fun hl => ?_)
  · have hl := of_decide_eq_true hl
    refine ⟨_, rfl, a, _, rfl, g_left ha, .inl ⟨_, rfl, _, rfl, _, _, rfl, rfl, (by omega : 0 < many), ?_⟩⟩
    refine ⟨_, rfl, a, _, rfl, g_left ha, _, rfl, _, _, rfl, rfl, ⟨(by omega : 0 < many), (by omega : many < 1073741824)⟩, _, rfl, a, _, rfl, s_left ha, ?_⟩
    exact ⟨_, rfl, fin _ _ _ (Int.emod_nonneg _ (by omega)) (Int.emod_lt_of_pos _ (by omega)) (Int.ediv_nonneg hl0 (by omega)) ht0 (by omega)⟩
  · have hl : ¬ 0 < left := fun z => hl (decide_eq_true z)
    refine ⟨_, rfl, a, _, rfl, g_spot ha, ?_⟩
    refine ⟨_, rfl, _, _, rfl, rfl, _, rfl, a, _, rfl, s_spot ha, ?_⟩
    have ha1 : upd H a (.dK (mK left seed c (spot + 1))) a = some (.dK (mK left seed c (spot + 1))) := upd_same
    have hc1 : upd H a (.dK (mK left seed c (spot + 1))) c = some (.lst (ns.map V.int)) := by rw [upd_ne nca]; exact hc'
    refine ⟨_, rfl, a, _, rfl, g_cells ha1, _, rfl, a, _, rfl, g_seed ha1, _, rfl, _, _, rfl, rfl, .inl ⟨by omega, by omega⟩, _, rfl, _, _, rfl, rfl, .inr ⟨by omega, by omega⟩, _, _, rfl, rfl, _, _, rfl, ?_⟩
    obtain ⟨z, hz⟩ := atI_mod hns ht0
    have hlp : (0 : Int) < ((ns.map V.int).length : Int) := by
      have := List.length_pos_iff.mpr hns
      rw [List.length_map]
      omega
    refine ⟨_, rfl, _, rfl, .inl ⟨_, rfl, _, rfl, c, _, rfl, .inl (.inl (.inl hc1)), _, _, rfl, rfl, hlp, .inl ⟨c, _, _, _, rfl, rfl, .inl (.inl hc1), hz, ?_⟩⟩⟩
    refine ⟨_, rfl, _, rfl, _, _, rfl, rfl, .inl ⟨by omega, by omega⟩, _, _, rfl, rfl, _, _, rfl, rfl, .inr ⟨by omega, by omega⟩, _, rfl, _, _, rfl, rfl, .inl ⟨_, rfl, _, _, rfl, rfl, (by decide : (0 : Int) < 2147483647), ?_⟩⟩
    generalize hb : (z * (2 * spot + 3) + (seed + 40503 * spot * spot)) % 2147483647 = b1
    have b10 : 0 ≤ b1 := by rw [← hb]; exact Int.emod_nonneg _ (by decide)
    have b11 : b1 < 2147483647 := by rw [← hb]; exact Int.emod_lt_of_pos _ (by decide)
    refine ⟨_, rfl, _, rfl, _, _, rfl, rfl, .inl ⟨by omega, by omega⟩, _, rfl, _, _, rfl, rfl, .inl ⟨by omega, by omega⟩, _, _, rfl, rfl, _, rfl, a, _, rfl, g_seed ha1, _, _, rfl, rfl, .inl ⟨_, rfl, _, _, rfl, rfl, (by decide : (0 : Int) < 2147483629), ?_⟩⟩
    exact ⟨_, rfl, _, _, rfl, rfl, .inr ⟨by omega, by omega⟩, _, rfl, _, _, rfl, rfl, .inl ⟨_, rfl, _, _, rfl, rfl, (by decide : (0 : Int) < 2147483647), _, _, rfl, rfl, ⟨by decide, by decide⟩, _, rfl, _, _, rfl, rfl, (by omega : 0 < many), fin _ _ _ (Int.emod_nonneg _ (by omega)) (Int.emod_lt_of_pos _ (by omega)) hl0 (by omega) (by omega)⟩⟩
end
end Pz
namespace Pz
open PySem PySem.Spec PyProof.Rows L2 Evl StX
def MC (X : CP) (a : Addr) (s : Nat) : CP := fun G H => X G H ∧ MOk a s G H
theorem ok_MC {as bs : List Addr} {X : CP} {a : Addr} {s : Nat} (ha : a ∈ as) (hX : CPok bs X) (sub : ∀ b ∈ bs, b ∈ as) : CPok as (MC X a s) := fun G G' H H' ⟨x, m⟩ e k => ⟨hX _ _ _ _ x e fun b hb => k b (sub b hb), ok_MOk ha s _ _ _ _ m e k⟩
theorem ok_M1 (a : Addr) (s : Nat) : CPok [a] (MC noC a s) := ok_MC (bs := []) (by simp) (ok_noC _) (by simp)
/-- at most s draws -/
def upTo (a : Addr) (X : CP) (s : Nat) (c : CP) : Prop := ∃ s', s' ≤ s ∧ c = MC X a s'
section
variable {K : PySem.W.Frag} {as : List Addr} {ρ ρ1 ρ2 : Env1} {ta tb te td tk tv ty : TE}
/-- f(m, ..) -/
theorem em_cal {R : List EV → (EV → Prop) → Nat → Prop} {i : Nat} {a : Addr} {s k : Nat} {P : EV → Prop} {ta : TA} {xs : List EV} {X : CP} {bs : List Addr} (hi : ρ[i]? = some (some (.a a))) (h : EvAs ta ρ xs) (r : R xs P k) (hs : s + k ≤ 1000000) (hX : CPok bs X) (nb : a ∉ bs) (ha : a ∈ as) (sub : ∀ b ∈ bs, b ∈ as) :
    EM as (tCal (spM R) (tCons (tVar i) ta)) ρ (MC X a s) (fun x c => P x ∧ c = MC X a (s + k)) := fun σ H d w o cc en Q q => by
  obtain ⟨va, hva, eva⟩ := en.get hi
  cases eva
  refine ⟨_, hva, h σ H d w en _ fun vs H1 e dv => ?_⟩
  have c1 := ok_MC (s := s) ha hX sub _ _ _ _ cc (exh (d := d) e) fun b _ ob z => e b ob z
  refine ⟨a, d, vs, xs, s, P, k, rfl, w.mono e, o a ha, c1.2, hs, dv, r, fun v x H2 p e2 w2 m2 d2 => q x _ v H2 ⟨p, rfl⟩ ((ExB.of e).trans fun b ob n z => e2 b ob (fun m => n (List.mem_singleton.mp m ▸ ha)) z) w2 ⟨hX _ _ _ _ c1.1 (ExB.hide e2 fun b hb => by rw [List.mem_singleton.mp hb]; exact o a ha) fun b hb ob z => e2 b ob (fun m => nb (List.mem_singleton.mp m ▸ hb)) z, m2⟩ d2⟩
end
section
variable {w : World} {P : Program} {mg : Str → Option Value} {K : PySem.W.Frag} {base : Heap}
theorem ok_srM {x : Str} {st : Stmt} {N ps : List Str} {k : Nat} {R : List EV → (EV → Prop) → Nat → Prop} (D : DefAt K mg x st ps) (Sc : FnScope N ps (defScope st)) (len : ∀ xs P k, R xs P k → xs.length + 1 = ps.length)
    (body : ∀ (f : Addr) (cd : Value) (A : Around) (out : List Env) (s : Shared) (H : Hp), A.guards = some [] → Room k (A.deeper (envOfC x (defScope st) s.heap.objs.size f cd)) →
      ∃ t, PSs (cxOf CX0 P w K mg base N x (defScope st) f cd A out s H E0).nox (defBody st) t ∧ ∀ a s xs Pp k, R xs Pp k → s + k ≤ 1000000 → SRM [a] t (startR N (.a a :: xs)) (MC noC a s) (fun x c => Pp x ∧ upTo a noC (s + k) c)) : Ok P w K mg base x (k + 1) (spM R) := by
  refine ok_of D Sc (fun vs H Q h => ?_) fun f cd A out s H vs Q hG hr h => ?_
  · obtain ⟨a, d, us, xs, s, Pp, k, rfl, _, _, _, _, dv, hR, _⟩ := h
    rw [List.length_cons, Paired.length dv]
    exact len xs Pp k hR
  · obtain ⟨a, d, us, xs, s0, Pp, k, rfl, w, da, hm, hs, dv, hR, q⟩ := h
    obtain ⟨t, pb, rd⟩ := body f cd A out s H hG hr
    have dv2 : DvA (hide H d) (.ref a :: us) (.a a :: xs) := .cons rfl dv
    refine ⟨t, pb, rd a s0 xs Pp k hR hs _ _ H d w (fun b hb => by rw [List.mem_singleton.mp hb]; exact da) ⟨trivial, hm⟩ (envs_start dv2) fun x c v H' ⟨p, s', hs', ec⟩ e w' cc' dvv => ?_⟩
    subst ec
    exact q v x H' p e w' (cc'.2.le hs') dvv
abbrev s_of : Stmt := topP 46
theorem sc_of : FnScope ["m", "some"] ["m", "some"] (defScope s_of) := ⟨rfl, rfl, rfl, by decide +kernel, rfl, by decide +kernel, by decide +kernel⟩
def R_of : List EV → (EV → Prop) → Nat → Prop := fun xs P k => ∃ ds : List PyData, xs = [.d (.list ds)] ∧ 1 ≤ ds.length ∧ ds.length ≤ 1000 ∧ P = (fun x => ∃ y ∈ ds, x = .d y) ∧ k = 1
theorem ok_of_ (T : Txt K mg) (D : DefAt K mg "_law_of" s_of ["m", "some"]) (O_draw : Ok P w K mg base "_law_draw" 1 (spM R_draw)) : Ok P w K mg base "_law_of" 2 (spM R_of) := by
  refine ok_srM D sc_of (fun xs Pp k h => by obtain ⟨ds, rfl, _⟩ := h; rfl) fun f cd A out s H hG hr => ?_
  refine ⟨_, pss_one (ps_ret (pe_ix (ix_seqK (K := K) rfl) (pv 1) (pe_ok O_draw hG (hr.mono (by decide)) (by rfl) (pa_cons (pv 0) (pa_cons (pe_callB (cr_lenK (K := K) rfl) (by rfl) T.m_len boot_len (pa_cons (pv 1) pa_nil)) pa_nil))) (fun _ _ => rfl))), ?_⟩
  rintro a s xs Pp k ⟨ds, rfl, h1, h2, rfl, rfl⟩ hs
  refine srm_one (srm_ret fun σ H d w o cc en Q q => ?_)
  obtain ⟨v, hv, dv⟩ := en.get (i := 1) (x := .d (.list ds)) rfl
  refine ⟨v, hv, em_cal (i := 0) (R := R_draw) (X := noC) (bs := []) rfl (ea_cons (ee_len (ee_var (i := 1) rfl) (sv_l ds)) ea_nil) ⟨_, rfl, by omega, by omega, rfl, rfl⟩ hs (ok_noC _) (by simp) (by simp) (by simp) σ H d w o cc en _ fun x c u H1 ⟨⟨n, e1, n0, n1⟩, e2⟩ e w1 c1 d1 => ?_⟩
  subst e1 e2
  cases d1
  obtain ⟨m, rfl⟩ : ∃ m : Nat, n = (m : Int) := ⟨n.toNat, by omega⟩
  have lt : m < ds.length := by omega
  have dv' : Dh (hide H1 d) v (.list ds) := Dh.mono (Sx.of (e.hide o)) dv
  cases dv' with
  | @lst p xs _ hp t =>
    obtain ⟨y, hy, dy⟩ := t.get (List.getElem?_eq_getElem lt)
    exact .inl ⟨p, xs, m, y, rfl, rfl, .inl (.inl (hide_some hp)), atI_nat hy, q _ _ y H1 ⟨⟨_, List.getElem_mem lt, rfl⟩, s + 1, Nat.le_refl _, rfl⟩ e w1 c1 dy⟩
abbrev s_frame : Stmt := topP 47
theorem sc_frame : FnScope ["m", "most", "some", "pair"] ["m", "most"] (defScope s_frame) := ⟨rfl, rfl, rfl, by decide +kernel, rfl, by decide +kernel, by decide +kernel⟩
def FldP (x : EV) : Prop := ∃ p n : Nat, Fld p n ∧ p ^ n ≤ 125 ∧ x = .d (fD p n)
def R_frame : List EV → (EV → Prop) → Nat → Prop := fun xs P k => xs = [iv 81] ∧ P = FldP ∧ k = 1
def framesH : List (Nat × Nat) := [(2, 1), (2, 2), (2, 3), (2, 4), (3, 1), (3, 2), (3, 3), (3, 4), (5, 1), (5, 2), (5, 3), (7, 1), (7, 2)]
theorem framesH_ok : framesH.all (fun f => fldB f.1 f.2 && decide (f.1 ^ f.2 ≤ 125)) = true := by decide +kernel
theorem ok_frame (T : Txt K mg) (D : DefAt K mg "_law_frame" s_frame ["m", "most"]) (O_of : Ok P w K mg base "_law_of" 2 (spM R_of)) (O_size : Ok P w K mg base "_law_size" 1 (spD R_size_of)) : Ok P w K mg base "_law_frame" 3 (spM R_frame) := by
  refine ok_srM D sc_frame (fun xs Pp k h => by obtain ⟨rfl, _⟩ := h; rfl) fun f cd A out s H hG hr => ?_
  refine ⟨_, pss_cons (ps_set (i := 2) sc_frame.nd rfl (Or.inl rfl) (pe_lst (pa_cons (pe_tup (pa_cons (pe_int) (pa_cons (pe_int) pa_nil))) (pa_cons (pe_tup (pa_cons (pe_int) (pa_cons (pe_int) pa_nil))) (pa_cons (pe_tup (pa_cons (pe_int) (pa_cons (pe_int) pa_nil))) (pa_cons (pe_tup (pa_cons (pe_int) (pa_cons (pe_int) pa_nil))) (pa_cons (pe_tup (pa_cons (pe_int) (pa_cons (pe_int) pa_nil))) (pa_cons (pe_tup (pa_cons (pe_int) (pa_cons (pe_int) pa_nil))) (pa_cons (pe_tup (pa_cons (pe_int) (pa_cons (pe_int) pa_nil))) (pa_cons (pe_tup (pa_cons (pe_int) (pa_cons (pe_int) pa_nil))) (pa_cons (pe_tup (pa_cons (pe_int) (pa_cons (pe_int) pa_nil))) (pa_cons (pe_tup (pa_cons (pe_int) (pa_cons (pe_int) pa_nil))) (pa_cons (pe_tup (pa_cons (pe_int) (pa_cons (pe_int) pa_nil))) (pa_cons (pe_tup (pa_cons (pe_int) (pa_cons (pe_int) pa_nil))) (pa_cons (pe_tup (pa_cons (pe_int) (pa_cons (pe_int) pa_nil))) pa_nil))))))))))))))) (pss_one (ps_ret (pe_ok O_of hG (hr.mono (by decide)) (by rfl) (pa_cons (pv 0) (pa_cons (pe_lc (own := [("pair", 3)]) rfl sc_frame.nd (pi_seqK (K := K) rfl (pv 2)) (blkOk_by (N := ["m", "most", "some", "pair"]) (sc := defScope s_frame) (by decide +kernel)) (fun _ _ _ _ _ => (pg_name (i := 3) sc_frame.nd rfl (Or.inl rfl))) (fun _ _ _ _ _ => pts_one (pt_cmpR op_le (pe_ok O_size hG (hr.mono (by decide)) (by rfl) (pa_cons (pv 3) pa_nil)) (pv 1) (nomark _))) (fun _ _ _ _ _ => (pv 3))) pa_nil))))), ?_⟩
  rintro a s xs Pp k ⟨rfl, rfl, rfl⟩ hs
  have fo : ∀ f ∈ framesH, Fld f.1 f.2 ∧ f.1 ^ f.2 ≤ 125 := fun f hf => by
    have h := List.all_eq_true.mp framesH_ok f hf
    rw [Bool.and_eq_true] at h
    exact ⟨fld_of h.1, of_decide_eq_true h.2⟩
  let some_ : List (Nat × Nat) := framesH.filter fun f => decide ((f.1 : Int) ^ f.2 ≤ 81)
  refine srm_seq (so_sn (ρ1 := [some (.a a), some (iv 81), some (.d (.list (framesH.map fun f => fD f.1 f.2))), none]) (sn_asg (ee_lst (ds := framesH.map fun f => fD f.1 f.2) ?c1 (by decide))) (ok_M1 a s)) fun r c ⟨e1, e2⟩ => ?_
  case c1 => repeat' (first | exact ee_int | exact ea_nil | exact ee_var rfl | refine ee_tup ?_ ?_ | refine ea_cons ?_ ?_ | exact Nat.le_of_ble_eq_true rfl)
  subst e1 e2
  refine srm_one (srm_is (srm_ret (em_cal (i := 0) (R := R_of) (X := noC) (bs := []) (k := 1) (P := fun x => ∃ y ∈ some_.map fun f => fD f.1 f.2, x = .d y) rfl (ea_cons (ee_lc framesH (fun f => fD f.1 f.2) (fun f => decide ((f.1 : Int) ^ f.2 ≤ 81)) (fun f => fD f.1 f.2) (wi_seq (ee_var rfl) (sv_l _)) (by decide) fun f hf => ⟨_, _, ge_name, by decide, eb_test (ee_le (ee_cal (ea_cons (ee_var rfl) ea_nil) ⟨f.1, f.2, rfl, (fo f hf).1, rfl⟩) (ee_var rfl)), fun _ => ee_var rfl⟩) ea_nil) ⟨_, rfl, by decide, by decide, rfl, rfl⟩ hs (ok_noC _) (by simp) (by simp) (by simp))) fun x c ⟨⟨y, hy, e1⟩, e2⟩ => ⟨?_, s + 1, Nat.le_refl _, e2⟩)
  obtain ⟨f, hf, rfl⟩ := List.mem_map.mp hy
  have := fo f (List.mem_filter.mp hf).1
  exact ⟨f.1, f.2, this.1, this.2, e1⟩
end
end Pz
namespace Pz
open PySem PySem.Spec PyProof.Rows L2 Evl StX
/-! ### the order of keys -/
def leK (a b : List Int) : Bool := PySem.W.dataLe false id (keyD a) (keyD b)
theorem ints_lt : ∀ (a b : List Int), a.length = b.length → a ≠ b → PyProof.Rows.lexLt itemOrd (PySem.W.keyToksAll (b.map .int)) (PySem.W.keyToksAll (a.map .int)) = false → a < b
  | [], [], _, h, _ => absurd rfl h
  | [], _ :: _, h, _, _ => by simp at h
  | _ :: _, [], h, _, _ => by simp at h
  | x :: a, y :: b, hl, hn, h => by
    have al : PySem.W.alike (.int y) (.int x) = true := by simp [PySem.W.alike]
    by_cases e : x = y
    · subst e
      rw [List.map_cons, List.map_cons, PySem.W.dataLt_all_yes al (by simp [PyData.eqv])] at h
      have := ints_lt a b (by simpa using hl) (fun z => hn (by rw [z])) h
      exact List.Lex.cons this
    · rw [List.map_cons, List.map_cons, PySem.W.dataLt_all_no al (by simpa [PyData.eqv] using Ne.symm e)] at h
      have : ¬ y < x := fun z => by
        have : PySem.W.dataLt (.int y) (.int x) = true := by
          simp only [PySem.W.dataLt, PySem.W.keyToks]
          exact lex_true.mpr (.inl (decide_eq_true z))
        rw [this] at h
        cases h
      exact List.Lex.rel (by omega)
theorem leK_lt {a b : List Int} (hl : a.length = b.length) (hn : a ≠ b) (h : leK a b = true) : a < b := by
  refine ints_lt a b hl hn ?_
  have h2 : (!PySem.W.dataLt (keyD b) (keyD a)) = true := h
  unfold keyD at h2
  rw [PySem.W.dataLt_tuple] at h2
  simpa using h2
theorem sortD_keyD (ks : List (List Int)) : sortD (ks.map keyD) = (ks.mergeSort leK).map keyD := by
  unfold sortD
  exact (List.map_mergeSort (f := keyD) (r := leK) (s := PySem.W.dataLe false id) fun _ _ _ _ => rfl).symm
theorem leK_total : PySem.W.TotalLe leK := by
  have h := PySem.W.sortLe_total (listOrd itemOrd) false (fun a : List Int => PySem.W.keyToks (keyD a))
  exact ⟨fun a b c => h.trans a b c, fun a b => h.total a b⟩
theorem sort_up {n : Nat} {ks : List (List Int)} (hl : ∀ k ∈ ks, k.length = n) (nd : ks.Nodup) : (ks.mergeSort leK).Pairwise (· < ·) := by
  have hp := List.mergeSort_perm ks leK
  have h1 : (ks.mergeSort leK).Pairwise fun a b => leK a b = true := List.pairwise_mergeSort (fun a b c => leK_total.trans a b c) (fun a b => by
    rcases leK_total.total a b with h | h <;> simp [h]) ks
  have h2 : (ks.mergeSort leK).Nodup := hp.nodup_iff.mpr nd
  have h3 := h1.and h2
  refine List.Pairwise.imp_of_mem ?_ h3
  intro a b ha hb ⟨h4, h5⟩
  exact leK_lt ((hl a (hp.mem_iff.mp ha)).trans (hl b (hp.mem_iff.mp hb)).symm) h5 h4
theorem sortOk_keyD {ks : List (List Int)} (n : Nat) (hn : 1 ≤ n) (hk : ∀ k ∈ ks, k.length = n) (h : ks.length ≤ 50000) : SortOk (ks.map keyD) := by
  refine ⟨fun d hd d' hd' => ?_, .inl fun d hd => ?_, fun d hd => ?_, ?_⟩
  · obtain ⟨a, _, rfl⟩ := List.mem_map.mp hd
    obtain ⟨b, _, rfl⟩ := List.mem_map.mp hd'
    simp [PySem.W.alike, keyD, alike_ints]
  · obtain ⟨a, ha, rfl⟩ := List.mem_map.mp hd
    have := hk a ha
    cases a with
    | nil => simp at this; omega
    | cons x a => exact ⟨_, _, rfl⟩
  · obtain ⟨a, _, rfl⟩ := List.mem_map.mp hd
    simp [PyData.depth, keyD, depth_ints]
  · rw [List.length_map, sizeLine_eq]
    omega
/-! ### a dict of drawn terms -/
theorem put_fst (q : Poly) (k : List Int) (v : Int) : (put q k v).map (·.1) = if k ∈ q.map (·.1) then q.map (·.1) else q.map (·.1) ++ [k] := by
  unfold put
  have e : (q.any fun p => decide (p.1 = k)) = decide (k ∈ q.map (·.1)) := by
    induction q with
    | nil => rfl
    | cons a q ih =>
      rw [List.any_cons, ih, List.map_cons]
      by_cases h : a.1 = k
      · simp [h]
      · simp [h, Ne.symm h]
  rw [e]
  by_cases h : k ∈ q.map (·.1)
  · rw [if_pos (decide_eq_true h), if_pos h, List.map_map]
    apply List.map_congr_left
    intro t _
    show (if t.1 = k then (k, v) else t).1 = t.1
    by_cases e2 : t.1 = k
    · rw [if_pos e2]; exact e2.symm
    · rw [if_neg e2]
  · rw [if_neg (by simpa using h), if_neg h, List.map_append]
    rfl
theorem put_mem {q : Poly} {k : List Int} {v : Int} {t : List Int × Int} (h : t ∈ put q k v) : t = (k, v) ∨ t ∈ q := by
  unfold put at h
  split at h
  · obtain ⟨s, hs, e⟩ := List.mem_map.mp h
    split at e
    · exact .inl e.symm
    · subst e; exact .inr hs
  · obtain h | h := List.mem_append.mp h
    · exact .inr h
    · exact .inl (List.mem_singleton.mp h)
structure Good (p n : Nat) (b : Nat) (q : Poly) : Prop where
  terms : ∀ t ∈ q, TermOk p n t
  nd : (q.map (·.1)).Nodup
  few : q.length ≤ b
theorem Good.put {p n b : Nat} {q : Poly} {k : List Int} {v : Int} (h : Good p n b q) (ht : TermOk p n (k, v)) : Good p n (b + 1) (put q k v) := by
  refine ⟨fun t m => ?_, ?_, ?_⟩
  · rcases put_mem m with rfl | m
    · exact ht
    · exact h.terms t m
  · rw [put_fst]
    split
    · exact h.nd
    · rename_i hn
      exact List.nodup_append.mpr ⟨h.nd, by simp, fun x hx y hy e => hn (by rw [List.mem_singleton.mp hy] at e; exact e ▸ hx)⟩
  · have := put_len q k v
    have := h.few
    omega
theorem Good.mono {p n b b' : Nat} {q : Poly} (h : Good p n b q) (hb : b ≤ b') : Good p n b' q := ⟨h.terms, h.nd, Nat.le_trans h.few hb⟩
/-- the sheet made of it -/
def sheetK (q : Poly) : Poly := ((q.map (·.1)).mergeSort leK).map fun k => (k, (look q k).getD 0)
theorem look_mem {q : Poly} {k : List Int} (h : k ∈ q.map (·.1)) : ∃ v, look q k = some v ∧ (k, v) ∈ q := by
  unfold look
  induction q with
  | nil => exact nomatch h
  | cons a q ih =>
    rw [List.find?_cons]
    by_cases e : a.1 = k
    · rw [decide_eq_true e]
      exact ⟨a.2, rfl, by rw [← e]; exact List.mem_cons_self⟩
    · rw [decide_eq_false e]
      rw [List.map_cons] at h
      obtain ⟨v, h1, h2⟩ := ih ((List.mem_cons.mp h).resolve_left (Ne.symm e))
      exact ⟨v, h1, List.mem_cons_of_mem _ h2⟩
theorem sheetK_ok {p n b : Nat} {q : Poly} (h : Good p n b q) (hb : b ≤ 700) : PolyOk p n (sheetK q) := by
  have hp := List.mergeSort_perm (q.map (·.1)) leK
  have hk : ∀ k ∈ q.map (·.1), k.length = n := fun k hk => by
    obtain ⟨t, ht, rfl⟩ := List.mem_map.mp hk
    exact (h.terms t ht).key.len
  have up := sort_up hk h.nd
  refine ⟨fun t ht => ?_, fun i a b ha hb => ?_, ?_⟩
  · obtain ⟨k, hk2, rfl⟩ := List.mem_map.mp ht
    obtain ⟨v, h1, h2⟩ := look_mem (hp.mem_iff.mp hk2)
    show TermOk p n (k, (look q k).getD 0)
    rw [h1]
    exact h.terms _ h2
  · unfold sheetK at ha hb
    rw [List.getElem?_map] at ha hb
    cases e1 : ((q.map (·.1)).mergeSort leK)[i]? with
    | none => rw [e1] at ha; cases ha
    | some x =>
      cases e2 : ((q.map (·.1)).mergeSort leK)[i + 1]? with
      | none => rw [e2] at hb; cases hb
      | some y =>
        rw [e1] at ha
        rw [e2] at hb
        cases ha
        cases hb
        obtain ⟨l1, r1⟩ := List.getElem?_eq_some_iff.mp e1
        obtain ⟨l2, r2⟩ := List.getElem?_eq_some_iff.mp e2
        rw [← r1, ← r2]
        exact List.pairwise_iff_getElem.mp up i (i + 1) l1 l2 (by omega)
  · unfold sheetK
    rw [List.length_map, List.length_mergeSort, List.length_map]
    exact Nat.le_trans h.few hb
section
variable {K : PySem.W.Frag} {as : List Addr} {ρ ρ1 ρ2 : Env1} {ta tb te td tk tv ty : TE}
theorem ee_sortK {q : Poly} (h : EvE td ρ (.t (q.map eI))) (so : SortOk ((q.map (·.1)).map keyD)) : EvE (tCB rSortK (tCons td tNil)) ρ (.d (.list (((q.map (·.1)).mergeSort leK).map keyD))) := ee_cb (ea_cons h ea_nil) fun vs H hd w d0 Q k => by
  obtain ⟨v, rfl, d⟩ := dv1 d0
  obtain ⟨a, es, rfl, ha, ent⟩ := d
  refine ⟨a, es, q.map (·.1), rfl, hide_some ha, ?_, so, fun p ys hp hy => k _ _ (Ex.new hp) (.lst (hide_of upd_same (w.fresh hp)) ?_)⟩
  · have : ∀ {es : List (List Key × V)} {q : Poly}, Ent (hide H hd) es (q.map eI) → es.map (·.1) = (q.map (·.1)).map kI := by
      intro es q h
      induction q generalizing es with
      | nil => cases h; rfl
      | cons t q ih =>
        cases h with
        | cons h1 h2 =>
          rw [List.map_cons, List.map_cons, List.map_cons, ih h2, h1.1]
    exact this ent
  · rw [← sortD_keyD]
    have : DhA H ys (sortD ((q.map (·.1)).map keyD)) := hy
    have ks : ∀ {ys : List V} {l : List (List Int)}, DhA H ys (l.map keyD) → DhA (hide H hd) ys (l.map keyD) := by
      intro ys l h
      refine DhA.view w h ?_
      induction l generalizing ys with
      | nil => rfl
      | cons k l ih =>
        cases h with
        | cons h1 h2 =>
          have e : noList (keyD k) = true := by
            have : ∀ k : List Int, noLists (k.map .int) = true := fun k => by
              induction k with
              | nil => rfl
              | cons a k ih => simp [noLists, noList, ih]
            simp [keyD, noList, this]
          simp only [List.map_cons, noLists, e, ih h2, Bool.and_self]
    rw [sortD_keyD] at this ⊢
    exact (ks this).mono (ex_new hp)
theorem ee_dget {kvs : List (List Int × PyData)} {k : List Int} {d : PyData} (h : EvE td ρ (.t kvs)) (hk : EvE ty ρ (.d (keyD k))) (e : look kvs k = some d) : EvE (tDGet td ty) ρ (.d d) := fun σ H hd w en Q q => h σ H hd w en _ fun u H1 e1 d1 => hk σ H1 hd (w.mono e1) (en.mono (exh e1)) _ fun v H2 e2 d2 => by
  obtain ⟨b, rfl, hb⟩ := dh_key d2
  obtain ⟨a, es, rfl, ha, ent⟩ := d1
  have ent2 := Ent.mono (Sx.of (exh (d := hd) e2)) ent
  rcases Ent.look (k := k) ent2 with ⟨_, h2⟩ | ⟨v, d', h1, h2, h3⟩
  · rw [e] at h2; cases h2
  · rw [e] at h2
    cases h2
    exact ⟨a, v, rfl, h1 ▸ DGet.t (e2 _ _ (hide_some ha)) (hide_some hb), q v H2 (e1.trans e2) h3⟩
end
end Pz
namespace Pz
open PySem PySem.Spec PyProof.Rows L2 Evl StX
section
variable {K : PySem.W.Frag} {as : List Addr} {ρ ρ1 ρ2 : Env1} {C : CP} {te : TE} {t u : TS}
/-- a new thing, owned beside what is owned already -/
theorem own_more {ob : HO} {i : Nat} {PE : EV → CP → Prop} {C1 : Addr → CP} {PS1 : Addr → Env1 → CP → Prop} {H : Hp} {d : Hid} {σ : L2.St} {D : Ends} (b : Addr) (w : Vw d H) (o : ∀ a ∈ as, d a = true) (cc : C (hide H d) H) (en : Envs (hide H d) σ ρ) (hb : H b = none) (hn : ∀ xs, ob ≠ .tup xs) (ck : CPok as C)
    (h1 : ∀ G H', C G H' → H' b = some ob → C1 b G H')
    (h2 : b ∉ as → SO (b :: as) t (ρ.set i (some (.a b))) (C1 b) (PS1 b))
    (h3 : ∀ r c, PS1 b r c → r[i]? = some (some (.a b)) ∧ ∃ x c0, CPok as c0 ∧ (∀ G G' H', c G H' → Ex G G' → G' b = H' b → Dv G' (.ref b) x ∧ c0 G' H') ∧ SRM as u (r.set i (some x)) c0 PE)
    (q : ∀ x C' v H', PE x C' → ExB as H H' → Vw d H' → C' (hide H' d) H' → Dv (hide H' d) v x → D.rt v H') : tSeq t u D (σ.set i (some (.ref b))) (upd H b ob) := by
  have nb : b ∉ as := fun m => by
    obtain ⟨ob', z, _⟩ := w b (o b m)
    rw [hb] at z
    cases z
  have e0 : Ex H (upd H b ob) := Ex.new hb
  have s0 := hide1_new (d := d) hb e0
  have w1 : Vw (hid1 d b) (upd H b ob) := (w.mono e0).one upd_same hn
  have o1 : ∀ a ∈ b :: as, hid1 d b a = true := fun a ha => by
    obtain rfl | ha := List.mem_cons.mp ha
    · exact hid1_self
    · unfold hid1; rw [o a ha]; rfl
  have c1 := h1 _ _ (ck _ _ _ _ cc s0 fun a ha ob' z => e0 a ob' z) upd_same
  have d1 : Dv (hide (upd H b ob) (hid1 d b)) (.ref b) (.a b) := rfl
  refine h2 nb _ _ _ (hid1 d b) w1 o1 c1 ((en.mono s0).set d1 i) fun r c σ' H' p e w2 cc2 en2 => ?_
  obtain ⟨k1, x, c0, k2, k3, k4⟩ := h3 r c p
  have eH : ExB as H H' := fun a ob' n z => e a ob' (fun m => by
    rcases List.mem_cons.mp m with rfl | m
    · rw [hb] at z; cases z
    · exact n m) (e0 a ob' z)
  have wv : Vw d H' := fun a ha => w2 a (by unfold hid1; rw [ha]; rfl)
  have db : d b = false := w.fresh hb
  have eb : hide H' d b = H' b := by unfold hide; rw [db]; rfl
  obtain ⟨k5, k6⟩ := k3 _ (hide H' d) H' cc2 hide1_le eb
  obtain ⟨v, hv, ev⟩ := en2.get k1
  cases ev
  exact k4 D σ' H' d wv o k6 (Envs.putAt k5 hv (en2.mono hide1_le)) fun x c' v' H2 p2 e2 => q x c' v' H2 p2 (eH.trans e2)
/-- found = {}; ..; return .. -/
theorem srm_ownD {i : Nat} {PE : EV → CP → Prop} {PS1 : Addr → Env1 → CP → Prop} (ck : CPok as C) (h2 : ∀ b, b ∉ as → SO (b :: as) t (ρ.set i (some (.a b))) (dC b [] C) (PS1 b))
    (h3 : ∀ b r c, PS1 b r c → r[i]? = some (some (.a b)) ∧ ∃ kvs c0, c = dC b kvs c0 ∧ CPok as c0 ∧ SRM as u (r.set i (some (.t kvs))) c0 PE) : SRM as (tSeq (tAsg tDNewT (gName i)) (tSeq t u)) ρ C PE := fun D σ H d w o cc en q => fun b hb =>
  own_more (t := t) (u := u) (C1 := fun b => dC b [] C) (PS1 := PS1) b w o cc en hb nofun ck (fun G H' c z => ⟨⟨[], z, .nil⟩, c⟩) (h2 b) (fun r c p => by
    obtain ⟨k1, kvs, c0, rfl, k2, k3⟩ := h3 b r c p
    refine ⟨k1, .t kvs, c0, k2, fun G G' H' ⟨⟨es, e1, e2⟩, cc⟩ e eb => ⟨⟨b, es, rfl, eb.trans e1, e2.mono (Sx.of e)⟩, k2 _ _ _ _ cc e fun a _ ob z => z⟩, k3⟩) q
/-- found = []; ..; return .. -/
theorem srm_ownL {i : Nat} {PE : EV → CP → Prop} {PS1 : Addr → Env1 → CP → Prop} (ck : CPok as C) (h2 : ∀ b, b ∉ as → SO (b :: as) t (ρ.set i (some (.a b))) (lC b [] C) (PS1 b))
    (h3 : ∀ b r c, PS1 b r c → r[i]? = some (some (.a b)) ∧ ∃ ds c0, c = lC b ds c0 ∧ CPok as c0 ∧ SRM as u (r.set i (some (.d (.list ds)))) c0 PE) : SRM as (tSeq (tAsg (tLst tNil) (gName i)) (tSeq t u)) ρ C PE := fun D σ H d w o cc en q => ⟨Nat.zero_le _, fun b hb =>
  own_more (t := t) (u := u) (C1 := fun b => lC b [] C) (PS1 := PS1) b w o cc en hb nofun ck (fun G H' c z => ⟨⟨[], z, .nil⟩, c⟩) (h2 b) (fun r c p => by
    obtain ⟨k1, ds, c0, rfl, k2, k3⟩ := h3 b r c p
    refine ⟨k1, .d (.list ds), c0, k2, fun G G' H' ⟨⟨es, e1, e2⟩, cc⟩ e eb => ⟨.lst (eb.trans e1) (e2.mono (Sx.of e)), k2 _ _ _ _ cc e fun a _ ob z => z⟩, k3⟩) q⟩
end
def dX (b : Addr) (kvs : List (List Int × PyData)) : CP := fun G H => ∃ es, H b = some (.dT es) ∧ Ent G es kvs
def lX (b : Addr) (ds : List PyData) : CP := fun G H => ∃ xs, H b = some (.lst xs) ∧ DhA G xs ds
theorem ok_dX (b : Addr) (kvs : List (List Int × PyData)) : CPok [b] (dX b kvs) := fun G G' H H' ⟨es, e1, e2⟩ e k => ⟨es, k b (by simp) _ e1, e2.mono (Sx.of e)⟩
theorem ok_lX (b : Addr) (ds : List PyData) : CPok [b] (lX b ds) := fun G G' H H' ⟨es, e1, e2⟩ e k => ⟨es, k b (by simp) _ e1, e2.mono (Sx.of e)⟩
theorem MC_noC (a : Addr) (s : Nat) : MC noC a s = MOk a s := by
  funext G H
  simp [MC, noC]
theorem ok_MD {a b : Addr} {kvs : List (List Int × PyData)} {s : Nat} : CPok [b, a] (MC (dX b kvs) a s) := ok_MC (bs := [b]) (by simp) (ok_dX b kvs) (by simp)
theorem ok_ML {a b : Addr} {ds : List PyData} {s : Nat} : CPok [b, a] (MC (lX b ds) a s) := ok_MC (bs := [b]) (by simp) (ok_lX b ds) (by simp)
section
variable {w : World} {P : Program} {mg : Str → Option Value} {K : PySem.W.Frag} {base : Heap}
/-- _law_draw(m, e), what else is owned in X -/
theorem em_draw {as bs : List Addr} {ρ : Env1} {X : CP} {a : Addr} {s i : Nat} {te : TE} {many : Int} (hi : ρ[i]? = some (some (.a a))) (h : EvE te ρ (iv many)) (h1 : 1 ≤ many) (h2 : many ≤ 100000) (hs : s + 1 ≤ 1000000) (hX : CPok bs X) (nb : a ∉ bs) (ha : a ∈ as) (sub : ∀ b ∈ bs, b ∈ as) :
    EM as (tCal (spM R_draw) (tCons (tVar i) (tCons te tNil))) ρ (MC X a s) (fun x c => ∃ j, x = iv j ∧ (0 ≤ j ∧ j < many) ∧ c = MC X a (s + 1)) :=
  em_weak (em_cal hi (ea_cons h ea_nil) ⟨many, rfl, h1, h2, rfl, rfl⟩ hs hX nb ha sub) fun x c ⟨⟨j, e, p1, p2⟩, e2⟩ => ⟨j, e, ⟨p1, p2⟩, e2⟩
/-- 1 + _law_draw(m, e) -/
theorem em_draw1 {as bs : List Addr} {ρ : Env1} {X : CP} {a : Addr} {s i : Nat} {te : TE} {many : Int} (hi : ρ[i]? = some (some (.a a))) (h : EvE te ρ (iv many)) (h1 : 1 ≤ many) (h2 : many ≤ 100000) (hs : s + 1 ≤ 1000000) (hX : CPok bs X) (nb : a ∉ bs) (ha : a ∈ as) (sub : ∀ b ∈ bs, b ∈ as) :
    EM as (tOp (rI0 fun i j => .int (i + j)) (tC (.int 1)) (tCal (spM R_draw) (tCons (tVar i) (tCons te tNil)))) ρ (MC X a s) (fun x c => ∃ j, x = iv (1 + j) ∧ (0 ≤ j ∧ j < many) ∧ c = MC X a (s + 1)) :=
  em_two (gd := fun i j => .int (i + j)) (A := fun i c => i = 1 ∧ c = MC X a s) (B := fun i j c => i = 1 ∧ (0 ≤ j ∧ j < many) ∧ c = MC X a (s + 1)) (em_ee' ee_int (ok_MC ha hX sub) ⟨1, rfl, rfl, rfl⟩) (fun i c ⟨e1, e2⟩ => by
    subst e1 e2
    exact em_weak (em_draw hi h h1 h2 hs hX nb ha sub) fun x c ⟨j, e, p, e2⟩ => ⟨j, e, rfl, p, e2⟩) (fun i j H => .int _) fun i j c ⟨e, p, e2⟩ => by subst e; exact ⟨j, rfl, p, e2⟩
abbrev s_sheet : Stmt := topP 50
theorem sc_sheet : FnScope ["m", "frame", "many", "high", "found", "turn", "key", "turn_so"] ["m", "frame", "many", "high"] (defScope s_sheet) := ⟨rfl, rfl, rfl, by decide +kernel, rfl, by decide +kernel, by decide +kernel⟩
def SheetP (p n : Nat) (x : EV) : Prop := ∃ q : Poly, PolyOk p n q ∧ q.length ≤ 10 ∧ x = .d (pD q)
def R_sheet : List EV → (EV → Prop) → Nat → Prop := fun xs P k => ∃ p n : Nat, xs = [.d (fD p n), iv 5, iv 4] ∧ Fld p n ∧ P = SheetP p n ∧ k = 60
theorem ok_sheet (T : Txt K mg) (D : DefAt K mg "_law_sheet" s_sheet ["m", "frame", "many", "high"]) (O_draw : Ok P w K mg base "_law_draw" 1 (spM R_draw)) : Ok P w K mg base "_law_sheet" 2 (spM R_sheet) := by
  refine ok_srM D sc_sheet (fun xs Pp k h => by obtain ⟨p, n, rfl, _⟩ := h; rfl) fun f cd A out s H hG hr => ?_
  have hu := hu_of hr
  refine ⟨_, pss_cons (ps_set (i := 4) sc_sheet.nd rfl (Or.inr rfl) (pe_dnewT)) (pss_cons (ps_for PassesOwn.never rfl (pi_range1 (by rfl) T.m_range (pa_cons (pe_ok O_draw hG (hr.mono (by decide)) (by rfl) (pa_cons (pv 0) (pa_cons (pe_op op_add (pv 2) (pe_int)) pa_nil))) pa_nil)) (pg_name (i := 5) sc_sheet.nd rfl (Or.inl rfl)) (pss_cons (ps_set (i := 6) sc_sheet.nd rfl (Or.inl rfl) (pe_callTy (cr_tupOfK (K := K) rfl) (by rfl) T.m_tuple boot_tuple (pa_cons (pe_lc (own := [("turn_so", 7)]) (tt := tYes) rfl sc_sheet.nd (pi_range1 (by rfl) T.m_range (pa_cons (pe_ix (ix_seqK (K := K) rfl) (pv 1) (pe_int) (fun _ _ => rfl)) pa_nil)) (blkOk_by (N := ["m", "frame", "many", "high", "found", "turn", "key", "turn_so"]) (sc := defScope s_sheet) (by decide +kernel)) (fun _ _ _ _ _ => (pg_name (i := 7) sc_sheet.nd rfl (Or.inl rfl))) (fun _ _ _ _ _ => pts_nil) (fun _ _ _ _ _ => (pe_ifExp (pt_cmpR op_gt (pe_ok O_draw hG (hr.mono (by decide)) (by rfl) (pa_cons (pv 0) (pa_cons (pe_int) pa_nil))) (pe_int) (nomark _)) (pe_ok O_draw hG (hr.mono (by decide)) (by rfl) (pa_cons (pv 0) (pa_cons (pe_op op_add (pv 3) (pe_int)) pa_nil))) (pe_int)))) pa_nil))) (pss_one (ps_dput hu (pv 4) (pv 6) (pe_op op_add (pe_int) (pe_ok O_draw hG (hr.mono (by decide)) (by rfl) (pa_cons (pv 0) (pa_cons (pe_op op_sub (pe_ix (ix_seqK (K := K) rfl) (pv 1) (pe_int) (fun _ _ => rfl)) (pe_int)) pa_nil)))) rfl)))) (pss_one (ps_ret (pe_callTy (cr_tupOfK (K := K) rfl) (by rfl) T.m_tuple boot_tuple (pa_cons (pe_lc (own := [("key", 6)]) (tt := tYes) rfl sc_sheet.nd (pi_seqK (K := K) rfl (pe_callB (cr_sortK rfl hr.units) (by rfl) T.m_sorted boot_sorted (pa_cons (pv 4) pa_nil))) (blkOk_by (N := ["m", "frame", "many", "high", "found", "turn", "key", "turn_so"]) (sc := defScope s_sheet) (by decide +kernel)) (fun _ _ _ _ _ => (pg_name (i := 6) sc_sheet.nd rfl (Or.inl rfl))) (fun _ _ _ _ _ => pts_nil) (fun _ _ _ _ _ => (pe_tup (pa_cons (pv 6) (pa_cons (pe_dget hu (pv 4) (pv 6) (fun _ _ => rfl)) pa_nil))))) pa_nil))))), ?_⟩
  rintro a s xs Pp k ⟨p, n, rfl, hF, rfl, rfl⟩ hs
  have h4 := hF.n4
  have h1 := hF.n1
  have h7 := hF.le7
  let RA : Addr → Env1 := fun b => [some (.a a), some (.d (fD p n)), some (iv 5), some (iv 4), some (.a b), none, none, none]
  rw [MC_noC]
  refine srm_ownD (i := 4) (PS1 := fun b r c => r = RA b ∧ ∃ q s', s' ≤ s + 60 ∧ Good p n 5 q ∧ c = dC b (q.map eI) (MOk a s')) (ok_MOk (by simp) s) (fun b nb => ?_) fun b r c ⟨e1, q, s', hs', hq, e2⟩ => ?_
  · have nba : b ≠ a := fun z => nb (by simp [z])
    have nab : a ∉ [b] := fun z => nba (List.mem_singleton.mp z).symm
    have inA : a ∈ [b, a] := by simp
    have sub : ∀ x ∈ [b], x ∈ [b, a] := fun x hx => by rw [List.mem_singleton.mp hx]; simp
    refine so_forW (wim_rng (A := fun j c => (0 ≤ j ∧ j < 5 + 1) ∧ c = MC (dX b []) a (s + 1)) (em_draw (X := dX b []) (bs := [b]) rfl (ee_add (ee_var rfl) ee_int) (by omega) (by omega) (by omega) (ok_dX b []) nab inA sub) fun i c h => by omega)
      (fun i r c => ∃ q s', s' ≤ s + 1 + 9 * i ∧ Good p n i q ∧ r = RA b ∧ c = MC (dX b (q.map eI)) a s') fun ds c ⟨j, e1, ⟨j0, j1⟩, e2⟩ => ?_
    subst e1 e2
    refine ⟨⟨[], s + 1, by omega, ⟨fun t ht => (nomatch ht), List.Pairwise.nil, Nat.le_refl _⟩, rfl, rfl⟩, fun i d r c hd ⟨q, s', hs', hq, er, ec⟩ => ?_, fun r c ⟨q, s', hs', hq, er, ec⟩ => ?_⟩
    · subst er ec
      obtain ⟨hi, rfl⟩ := rngD_of hd
      have hi : i < 5 := by omega
      refine ⟨ok_MD, _, _, ge_name, so_weak (P := fun r c => Le (RA b) r ∧ ∃ q s', s' ≤ s + 1 + 9 * (i + 1) ∧ Good p n (i + 1) q ∧ c = MC (dX b (q.map eI)) a s') ?_ fun r c ⟨l, q, s', x1, x2, x3⟩ => ⟨RA b, l, q, s', x1, x2, rfl, x3⟩⟩
      refine so_seq (P := fun r c => ∃ l : List Int, r = [some (.a a), some (.d (fD p n)), some (iv 5), some (iv 4), some (.a b), some (iv (0 + (i : Int))), some (.d (keyD l)), none] ∧ l.length = n ∧ (∀ e ∈ l, 0 ≤ e ∧ e ≤ 4) ∧ ∃ s2, s2 ≤ s' + 2 * n ∧ c = MC (dX b (q.map eI)) a s2) ?_ fun r c ⟨l, er, hl, hle, s2, hs2, ec⟩ => ?_
      · refine so_asg (PV := fun x c => ∃ l : List Int, x = .d (keyD l) ∧ l.length = n ∧ (∀ e ∈ l, 0 ≤ e ∧ e ≤ 4) ∧ ∃ s2, s2 ≤ s' + 2 * n ∧ c = MC (dX b (q.map eI)) a s2) ?_ fun x c ⟨l, ex, h⟩ => ⟨l, by subst ex; rfl, h⟩
        refine em_tupOf (PV := fun x c => ∃ l : List Int, x = .d (lD l) ∧ l.length = n ∧ (∀ e ∈ l, 0 ≤ e ∧ e ≤ 4) ∧ ∃ s2, s2 ≤ s' + 2 * n ∧ c = MC (dX b (q.map eI)) a s2) ?_ fun x c ⟨l, ex, h1, h2, s2, h3, h4⟩ => ⟨by subst h4; exact ok_MD, l.map .int, ex, l, rfl, h1, h2, s2, h3, h4⟩
        refine em_lc (wim_of (wi_rng1 (ea_cons (ee_n (ee_var rfl)) ea_nil) (by omega) (by omega)) ok_MD) (fun j acc c => ∃ l : List Int, acc = l.map .int ∧ l.length = j ∧ (∀ e ∈ l, 0 ≤ e ∧ e ≤ 4) ∧ ∃ s2, s2 ≤ s' + 2 * j ∧ c = MC (dX b (q.map eI)) a s2) (fun j acc c ⟨l, _, _, _, s2, _, h⟩ => by subst h; exact ok_MD) fun ds c ⟨e1, e2⟩ => ?_
        subst e1 e2
        refine ⟨by rw [rngD_len]; omega, ⟨[], rfl, rfl, fun e he => (nomatch he), s', by omega, rfl⟩, fun j dd acc c hj ⟨l, ea, hl, hle, s2, hs2, ec⟩ => ?_, fun acc c ⟨l, ea, hl, hle, s2, hs2, ec⟩ => ⟨l, by subst ea; rfl, by rw [hl, rngD_len, Int.toNat_natCast], hle, s2, by rw [rngD_len, Int.toNat_natCast] at hs2; exact hs2, ec⟩⟩
        subst ea ec
        obtain ⟨hjn, rfl⟩ := rngD_of hj
        have hjn : j < n := by omega
        refine ⟨_, _, ge_name, by decide, em_weak (PV := fun x c => ∃ e : Int, x = iv e ∧ (0 ≤ e ∧ e ≤ 4) ∧ ∃ s3, s3 ≤ s2 + 2 ∧ c = MC (dX b (q.map eI)) a s3) ?_ fun x c ⟨e, ex, he, s3, h3, h4⟩ => ⟨.int e, ex, l ++ [e], by simp, by simp [hl], fun y hy => ?_, s3, by omega, h4⟩⟩
        · refine em_if (PB := fun _ c => c = MC (dX b (q.map eI)) a (s2 + 1)) (emb_test (em_two (gd := fun i j => .bool (decide (j < i))) (A := fun i c => c = MC (dX b (q.map eI)) a (s2 + 1)) (B := fun i j c => c = MC (dX b (q.map eI)) a (s2 + 1)) (em_weak (em_draw (many := 3) rfl ee_int (by omega) (by omega) (by omega) (ok_dX b _) nab inA sub) fun x c ⟨j, e, _, h⟩ => ⟨j, e, h⟩) (fun i c h => em_ee' ee_int (by subst h; exact ok_MD) ⟨0, rfl, h⟩) (fun i j H => .bl _) fun i j c h => ⟨_, rfl, h⟩)) (fun c h => ?_) fun c h => ?_
          · subst h
            exact em_weak (em_draw (many := 4 + 1) rfl (ee_add (ee_var rfl) ee_int) (by omega) (by omega) (by omega) (ok_dX b _) nab inA sub) fun x c ⟨j, e, hj, h⟩ => ⟨j, e, by omega, s2 + 1 + 1, by omega, h⟩
          · subst h
            exact em_ee' ee_int ok_MD ⟨0, rfl, by omega, s2 + 1, by omega, rfl⟩
        · rcases List.mem_append.mp hy with hy | hy
          · exact hle y hy
          · rw [List.mem_singleton.mp hy]
            exact he
      · subst er ec
        refine so_put (C := MOk a s2) (PV := fun x c => ∃ j, x = iv (1 + j) ∧ (0 ≤ j ∧ j < (p : Int) - 1) ∧ c = MC (dX b (q.map eI)) a (s2 + 1)) (fun m => nba (List.mem_singleton.mp m)) rfl (em_draw1 (X := dX b (q.map eI)) (bs := [b]) rfl (ee_sub (ee_p (ee_var rfl)) ee_int) (by omega) (by omega) (by omega) (ok_dX b _) nab inA sub) fun x c ⟨j, ex, hj, ec⟩ => ⟨.int (1 + j), l, MOk a (s2 + 1), ex, ec, ok_MOk (by simp) _, ee_var rfl, by have := hq.few; rw [List.length_map]; omega, (.cons (.inr rfl) (.cons (.inr rfl) (.cons (.inr rfl) (.cons (.inr rfl) (.cons (.inr rfl) (.cons (.inl rfl) (.cons (.inl rfl) (.cons (.inl rfl) .nil)))))))), put q l (1 + j), s2 + 1, by omega, hq.put ⟨⟨hl, fun e he => by have := hle e he; omega⟩, by show 1 ≤ 1 + j; omega, by show 1 + j ≤ _; omega⟩, ?_⟩
        rw [put_map]
        rfl
    · subst er ec
      rw [rngD_len] at hs' hq
      exact ⟨rfl, q, s', by omega, hq.mono (by omega), rfl⟩
  · subst e1 e2
    refine ⟨rfl, q.map eI, MOk a s', rfl, ok_MOk (by simp) s', ?_⟩
    have hk : ∀ k ∈ q.map (·.1), k.length = n := fun k hk => by
      obtain ⟨t, ht, rfl⟩ := List.mem_map.mp hk
      exact (hq.terms t ht).key.len
    have hfew := hq.few
    have hp := List.mergeSort_perm (q.map (·.1)) leK
    refine srm_one (srm_ret (em_ee' (x := .d (pD (sheetK q))) (ee_tupOf (ee_is (ee_lcm ((q.map (·.1)).mergeSort leK) keyD (fun k => tD (k, (look q k).getD 0)) (wi_seq (ee_sortK (q := q) (ee_var rfl) (sortOk_keyD n h1 hk (by rw [List.length_map]; omega))) (sv_l _)) (by rw [List.length_mergeSort, List.length_map]; omega) fun k hk2 => ?_) ?_)) (ok_MOk (by simp) s') ⟨⟨sheetK q, sheetK_ok hq (by omega), ?_, rfl⟩, s', hs', (MC_noC a s').symm⟩))
    · obtain ⟨v, h1, h2⟩ := look_mem (hp.mem_iff.mp hk2)
      refine ⟨_, _, ge_name, by decide, ee_tup (ds := [keyD k, .int ((look q k).getD 0)]) (ea_cons (ee_var rfl) (ea_cons (ee_dget (kvs := q.map eI) (ee_var rfl) (ee_var rfl) ?_) ea_nil)) (by simp)⟩
      rw [look_map, h1]
      rfl
    · simp [sheetK]
    · rw [sheetK, List.length_map, List.length_mergeSort, List.length_map]
      omega
end
end Pz
namespace Pz
open PySem PySem.Spec PyProof.Rows L2 Evl StX
section
variable {K : PySem.W.Frag} {as : List Addr} {ρ ρ1 ρ2 : Env1} {C : CP} {ta tb te : TE} {tt : TT} {t u : TS} {P : Env1 → CP → Prop} {PV PW : EV → CP → Prop}
theorem emb_ev {b : Bool} (h : EvB tt ρ b) (c : CPok as C) : EMB as tt ρ C (fun b' c' => b' = b ∧ c' = C) := fun σ H d w o cc en Q q => h σ H d w en _ fun H' e => q b C H' ⟨rfl, rfl⟩ (.of e) (w.mono e) (c _ _ _ _ cc (exh e) fun a _ ob z => e a ob z)
theorem emb_not {PB : Bool → CP → Prop} (h : EMB as tt ρ C PB) : EMB as (tNot tt) ρ C (fun b c => PB (!b) c) := fun σ H d w o cc en Q q => h σ H d w o cc en _ fun b c H' p => q (!b) c H' (by show PB (!!b) c; rw [Bool.not_not]; exact p)
theorem emb_B {A : Bool → CP → Prop} (h : EM as te ρ C (fun x c => ∃ b, x = bv b ∧ A b c)) : EMB as (tB te) ρ C A := fun σ H d w o cc en Q q => h σ H d w o cc en _ fun x c v H1 ⟨b, e1, p⟩ e w1 c1 d1 => by
  subst e1
  cases d1
  exact ⟨b, rfl, q b c H1 p e w1 c1⟩
theorem so_pre (l : Le ρ2 ρ) (h : SO as t ρ2 C P) : SO as t ρ C P := fun D σ H d w o cc en q => h D σ H d w o cc (en.weak l) q
/-- a, b = x, y by a pair that is made, x and y drawn -/
theorem so_pairM {i j : Nat} {A : Int → CP → Prop} {B : Int → Int → CP → Prop} (ha : EM as ta ρ C (fun x c => ∃ n, x = iv n ∧ A n c)) (hb : ∀ n c, A n c → EM as tb ρ c (fun y c' => ∃ m, y = iv m ∧ B n m c')) (k : ∀ n m c, B n m c → CPok as c ∧ P ((ρ.set i (some (iv n))).set j (some (iv m))) c) :
    SO as (tAsg (tTup (tCons ta (tCons tb tNil))) (gTup K 2 (gCons (gName i) (gCons (gName j) gNil)))) ρ C P := fun D σ H d w o cc en q =>
  ha σ H d w o cc en _ fun x c u H1 ⟨n, e1, p1⟩ e w1 c1 d1 => hb n c p1 σ H1 d w1 o c1 (en.mono (e.hide o)) _ fun y c' v H2 ⟨m, e2, p2⟩ e' w2 c2 d2 => by
    subst e1 e2
    cases d1
    cases d2
    obtain ⟨ck, pp⟩ := k n m c' p2
    refine ⟨by show 2 ≤ sizeLine; decide, fun p hp => ⟨p, [.int n, .int m], rfl, .inl (.inl upd_same), rfl, _, _, rfl, _, _, rfl, rfl, ?_⟩⟩
    have e3 : Ex H2 (upd H2 p (.tup [.int n, .int m])) := Ex.new hp
    exact q _ c' _ _ pp ((e.trans e').trans (.of e3)) (w2.mono e3) (ck _ _ _ _ c2 (exh e3) fun a _ ob z => e3 a ob z) ((((en.mono (e.hide o)).mono (e'.hide o)).mono (exh e3)).set (x := iv n) (.int n) i |>.set (x := iv m) (.int m) j)
/-- f(x, y), y drawn -/
theorem em_calD2 {R : List EV → EV → Prop} {x : EV} (ha : EvE ta ρ x) (hc : CPok as C) (hb : EM as tb ρ C PV) (k : ∀ y c, PV y c → CPok as c ∧ ∃ z, R [x, y] z ∧ PW z c) : EM as (tCal (spD R) (tCons ta (tCons tb tNil))) ρ C PW := fun σ H d w o cc en Q q =>
  ha σ H d w en _ fun u H1 e1 d1 => hb σ H1 d (w.mono e1) o (hc _ _ _ _ cc (exh e1) fun a _ ob z => e1 a ob z) (en.mono (exh e1)) _ fun y c v H2 p e2 w2 c2 d2 => by
    obtain ⟨ck, z, r, pw⟩ := k y c p
    exact ⟨d, [x, y], z, w2, .cons (d1.mono (e2.hide o)) (.cons d2 .nil), r, fun v' H3 e3 d3 => q z c v' H3 pw (((ExB.of e1).trans e2).trans (.of e3)) (w2.mono e3) (ck _ _ _ _ c2 (exh e3) fun a _ ob z => e3 a ob z) d3⟩
end
def e1K (n : Nat) : List Int := (List.range n).map fun (k : Nat) => if (0 + (k : Int)) = 0 then 1 else 0
theorem e1K_ok {n : Nat} (h1 : 1 ≤ n) (h4 : n ≤ 4) : (e1K n).length = n ∧ (∀ e ∈ e1K n, 0 ≤ e ∧ e ≤ 30) ∧ degK [(e1K n, 1)] = 1 := by
  have : n = 1 ∨ n = 2 ∨ n = 3 ∨ n = 4 := by omega
  rcases this with rfl | rfl | rfl | rfl <;> exact ⟨rfl, by decide, by decide⟩
def lowK (n : Nat) (x y : Int) : List Int := (List.range n).map fun (k : Nat) => (if (0 + (k : Int)) = x then 1 else 0) + (if (0 + (k : Int)) = y then 1 else 0)
theorem sum_ge : ∀ {l : List Int} {x : Int}, (∀ e ∈ l, 0 ≤ e) → x ∈ l → x ≤ l.sum
  | a :: l, x, h, m => by
    have h0 : ∀ {l : List Int}, (∀ e ∈ l, 0 ≤ e) → 0 ≤ l.sum := by
      intro l
      induction l with
      | nil => intro _; exact Int.le_refl 0
      | cons b l ih =>
        intro h
        have := ih fun e he => h e (List.mem_cons_of_mem _ he)
        have := h b (by simp)
        rw [List.sum_cons]
        omega
    have h2 := h0 fun e he => h e (List.mem_cons_of_mem _ he)
    have h3 := h a (by simp)
    rw [List.sum_cons]
    rcases List.mem_cons.mp m with rfl | m
    · omega
    · have := sum_ge (fun e he => h e (List.mem_cons_of_mem _ he)) m
      omega
theorem lowK_ok {n : Nat} {x y : Int} (hx : 0 ≤ x ∧ x < n) : (lowK n x y).length = n ∧ (∀ e ∈ lowK n x y, 0 ≤ e ∧ e ≤ 30) ∧ 1 ≤ (lowK n x y).sum := by
  have hm : ∀ e ∈ lowK n x y, 0 ≤ e ∧ e ≤ 30 := by
    intro e he
    obtain ⟨k, _, rfl⟩ := List.mem_map.mp he
    split <;> split <;> omega
  refine ⟨by simp [lowK], hm, ?_⟩
  obtain ⟨k, rfl⟩ : ∃ k : Nat, x = (k : Int) := ⟨x.toNat, by omega⟩
  have : (if (0 + (k : Int)) = (k : Int) then (1 : Int) else 0) + (if (0 + (k : Int)) = y then 1 else 0) ∈ lowK n k y := List.mem_map.mpr ⟨k, List.mem_range.mpr (by omega), rfl⟩
  have h2 := sum_ge (fun e he => (hm e he).1) this
  rw [if_pos (by omega)] at h2
  split at h2 <;> omega
theorem degK_ge {q : Poly} {t : List Int × Int} (ht : t ∈ q) : t.1.sum ≤ degK q := (maxL_spec _ _).2.2 _ (List.mem_map_of_mem (f := fun t : List Int × Int => t.1.sum) ht)
section
variable {w : World} {P : Program} {mg : Str → Option Value} {K : PySem.W.Frag} {base : Heap}
abbrev s_sheets : Stmt := topP 52
theorem sc_sheets : FnScope ["m", "frame", "high", "found", "turn", "sheet", "key", "k"] ["m", "frame", "high"] (defScope s_sheets) := ⟨rfl, rfl, rfl, by decide +kernel, rfl, by decide +kernel, by decide +kernel⟩
def SysP (p n : Nat) (x : EV) : Prop := ∃ qs : List Poly, SysOk p n qs ∧ x = .d (sD qs)
def R_sheets : List EV → (EV → Prop) → Nat → Prop := fun xs P k => ∃ p n : Nat, xs = [.d (fD p n), iv 4] ∧ Fld p n ∧ P = SysP p n ∧ k = 300
theorem ok_sheets (T : Txt K mg) (D : DefAt K mg "_law_sheets" s_sheets ["m", "frame", "high"]) (O_of : Ok P w K mg base "_law_of" 2 (spM R_of)) (O_sheet : Ok P w K mg base "_law_sheet" 2 (spM R_sheet)) (O_high : Ok P w K mg base "_law_high" 1 (spD R_degree_of)) : Ok P w K mg base "_law_sheets" 3 (spM R_sheets) := by
  refine ok_srM D sc_sheets (fun xs Pp k h => by obtain ⟨p, n, rfl, _⟩ := h; rfl) fun f cd A out s H hG hr => ?_
  have hu := hu_of hr
  refine ⟨_, pss_cons (ps_set (i := 3) sc_sheets.nd rfl (Or.inl rfl) (pe_lst pa_nil)) (pss_cons (ps_for PassesOwn.never rfl (pi_range1 (by rfl) T.m_range (pa_cons (pe_op op_add (pe_int) (pe_ok O_of hG (hr.mono (by decide)) (by rfl) (pa_cons (pv 0) (pa_cons (pe_lst (pa_cons (pe_int) (pa_cons (pe_int) (pa_cons (pe_int) (pa_cons (pe_int) (pa_cons (pe_int) (pa_cons (pe_int) (pa_cons (pe_int) pa_nil)))))))) pa_nil)))) pa_nil)) (pg_name (i := 4) sc_sheets.nd rfl (Or.inl rfl)) (pss_cons (ps_set (i := 5) sc_sheets.nd rfl (Or.inl rfl) (pe_ok O_sheet hG (hr.mono (by decide)) (by rfl) (pa_cons (pv 0) (pa_cons (pv 1) (pa_cons (pe_int) (pa_cons (pv 2) pa_nil)))))) (pss_cons (ps_if (pt_cmpR op_lt (pe_ok O_high hG (hr.mono (by decide)) (by rfl) (pa_cons (pv 5) pa_nil)) (pe_int) (nomark _)) (pss_cons (ps_set (i := 6) sc_sheets.nd rfl (Or.inl rfl) (pe_callTy (cr_tupOfK (K := K) rfl) (by rfl) T.m_tuple boot_tuple (pa_cons (pe_lc (own := [("k", 7)]) (tt := tYes) rfl sc_sheets.nd (pi_range1 (by rfl) T.m_range (pa_cons (pe_ix (ix_seqK (K := K) rfl) (pv 1) (pe_int) (fun _ _ => rfl)) pa_nil)) (blkOk_by (N := ["m", "frame", "high", "found", "turn", "sheet", "key", "k"]) (sc := defScope s_sheets) (by decide +kernel)) (fun _ _ _ _ _ => (pg_name (i := 7) sc_sheets.nd rfl (Or.inl rfl))) (fun _ _ _ _ _ => pts_nil) (fun _ _ _ _ _ => (pe_callTy call_int1 (by rfl) T.m_int boot_int (pa_cons (pe_cmpR op_eq (pv 7) (pe_int) (nomark _)) pa_nil)))) pa_nil))) (pss_one (ps_set (i := 5) sc_sheets.nd rfl (Or.inl rfl) (pe_tup (pa_cons (pe_tup (pa_cons (pv 6) (pa_cons (pe_int) pa_nil))) pa_nil))))) (pss_nil)) (pss_one (ps_expr (pe_bm PySem.F.plainAttrs_list PySem.F.slot_list_append PySem.F.type_list_append mt_append (pv 3) (pa_cons (pv 5) pa_nil))))))) (pss_one (ps_ret (pe_callTy (cr_tupOfK (K := K) rfl) (by rfl) T.m_tuple boot_tuple (pa_cons (pv 3) pa_nil))))), ?_⟩
  rintro a s xs Pp k ⟨p, n, rfl, hF, rfl, rfl⟩ hs
  have h4 := hF.n4
  have h1 := hF.n1
  have h7 := hF.le7
  let RA : Addr → Env1 := fun b => [some (.a a), some (.d (fD p n)), some (iv 4), some (.a b), none, none, none, none]
  let G : List Poly → Prop := fun qs => ∀ q ∈ qs, PolyOk p n q ∧ 1 ≤ degK q
  rw [MC_noC]
  refine srm_ownL (i := 3) (PS1 := fun b r c => r = RA b ∧ ∃ qs s', s' ≤ s + 300 ∧ G qs ∧ 1 ≤ qs.length ∧ qs.length ≤ 4 ∧ c = lC b (qs.map pD) (MOk a s')) (ok_MOk (by simp) s) (fun b nb => ?_) fun b r c ⟨e1, qs, s', hs', hq, l1, l4, e2⟩ => ?_
  · have nba : b ≠ a := fun z => nb (by simp [z])
    have nab : a ∉ [b] := fun z => nba (List.mem_singleton.mp z).symm
    have inA : a ∈ [b, a] := by simp
    have sub : ∀ x ∈ [b], x ∈ [b, a] := fun x hx => by rw [List.mem_singleton.mp hx]; simp
    refine so_forW (wim_rng (A := fun j c => (1 ≤ j ∧ j ≤ 4) ∧ c = MC (lX b []) a (s + 1)) (em_two (gd := fun i j => .int (i + j)) (A := fun i c => i = 1 ∧ c = MC (lX b []) a s) (B := fun i j c => i = 1 ∧ (0 ≤ j ∧ j ≤ 3) ∧ c = MC (lX b []) a (s + 1)) (em_ee' ee_int ok_ML ⟨1, rfl, rfl, rfl⟩) (fun i c ⟨e1, e2⟩ => ?_) (fun i j H => .int _) fun i j c ⟨e, p, e2⟩ => by subst e; exact ⟨1 + j, rfl, by omega, e2⟩) fun i c h => by omega)
      (fun i r c => ∃ qs s', s' ≤ s + 1 + 60 * i ∧ G qs ∧ qs.length = i ∧ r = RA b ∧ c = MC (lX b (qs.map pD)) a s') fun ds c ⟨j, e1, ⟨j0, j1⟩, e2⟩ => ?_
    · subst e1 e2
      refine em_weak (em_cal (R := R_of) (X := lX b []) (bs := [b]) (k := 1) (P := fun x => ∃ y ∈ [0, 0, 0, 1, 1, 2, 3].map PyData.int, x = .d y) rfl (ea_cons (ee_lst (ds := [0, 0, 0, 1, 1, 2, 3].map PyData.int) ?_ (by decide)) ea_nil) ⟨_, rfl, by decide, by decide, rfl, rfl⟩ (by omega) (ok_lX b []) nab inA sub) fun x c ⟨⟨y, hy, e1⟩, e2⟩ => ?_
      · repeat' (first | exact ee_int | exact ea_nil | exact ee_var rfl | refine ee_tup ?_ ?_ | refine ea_cons ?_ ?_ | exact Nat.le_of_ble_eq_true rfl)
      · obtain ⟨z, hz, rfl⟩ := List.mem_map.mp hy
        refine ⟨z, e1, rfl, ?_, e2⟩
        simp only [List.mem_cons, List.not_mem_nil, or_false] at hz
        omega
    · subst e1 e2
      refine ⟨⟨[], s + 1, by omega, fun q hq => (nomatch hq), rfl, rfl, rfl⟩, fun i d r c hd ⟨qs, s', hs', hq, hl, er, ec⟩ => ?_, fun r c ⟨qs, s', hs', hq, hl, er, ec⟩ => ?_⟩
      · subst er ec
        obtain ⟨hi, rfl⟩ := rngD_of hd
        have hi : i < 4 := by omega
        refine ⟨ok_ML, _, _, ge_name, so_weak (P := fun r c => Le (RA b) r ∧ ∃ qs s', s' ≤ s + 1 + 60 * (i + 1) ∧ G qs ∧ qs.length = i + 1 ∧ c = MC (lX b (qs.map pD)) a s') ?_ fun r c ⟨l, qs, s', x1, x2, x3, x4⟩ => ⟨RA b, l, qs, s', x1, x2, x3, rfl, x4⟩⟩
        refine so_seq (P := fun r c => ∃ q : Poly, r = [some (.a a), some (.d (fD p n)), some (iv 4), some (.a b), some (iv (0 + (i : Int))), some (.d (pD q)), none, none] ∧ PolyOk p n q ∧ q.length ≤ 10 ∧ c = MC (lX b (qs.map pD)) a (s' + 60)) ?_ fun r c ⟨q, er, hq1, hq2, ec⟩ => ?_
        · refine so_asg (em_cal (R := R_sheet) (X := lX b (qs.map pD)) (bs := [b]) (k := 60) (P := SheetP p n) rfl (ea_cons (ee_var rfl) (ea_cons ee_int (ea_cons (ee_var rfl) ea_nil))) ⟨p, n, rfl, hF, rfl, rfl⟩ (by omega) (ok_lX b _) nab inA sub) fun x c ⟨⟨q, x1, x2, x3⟩, x4⟩ => ⟨q, by subst x3; rfl, x1, x2, x4⟩
        · subst er ec
          refine so_seq (P := fun r c => ∃ q : Poly, Le [some (.a a), some (.d (fD p n)), some (iv 4), some (.a b), none, some (.d (pD q)), none, none] r ∧ PolyOk p n q ∧ 1 ≤ degK q ∧ c = MC (lX b (qs.map pD)) a (s' + 60)) ?_ fun r c ⟨q, er, hq1, hq2, ec⟩ => ?_
          · refine so_if (emb_ev (eb_test (ee_lt (ee_cal (ea_cons (ee_var rfl) ea_nil) ⟨q, _, rfl, sv_t _, by omega, rfl⟩) ee_int)) ok_ML) (fun c ⟨hb, ec⟩ => ?_) fun c ⟨hb, ec⟩ => ?_
            · subst ec
              obtain ⟨k1, k2, k3⟩ := e1K_ok h1 h4
              refine so_weak (so_sn (sn_seq (sn_asg (x := .d (keyD (e1K n))) (ee_tupOf (ee_is (ee_lcm (List.range n) (fun (k : Nat) => .int (0 + (k : Int))) (fun k => .int (if (0 + ((k : Nat) : Int)) = 0 then 1 else 0)) ?_ (by simp; omega) fun k hk => ⟨_, _, ge_name, by decide, ee_is (ee_intB (ee_eqI (ee_var rfl) ee_int)) (by simp)⟩) (by simp [e1K])))) (sn_asg (x := .d (pD [(e1K n, 1)])) (ee_tup (ds := [tD (e1K n, 1)]) (ea_cons (ee_tup (ds := [keyD (e1K n), .int 1]) (ea_cons (ee_var rfl) (ea_cons ee_int ea_nil)) (by simp)) ea_nil) (by simp)))) ok_ML) fun r c ⟨er, ec⟩ => ⟨r, Le.refl r, [(e1K n, 1)], ?_, ⟨fun t ht => ?_, fun i x y hx hy => ?_, by simp⟩, by rw [k3]; decide, ec⟩
              · rw [← rngD_map]
                exact wi_rng1 (ea_cons (ee_n (ee_var rfl)) ea_nil) (by omega) (by omega)
              · subst er
                exact (.cons (.inr rfl) (.cons (.inr rfl) (.cons (.inr rfl) (.cons (.inr rfl) (.cons (.inl rfl) (.cons (.inr rfl) (.cons (.inl rfl) (.cons (.inl rfl) .nil))))))))
              · rw [List.mem_singleton.mp ht]
                exact ⟨⟨k1, k2⟩, Int.le_refl 1, by show (1 : Int) ≤ _; omega⟩
              · simp at hy
            · subst ec
              have hb := of_decide_eq_false hb.symm
              exact so_next ⟨q, (.cons (.inr rfl) (.cons (.inr rfl) (.cons (.inr rfl) (.cons (.inr rfl) (.cons (.inl rfl) (.cons (.inr rfl) (.cons (.inl rfl) (.cons (.inl rfl) .nil)))))))), hq1, by omega, rfl⟩
          · subst ec
            refine so_pre er (so_append (C := MOk a (s' + 60)) (PV := is2 (.d (pD q)) (lC b (qs.map pD) (MOk a (s' + 60)))) (fun m => nba (List.mem_singleton.mp m)) rfl (em_ee (ee_var rfl) (ok_ML (b := b) (s := s' + 60))) (ok_MOk (by simp) _) fun x c ⟨ex, ec⟩ => ⟨pD q, MOk a (s' + 60), ex, ec, ok_MOk (by simp) _, by rw [List.length_map]; omega, (.cons (.inr rfl) (.cons (.inr rfl) (.cons (.inr rfl) (.cons (.inr rfl) (.cons (.inl rfl) (.cons (.inl rfl) (.cons (.inl rfl) (.cons (.inl rfl) .nil)))))))), qs ++ [q], s' + 60, by omega, fun y hy => ?_, by simp [hl], by rw [List.map_append]; rfl⟩)
            obtain hy | hy := List.mem_append.mp hy
            · exact hq y hy
            · rw [List.mem_singleton.mp hy]
              exact ⟨hq1, hq2⟩
      · subst er ec
        rw [rngD_len] at hs' hl
        exact ⟨rfl, qs, s', by omega, hq, by omega, by omega, rfl⟩
  · subst e1 e2
    exact ⟨rfl, qs.map pD, MOk a s', rfl, ok_MOk (by simp) s', srm_one (srm_ret (em_ee' (x := .d (sD qs)) (ee_tupOf (ee_var rfl)) (ok_MOk (by simp) s') ⟨⟨qs, ⟨fun q h => (hq q h).1, fun q h => (hq q h).2, l1, l4⟩, rfl⟩, s', hs', (MC_noC a s').symm⟩))⟩
end
end Pz
namespace Pz
open PySem PySem.Spec PyProof.Rows L2 Evl StX
/-- some key has a sum of one at least -/
def HasLow (q : Poly) : Prop := ∃ k ∈ q.map (·.1), 1 ≤ k.sum
theorem HasLow.put {q : Poly} {k : List Int} {v : Int} (h : HasLow q) : HasLow (put q k v) := by
  obtain ⟨x, hx, h1⟩ := h
  refine ⟨x, ?_, h1⟩
  rw [put_fst]
  split
  · exact hx
  · exact List.mem_append_left _ hx
theorem HasLow.new {q : Poly} {k : List Int} {v : Int} (h : 1 ≤ k.sum) : HasLow (Pz.put q k v) := by
  refine ⟨k, ?_, h⟩
  rw [put_fst]
  split
  · assumption
  · simp
theorem HasLow.deg {q : Poly} (h : HasLow q) : 1 ≤ degK (sheetK q) := by
  obtain ⟨k, hk, h1⟩ := h
  have hp := List.mergeSort_perm (q.map (·.1)) leK
  have m : (k, (look q k).getD 0) ∈ sheetK q := List.mem_map.mpr ⟨k, hp.mem_iff.mpr hk, rfl⟩
  exact Int.le_trans h1 (degK_ge m)
theorem srm_ownD2 {as : List Addr} {ρ : Env1} {C : CP} {t1 t2 u : TS} {i : Nat} {PE : EV → CP → Prop} {PS1 : Addr → Env1 → CP → Prop} (ck : CPok as C) (h2 : ∀ b, b ∉ as → SO (b :: as) (tSeq t1 t2) (ρ.set i (some (.a b))) (dC b [] C) (PS1 b))
    (h3 : ∀ b r c, PS1 b r c → r[i]? = some (some (.a b)) ∧ ∃ kvs c0, c = dC b kvs c0 ∧ CPok as c0 ∧ SRM as u (r.set i (some (.t kvs))) c0 PE) : SRM as (tSeq (tAsg tDNewT (gName i)) (tSeq t1 (tSeq t2 u))) ρ C PE := srm_ownD (t := tSeq t1 t2) ck h2 h3
theorem emb_eqI {as : List Addr} {ρ : Env1} {C : CP} {ta tb : TE} {A : Int → CP → Prop} {k : Int} (ha : EM as ta ρ C (fun x c => ∃ i, x = iv i ∧ A i c)) (hc : ∀ i c, A i c → CPok as c) (hb : EvE tb ρ (iv k)) : EMB as (tTest (tOp rEq ta tb)) ρ C (fun b c => ∃ i, A i c) := fun σ H d w o cc en Q q =>
  emb_eq ha hc hb σ H d w o cc en Q fun b c H' ⟨i, _, h⟩ => q b c H' ⟨i, h⟩
section
variable {w : World} {P : Program} {mg : Str → Option Value} {K : PySem.W.Frag} {base : Heap}
abbrev s_low : Stmt := topP 56
theorem sc_low : FnScope ["m", "frame", "found", "turn", "a", "b", "key", "k"] ["m", "frame"] (defScope s_low) := ⟨rfl, rfl, rfl, by decide +kernel, rfl, by decide +kernel, by decide +kernel⟩
def LowP (p n : Nat) (x : EV) : Prop := ∃ q : Poly, PolyOk p n q ∧ 1 ≤ degK q ∧ x = .d (pD q)
def R_low : List EV → (EV → Prop) → Nat → Prop := fun xs P k => ∃ p n : Nat, xs = [.d (fD p n)] ∧ Fld p n ∧ P = LowP p n ∧ k = 20
theorem ok_low (T : Txt K mg) (D : DefAt K mg "_law_low_sheet" s_low ["m", "frame"]) (O_draw : Ok P w K mg base "_law_draw" 1 (spM R_draw)) : Ok P w K mg base "_law_low_sheet" 2 (spM R_low) := by
  refine ok_srM D sc_low (fun xs Pp k h => by obtain ⟨p, n, rfl, _⟩ := h; rfl) fun f cd A out s H hG hr => ?_
  have hu := hu_of hr
  refine ⟨_, pss_cons (ps_set (i := 2) sc_low.nd rfl (Or.inr rfl) (pe_dnewT)) (pss_cons (ps_for PassesOwn.never rfl (pi_range1 (by rfl) T.m_range (pa_cons (pe_op op_add (pe_int) (pe_ok O_draw hG (hr.mono (by decide)) (by rfl) (pa_cons (pv 0) (pa_cons (pe_int) pa_nil)))) pa_nil)) (pg_name (i := 3) sc_low.nd rfl (Or.inl rfl)) (pss_cons (ps_asg (pe_tup (pa_cons (pe_ok O_draw hG (hr.mono (by decide)) (by rfl) (pa_cons (pv 0) (pa_cons (pe_ix (ix_seqK (K := K) rfl) (pv 1) (pe_int) (fun _ _ => rfl)) pa_nil))) (pa_cons (pe_ok O_draw hG (hr.mono (by decide)) (by rfl) (pa_cons (pv 0) (pa_cons (pe_op op_mul (pe_int) (pe_ix (ix_seqK (K := K) rfl) (pv 1) (pe_int) (fun _ _ => rfl))) pa_nil))) pa_nil))) (pg_tupK (K := K) (n := 2) rfl rfl (pgs_cons (pg_name (i := 4) sc_low.nd rfl (Or.inr rfl)) (pgs_cons (pg_name (i := 5) sc_low.nd rfl (Or.inr rfl)) pgs_nil)))) (pss_cons (ps_set (i := 6) sc_low.nd rfl (Or.inl rfl) (pe_callTy (cr_tupOfK (K := K) rfl) (by rfl) T.m_tuple boot_tuple (pa_cons (pe_lc (own := [("k", 7)]) (tt := tYes) rfl sc_low.nd (pi_range1 (by rfl) T.m_range (pa_cons (pe_ix (ix_seqK (K := K) rfl) (pv 1) (pe_int) (fun _ _ => rfl)) pa_nil)) (blkOk_by (N := ["m", "frame", "found", "turn", "a", "b", "key", "k"]) (sc := defScope s_low) (by decide +kernel)) (fun _ _ _ _ _ => (pg_name (i := 7) sc_low.nd rfl (Or.inl rfl))) (fun _ _ _ _ _ => pts_nil) (fun _ _ _ _ _ => (pe_op op_add (pe_callTy call_int1 (by rfl) T.m_int boot_int (pa_cons (pe_cmpR op_eq (pv 7) (pv 4) (nomark _)) pa_nil)) (pe_callTy call_int1 (by rfl) T.m_int boot_int (pa_cons (pe_cmpR op_eq (pv 7) (pv 5) (nomark _)) pa_nil))))) pa_nil))) (pss_one (ps_dput hu (pv 2) (pv 6) (pe_op op_add (pe_int) (pe_ok O_draw hG (hr.mono (by decide)) (by rfl) (pa_cons (pv 0) (pa_cons (pe_op op_sub (pe_ix (ix_seqK (K := K) rfl) (pv 1) (pe_int) (fun _ _ => rfl)) (pe_int)) pa_nil)))) rfl))))) (pss_cons (ps_if (pt_cmpR op_eq (pe_ok O_draw hG (hr.mono (by decide)) (by rfl) (pa_cons (pv 0) (pa_cons (pe_int) pa_nil))) (pe_int) (nomark _)) (pss_one (ps_dput hu (pv 2) (pe_op op_repA (pe_tup (pa_cons (pe_int) pa_nil)) (pe_ix (ix_seqK (K := K) rfl) (pv 1) (pe_int) (fun _ _ => rfl))) (pe_op op_add (pe_int) (pe_ok O_draw hG (hr.mono (by decide)) (by rfl) (pa_cons (pv 0) (pa_cons (pe_op op_sub (pe_ix (ix_seqK (K := K) rfl) (pv 1) (pe_int) (fun _ _ => rfl)) (pe_int)) pa_nil)))) rfl)) (pss_nil)) (pss_one (ps_ret (pe_callTy (cr_tupOfK (K := K) rfl) (by rfl) T.m_tuple boot_tuple (pa_cons (pe_lc (own := [("key", 6)]) (tt := tYes) rfl sc_low.nd (pi_seqK (K := K) rfl (pe_callB (cr_sortK rfl hr.units) (by rfl) T.m_sorted boot_sorted (pa_cons (pv 2) pa_nil))) (blkOk_by (N := ["m", "frame", "found", "turn", "a", "b", "key", "k"]) (sc := defScope s_low) (by decide +kernel)) (fun _ _ _ _ _ => (pg_name (i := 6) sc_low.nd rfl (Or.inl rfl))) (fun _ _ _ _ _ => pts_nil) (fun _ _ _ _ _ => (pe_tup (pa_cons (pv 6) (pa_cons (pe_dget hu (pv 2) (pv 6) (fun _ _ => rfl)) pa_nil))))) pa_nil)))))), ?_⟩
  rintro a s xs Pp k ⟨p, n, rfl, hF, rfl, rfl⟩ hs
  have h4 := hF.n4
  have h1 := hF.n1
  have h7 := hF.le7
  let RA : Addr → Env1 := fun b => [some (.a a), some (.d (fD p n)), some (.a b), none, none, none, none, none]
  rw [MC_noC]
  refine srm_ownD2 (i := 2) (PS1 := fun b r c => r = RA b ∧ ∃ q s', s' ≤ s + 20 ∧ Good p n 5 q ∧ HasLow q ∧ c = dC b (q.map eI) (MOk a s')) (ok_MOk (by simp) s) (fun b nb => ?_) fun b r c ⟨e1, q, s', hs', hq, hlow, e2⟩ => ?_
  · have nba : b ≠ a := fun z => nb (by simp [z])
    have nab : a ∉ [b] := fun z => nba (List.mem_singleton.mp z).symm
    have inA : a ∈ [b, a] := by simp
    have sub : ∀ x ∈ [b], x ∈ [b, a] := fun x hx => by rw [List.mem_singleton.mp hx]; simp
    refine so_seq (P := fun r c => r = RA b ∧ ∃ q s', s' ≤ s + 13 ∧ Good p n 4 q ∧ HasLow q ∧ c = MC (dX b (q.map eI)) a s') ?_ fun r c ⟨er, q, s', hs', hq, hlow, ec⟩ => ?_
    · refine so_forW (wim_rng (A := fun j c => (1 ≤ j ∧ j ≤ 4) ∧ c = MC (dX b []) a (s + 1)) (em_weak (em_draw1 (many := 4) (X := dX b []) (bs := [b]) rfl ee_int (by omega) (by omega) (by omega) (ok_dX b []) nab inA sub) fun x c ⟨j, e, hj, h⟩ => ⟨1 + j, e, by omega, h⟩) fun i c h => by omega)
        (fun i r c => ∃ q s', s' ≤ s + 1 + 3 * i ∧ Good p n i q ∧ (1 ≤ i → HasLow q) ∧ r = RA b ∧ c = MC (dX b (q.map eI)) a s') fun ds c ⟨j, e1, ⟨j0, j1⟩, e2⟩ => ?_
      subst e1 e2
      refine ⟨⟨[], s + 1, by omega, ⟨fun t ht => (nomatch ht), List.Pairwise.nil, Nat.le_refl _⟩, fun h => by omega, rfl, rfl⟩, fun i d r c hd ⟨q, s', hs', hq, hlw, er, ec⟩ => ?_, fun r c ⟨q, s', hs', hq, hlw, er, ec⟩ => ?_⟩
      · subst er ec
        obtain ⟨hi, rfl⟩ := rngD_of hd
        have hi : i < 4 := by omega
        refine ⟨ok_MD, _, _, ge_name, so_weak (P := fun r c => Le (RA b) r ∧ ∃ q s', s' ≤ s + 1 + 3 * (i + 1) ∧ Good p n (i + 1) q ∧ HasLow q ∧ c = MC (dX b (q.map eI)) a s') ?_ fun r c ⟨l, q, s', x1, x2, x3, x4⟩ => ⟨RA b, l, q, s', x1, x2, fun _ => x3, rfl, x4⟩⟩
        refine so_seq (P := fun r c => ∃ x y : Int, r = [some (.a a), some (.d (fD p n)), some (.a b), some (iv (0 + (i : Int))), some (iv x), some (iv y), none, none] ∧ (0 ≤ x ∧ x < n) ∧ c = MC (dX b (q.map eI)) a (s' + 2)) ?_ fun r c ⟨x, y, er, hx, ec⟩ => ?_
        · refine so_pairM (A := fun x c => (0 ≤ x ∧ x < n) ∧ c = MC (dX b (q.map eI)) a (s' + 1)) (B := fun x y c => (0 ≤ x ∧ x < n) ∧ c = MC (dX b (q.map eI)) a (s' + 1 + 1)) (em_draw rfl (ee_n (ee_var rfl)) (by omega) (by omega) (by omega) (ok_dX b _) nab inA sub) (fun x c ⟨hx, ec⟩ => ?_) fun x y c ⟨hx, ec⟩ => ⟨by subst ec; exact ok_MD, x, y, rfl, hx, ec⟩
          subst ec
          exact em_weak (em_draw (many := 2 * (n : Int)) rfl (ee_mul ee_int (ee_n (ee_var rfl)) (.inl ⟨by decide, by decide⟩)) (by omega) (by omega) (by omega) (ok_dX b _) nab inA sub) fun z c ⟨j, e, _, h⟩ => ⟨j, e, hx, h⟩
        · subst er ec
          obtain ⟨k1, k2, k3⟩ := lowK_ok (y := y) hx
          refine so_seq (so_sn (sn_asg (x := .d (keyD (lowK n x y))) (ee_tupOf (ee_is (ee_lcm (List.range n) (fun (k : Nat) => .int (0 + (k : Int))) (fun k => .int ((if (0 + ((k : Nat) : Int)) = x then 1 else 0) + (if (0 + ((k : Nat) : Int)) = y then 1 else 0))) ?_ (by simp; omega) fun k hk => ⟨_, _, ge_name, by decide, ee_is (ee_add (ee_intB (ee_eqI (ee_var rfl) (ee_var rfl))) (ee_intB (ee_eqI (ee_var rfl) (ee_var rfl)))) (by simp)⟩) (by simp [lowK])))) ok_MD) fun r c ⟨er, ec⟩ => ?_
          · rw [← rngD_map]
            exact wi_rng1 (ea_cons (ee_n (ee_var rfl)) ea_nil) (by omega) (by omega)
          · subst er ec
            refine so_put (C := MOk a (s' + 2)) (PV := fun x c => ∃ j, x = iv (1 + j) ∧ (0 ≤ j ∧ j < (p : Int) - 1) ∧ c = MC (dX b (q.map eI)) a (s' + 2 + 1)) (fun m => nba (List.mem_singleton.mp m)) rfl (em_draw1 (X := dX b (q.map eI)) (bs := [b]) rfl (ee_sub (ee_p (ee_var rfl)) ee_int) (by omega) (by omega) (by omega) (ok_dX b _) nab inA sub) fun z c ⟨j, ex, hj, ec⟩ => ⟨.int (1 + j), lowK n x y, MOk a (s' + 2 + 1), ex, ec, ok_MOk (by simp) _, ee_var rfl, by have := hq.few; rw [List.length_map]; omega, (.cons (.inr rfl) (.cons (.inr rfl) (.cons (.inr rfl) (.cons (.inl rfl) (.cons (.inl rfl) (.cons (.inl rfl) (.cons (.inl rfl) (.cons (.inl rfl) .nil)))))))), put q (lowK n x y) (1 + j), s' + 2 + 1, by omega, hq.put ⟨⟨k1, k2⟩, by show 1 ≤ 1 + j; omega, by show 1 + j ≤ _; omega⟩, HasLow.new k3, ?_⟩
            rw [put_map]
            rfl
      · subst er ec
        rw [rngD_len] at hs' hq hlw
        exact ⟨rfl, q, s', by omega, hq.mono (by omega), hlw (by omega), rfl⟩
    · subst er ec
      have hfew := hq.few
      refine so_if (emb_eqI (A := fun j c => (0 ≤ j ∧ j < 2) ∧ c = MC (dX b (q.map eI)) a (s' + 1)) (em_draw rfl ee_int (by omega) (by omega) (by omega) (ok_dX b _) nab inA sub) (fun j c h => by rw [h.2]; exact ok_MD) ee_int) (fun c ⟨j, _, ec⟩ => ?_) fun c ⟨j, _, ec⟩ => ?_
      · subst ec
        have hrep : ∀ e ∈ List.replicate n (0 : Int), 0 ≤ e ∧ e ≤ 30 := fun e he => by
          rw [(List.mem_replicate.mp he).2]
          decide
        refine so_put (C := MOk a (s' + 1)) (PV := fun x c => ∃ j, x = iv (1 + j) ∧ (0 ≤ j ∧ j < (p : Int) - 1) ∧ c = MC (dX b (q.map eI)) a (s' + 1 + 1)) (fun m => nba (List.mem_singleton.mp m)) rfl (em_draw1 (X := dX b (q.map eI)) (bs := [b]) rfl (ee_sub (ee_p (ee_var rfl)) ee_int) (by omega) (by omega) (by omega) (ok_dX b _) nab inA sub) fun z c ⟨j, ex, hj, ec⟩ => ⟨.int (1 + j), List.replicate n 0, MOk a (s' + 1 + 1), ex, ec, ok_MOk (by simp) _, ee_is (ee_repT (ds := [.int 0]) (ee_tup (ea_cons ee_int ea_nil) (by simp)) (ee_n (ee_var rfl)) (by omega) (by omega) (by simp) (by simp)) (by simp [keyD]), by rw [List.length_map]; omega, rfl, put q (List.replicate n 0) (1 + j), s' + 1 + 1, by omega, hq.put ⟨⟨by simp, hrep⟩, by show 1 ≤ 1 + j; omega, by show 1 + j ≤ _; omega⟩, hlow.put, by rw [put_map]⟩
      · subst ec
        exact so_next ⟨rfl, q, s' + 1, by omega, hq.mono (by omega), hlow, rfl⟩
  · subst e1 e2
    refine ⟨rfl, q.map eI, MOk a s', rfl, ok_MOk (by simp) s', ?_⟩
    have hk : ∀ k ∈ q.map (·.1), k.length = n := fun k hk => by
      obtain ⟨t, ht, rfl⟩ := List.mem_map.mp hk
      exact (hq.terms t ht).key.len
    have hfew := hq.few
    have hp := List.mergeSort_perm (q.map (·.1)) leK
    refine srm_one (srm_ret (em_ee' (x := .d (pD (sheetK q))) (ee_tupOf (ee_is (ee_lcm ((q.map (·.1)).mergeSort leK) keyD (fun k => tD (k, (look q k).getD 0)) (wi_seq (ee_sortK (q := q) (ee_var rfl) (sortOk_keyD n h1 hk (by rw [List.length_map]; omega))) (sv_l _)) (by rw [List.length_mergeSort, List.length_map]; omega) fun k hk2 => ?_) ?_)) (ok_MOk (by simp) s') ⟨⟨sheetK q, sheetK_ok hq (by omega), hlow.deg, rfl⟩, s', hs', (MC_noC a s').symm⟩))
    · obtain ⟨v, h1, h2⟩ := look_mem (hp.mem_iff.mp hk2)
      refine ⟨_, _, ge_name, by decide, ee_tup (ds := [keyD k, .int ((look q k).getD 0)]) (ea_cons (ee_var rfl) (ea_cons (ee_dget (kvs := q.map eI) (ee_var rfl) (ee_var rfl) ?_) ea_nil)) (by simp)⟩
      rw [look_map, h1]
      rfl
    · simp [sheetK]
end
end Pz
namespace Pz
open PySem PySem.Spec PyProof.Rows L2 Evl StX
theorem mk_eq (left seed spot : Int) (c : Addr) : mergeK [] [(kS "left", V.int left), (kS "seed", V.int seed), (kS "cells", V.ref c), (kS "spot", V.int spot)] = mK left seed c spot := by
  have e1 : ¬ kS "left" = kS "seed" := n_ls
  have e2 : ¬ kS "left" = kS "cells" := n_lc
  have e3 : ¬ kS "left" = kS "spot" := n_lp
  have e4 : ¬ kS "seed" = kS "cells" := n_sc
  have e5 : ¬ kS "seed" = kS "spot" := n_sp
  have e6 : ¬ kS "cells" = kS "spot" := n_cp
  unfold mergeK mK
  simp only [List.foldl_cons, List.foldl_nil, putK, List.any_nil, List.any_cons, List.any_append, Bool.or_false, decide_eq_false e1, decide_eq_false e2, decide_eq_false e3, decide_eq_false e4, decide_eq_false e5, decide_eq_false e6, Bool.false_eq_true, if_false, List.nil_append, List.cons_append]
def cutI (ns : List Int) (lo hi : Option Int) : List Int := (ns.drop (HT.sIx ns.length 0 lo)).take (HT.sIx ns.length ns.length hi - HT.sIx ns.length 0 lo)
theorem cutI_map (ns : List Int) (lo hi : Option Int) : cutV (ns.map V.int) lo hi = (cutI ns lo hi).map V.int := by
  unfold cutV cutI
  rw [List.length_map, List.map_take, List.map_drop]
theorem cutI_len (ns : List Int) (lo hi : Option Int) : (cutI ns lo hi).length ≤ ns.length := by
  unfold cutI
  rw [List.length_take, List.length_drop]; omega
def seedK (k : Int) (l : List Int) : Int := l.foldl (fun s c => (s * 48271 + c) % 2147483647) (59 + k)
theorem seedK_ok {k : Int} (h0 : 0 ≤ k) (h1 : k ≤ 100) : ∀ l, 0 ≤ seedK k l ∧ seedK k l < 2147483647 := by
  have : ∀ (l : List Int) (s : Int), 0 ≤ s → s < 2147483647 → 0 ≤ l.foldl (fun s c => (s * 48271 + c) % 2147483647) s ∧ l.foldl (fun s c => (s * 48271 + c) % 2147483647) s < 2147483647 := by
    intro l
    induction l with
    | nil => exact fun s a b => ⟨a, b⟩
    | cons c l ih => exact fun s _ _ => ih _ (Int.emod_nonneg _ (by decide)) (Int.emod_lt_of_pos _ (by decide))
  exact fun l => this l _ (by omega) (by omega)
theorem shaped_ints (l : List Int) : SeqAt.shaped (lD l) = true := by
  have h1 : ∀ l : List Int, PyData.canLayAll0 (l.map .int) = true := fun l => by
    induction l with
    | nil => rfl
    | cons a l ih => simp [PyData.canLayAll0, PyData.canLay0, ih]
  unfold SeqAt.shaped
  simp [PyData.canLay0, PyData.depth, h1, depth_ints]
abbrev noH : Hid := fun _ => false
section
variable {w : World} {P : Program} {mg : Str → Option Value} {K : PySem.W.Frag} {base : Heap}
abbrev s_begun : Stmt := topP 44
theorem sc_begun : FnScope ["script", "k", "cells", "great", "seed", "cell"] ["script", "k"] (defScope s_begun) := ⟨rfl, rfl, rfl, by decide +kernel, rfl, by decide +kernel, by decide +kernel⟩
def sp_begun (K : PySem.W.Frag) : SpF := fun vs H Q => ∃ (a : Addr) (ns : List Int) (k : Nat), vs = [.ref a, .int (k : Int)] ∧ SqL K H a (ns.map V.int) ∧ ns.length ≤ 63 ∧ k ≤ 100 ∧ ∀ v H', Ex H H' → (∃ p, v = .ref p ∧ H p = none ∧ MOk p 0 (hide H' (hid1 noH p)) H') → Q v H'
theorem ee_ge {ta tb : TE} {ρ : Env1} {a b : Int} (ha : EvE ta ρ (iv a)) (hb : EvE tb ρ (iv b)) : EvE (tOp (rI0 fun i j => .bl (decide (j ≤ i))) ta tb) ρ (bv (decide (b ≤ a))) := ee_op0 ha hb fun _ => .bl _
theorem ok_begun (T : Txt K mg) (D : DefAt K mg "_law_begun" s_begun ["script", "k"]) : Ok P w K mg base "_law_begun" 1 (sp_begun K) := by
  refine ok_of D sc_begun (fun vs H Q h => ?_) fun f cd A out s H vs Q hG hr h => ?_
  · obtain ⟨a, ns, k, rfl, _⟩ := h; rfl
  have hu := hu_of hr
  refine ⟨_, pss_cons (ps_set (i := 2) sc_begun.nd rfl (Or.inl rfl) (pe_op op_cat (pe_slice (sl_listK (K := K) rfl) (pv 0) (po_some (pv 1)) po_none) (pe_slice (sl_listK (K := K) rfl) (pv 0) po_none (po_some (pv 1))))) (pss_cons (ps_setLc (i := 3) (own := [("cell", 5)]) rfl sc_begun.nd rfl rfl (sw_true rfl rfl rfl (by decide +kernel)) (pi_seqK (K := K) rfl (pv 2)) (blkOk_by (N := ["script", "k", "cells", "great", "seed", "cell"]) (sc := defScope s_begun) (by decide +kernel)) (fun _ _ _ _ _ => (pg_name (i := 5) sc_begun.nd rfl (Or.inl rfl))) (fun _ _ _ _ _ => pts_one (pt_cmpR op_ge (pv 5) (pe_op op_pow (pe_int) (pe_int)) (nomark _))) (fun _ _ _ _ _ => (pv 5))) (pss_cons (ps_set (i := 4) sc_begun.nd rfl (Or.inl rfl) (pe_op op_add (pe_int) (pv 1))) (pss_cons (ps_for PassesOwn.never rfl (pi_seqK (K := K) rfl (pv 2)) (pg_name (i := 5) sc_begun.nd rfl (Or.inl rfl)) (pss_one (ps_set (i := 4) sc_begun.nd rfl (Or.inl rfl) (pe_op op_mod (pe_callTy call_int1 (by rfl) T.m_int boot_int (pa_cons (pe_op op_add (pe_op op_mul (pv 4) (pe_int)) (pv 5)) pa_nil)) (pe_int))))) (pss_one (ps_ret (pe_disp (pps_cons (pe_str) (pe_ifExp (pt_cmpR (op_neDK (K := K) rfl hr.units) (pv 3) (pe_lst pa_nil) (nomark _)) (pe_ix (ix_seqK (K := K) rfl) (pv 3) (pe_int) (fun _ _ => rfl)) (pe_int)) (pps_cons (pe_str) (pv 4) (pps_cons (pe_str) (pe_op op_cat (pv 2) (pe_lst (pa_cons (pe_op op_add (pe_op op_mul (pe_int) (pv 1)) (pe_int)) pa_nil))) (pps_cons (pe_str) (pe_int) pps_nil)))) rfl rfl (by simp) (by decide))))))), ?_⟩
  obtain ⟨a, ns, k, rfl, hS, hl, hk, q⟩ := h
  refine ⟨_, rfl, _, rfl, (k : Int), rfl, a, _, rfl, hS, fun p1 hp1 => ⟨_, rfl, _, rfl, (k : Int), rfl, a, _, rfl, ex_l (Ex.new hp1) hS, fun p2 hp2 => ?_⟩⟩
  rw [cutI_map, cutI_map]
  rw [cutI_map] at hp2
  let zs : List Int := cutI ns (some (k : Int)) none ++ cutI ns none (some (k : Int))
  have hz : zs.length ≤ 126 := by
    have h1 := cutI_len ns (some (k : Int)) none
    have h2 := cutI_len ns none (some (k : Int))
    simp only [zs, List.length_append]
    omega
  refine ⟨p1, p2, _, _, rfl, rfl, (by rw [upd_ne (by rintro rfl; rw [upd_same] at hp2; cases hp2)]; exact upd_same), upd_same, ?_, fun p3 hp3 => ?_⟩
  · rw [List.length_map, List.length_map]
    have h1 := cutI_len ns (some (k : Int)) none
    have h2 := cutI_len ns none (some (k : Int))
    rw [sizeLine_eq]
    omega
  rw [← List.map_append]
  let H3 : Hp := upd (upd (upd H p1 (.lst ((cutI ns (some (k : Int)) none).map V.int))) p2 (.lst ((cutI ns none (some (k : Int))).map V.int))) p3 (.lst (zs.map V.int))
  have x3 : Ex H H3 := ((Ex.new hp1).trans (Ex.new hp2)).trans (Ex.new hp3)
  let gs : List Int := zs.filter fun c => decide (1000000000000000000 ≤ c)
  have dz : Dh (hide H3 noH) (.ref p3) (lD zs) := .lst (hide_of upd_same rfl) (dha_ints zs)
  have en3 : Envs (hide H3 noH) ((L2.start ["script", "k", "cells", "great", "seed", "cell"] [.ref a, .int (k : Int)]).set 2 (some (.ref p3))) [none, some (iv (k : Int)), some (.d (lD zs)), none, none, none] :=
    .cons (fun x e => nomatch e) (.cons (fun x e => by cases e; exact ⟨_, rfl, .int _⟩) (.cons (fun x e => by cases e; exact ⟨_, rfl, dz⟩) (.cons (fun x e => nomatch e) (.cons (fun x e => nomatch e) (.cons (fun x e => nomatch e) .nil)))))
  have w3 : Vw noH H3 := vw_none H3
  -- great = [cell for cell in cells if cell >= 10 ** 18]
  refine (sn_asg (x := .d (lD gs)) (ee_is (ee_lc zs (fun c => .int c) (fun c => decide (1000000000000000000 ≤ c)) (fun c => .int c) (wi_seq (ee_var (i := 2) rfl) (sv_l _)) (by omega) fun c hc => ⟨_, _, ge_name, by decide, eb_is (eb_test (ee_ge (ee_var rfl) (ee_pow ee_int ee_int ⟨by decide, by decide, by decide⟩))) (by simp), fun _ => ee_var rfl⟩) rfl)) _ _ H3 noH w3 en3 fun σ4 H4 x4 en4 => ?_
  -- seed = 59 + k
  refine (sn_asg (x := iv (seedK (k : Int) [])) (ee_add ee_int (ee_var rfl))) _ σ4 H4 noH (w3.mono x4) en4 fun σ5 H5 x5 en5 => ?_
  have w5 := (w3.mono x4).mono x5
  refine (sn_forM zs (fun c => .int c) (fun i => [none, some (iv (k : Int)), some (.d (lD zs)), some (.d (lD gs)), some (iv (seedK (k : Int) (zs.take i))), none]) (wi_seq (ee_var (i := 2) rfl) (sv_l _)) (.cons (.inl rfl) (.cons (.inr rfl) (.cons (.inr rfl) (.cons (.inr rfl) (.cons (.inr rfl) (.cons (.inl rfl) .nil)))))) fun i c hc => ?_) _ σ5 H5 noH w5 en5 fun σ6 H6 x6 en6 => ?_
  · refine ⟨_, _, _, ge_name, sn_one (sn_asg (ee_mod (ee_int1 (ee_add (ee_mul (ee_var rfl) ee_int (.inr ⟨by decide, by decide⟩)) (ee_var rfl))) ee_int (by decide))), .cons (.inr rfl) (.cons (.inr rfl) (.cons (.inr rfl) (.cons (.inr rfl) (.cons (.inr ?_) (.cons (.inl rfl) .nil)))))⟩
    have tk : zs.take (i + 1) = zs.take i ++ [c] := by rw [List.take_add_one, hc]; rfl
    rw [tk]
    simp [seedK, List.foldl_append]
  rw [List.take_length] at en6
  have w6 := w5.mono x6
  have x06 : Ex H H6 := ((x3.trans x4).trans x5).trans x6
  have hsd := seedK_ok (k := (k : Int)) (by omega) (by omega) zs
  -- the dict
  refine fun p hp => ?_
  have hpH : H p = none := by
    cases z : H p with
    | none => rfl
    | some o => rw [x06 p o z] at hp; cases hp
  have e0 : Ex H6 (upd H6 p (.dK [])) := Ex.new hp
  have s0 := hide1_new (d := noH) hp e0
  have w7 : Vw (hid1 noH p) (upd H6 p (.dK [])) := (w6.mono e0).one upd_same nofun
  let left : Int := gs.headD 0
  have hleft : 0 ≤ left := by
    show 0 ≤ gs.headD 0
    cases hg : gs with
    | nil => exact Int.le_refl 0
    | cons x l =>
      have : x ∈ gs := by rw [hg]; simp
      have := of_decide_eq_true (List.mem_filter.mp this).2
      show 0 ≤ x
      omega
  refine (ee_if (x := iv left) (eb_test (ee_neD (ee_var (i := 3) rfl) (ee_lst (ds := []) ea_nil (by simp)) (shaped_ints gs) rfl)) (fun h => ee_ix (n := 0) (ee_var (i := 3) rfl) (sv_l _) ee_int ?_) (fun h => ee_is ee_int ?_) : EvE _ [none, some (iv (k : Int)), some (.d (lD zs)), some (.d (lD gs)), some (iv (seedK (k : Int) zs)), none] (iv left)) σ6 _ (hid1 noH p) w7 (en6.mono s0) _ fun v1 H7 y1 d1 => ?_
  · show (gs.map PyData.int)[0]? = some (.int (gs.headD 0))
    cases hg : gs with
    | nil => rw [hg] at h; exact absurd h (by decide)
    | cons x l => rfl
  · show iv 0 = iv (gs.headD 0)
    cases hg : gs with
    | nil => rfl
    | cons x l => rw [hg] at h; exact absurd h (by simp [PyData.eqv, PyData.eqvAll])
  cases d1
  obtain ⟨v2, hv2, d2⟩ := ((en6.mono s0).mono (exh (d := hid1 noH p) y1)).get (i := 4) (x := iv (seedK (k : Int) zs)) rfl
  cases d2
  refine ⟨_, hv2, ?_⟩
  refine (ee_cat (ee_var (i := 2) rfl) (ee_lst (ds := [.int (43 * (k : Int) + 13)]) (ea_cons (ee_add (ee_mul ee_int (ee_var (i := 1) rfl) (.inl ⟨by decide, by decide⟩)) ee_int) ea_nil) (by simp)) (by simp; omega) : EvE _ _ (.d (.list (zs.map .int ++ [.int (43 * (k : Int) + 13)])))) σ6 H7 (hid1 noH p) (w7.mono y1) ((en6.mono s0).mono (exh y1)) _ fun v3 H9 y3 d3 => ?_
  have y13 := y1.trans y3
  have hpp : H9 p = some (.dK []) := y13 _ _ upd_same
  have d3' : Dh (hide H9 (hid1 noH p)) v3 (.list (zs.map .int ++ [.int (43 * (k : Int) + 13)])) := d3
  cases d3' with
  | @lst c xs _ hc tc =>
    have exs : xs = (zs ++ [43 * (k : Int) + 13]).map V.int := DhA.ints (by rw [List.map_append]; exact tc)
    subst exs
    refine ⟨hpp, [(kS "left", .int left), (kS "seed", .int (seedK (k : Int) zs)), (kS "cells", .ref c), (kS "spot", .int 0)], rfl, by simp, ?_⟩
    rw [mk_eq]
    refine q _ _ (Ex.mut (x06.trans (e0.trans y13)) hpH) ⟨p, rfl, hpH, left, seedK (k : Int) zs, 0, c, zs ++ [43 * (k : Int) + 13], upd_same, hleft, hsd, ⟨by decide, by decide⟩, ?_, by simp⟩
    rw [hide1_upd]
    exact hc
end
end Pz
namespace Pz
open PySem PySem.Spec PyProof.Rows L2 Evl StX
section
variable {K : PySem.W.Frag} {as : List Addr} {ρ : Env1} {C : CP} {tt : TT} {t : TS} {P : Env1 → CP → Prop}
/-- an if that is not taken -/
theorem so_pass (h : EMB as tt ρ C (fun b c => b = false ∧ P ρ c)) : SO as (tIfS tt t tNext) ρ C P := so_if h (fun c ⟨z, _⟩ => nomatch z) fun c ⟨_, p⟩ => so_next p
end
section
variable {K : PySem.W.Frag} {as : List Addr} {ρ : Env1} {C : CP} {tt : TT} {t : TS} {P : Env1 → CP → Prop}
theorem so_passN (h : EMB as tt ρ C (fun b c => b = true ∧ P ρ c)) : SO as (tIfS (tNot tt) t tNext) ρ C P := so_pass fun σ H d w o cc en Q q => emb_not h σ H d w o cc en Q fun b c H' ⟨e, p⟩ => q b c H' ⟨by simpa using e, p⟩
end
section
variable {w : World} {P : Program} {mg : Str → Option Value} {K : PySem.W.Frag} {base : Heap}
def lowFrames : List (Nat × Nat) := [(2, 3), (2, 4), (3, 3), (3, 4), (5, 3)]
theorem lowFrames_ok : lowFrames.all (fun f => fldB f.1 f.2 && decide (f.1 ^ f.2 ≤ 125)) = true := by decide +kernel
abbrev s_law : Stmt := topP 61
theorem sc_law : FnScope ["script", "k", "m", "frame", "turn"] ["script"] (defScope s_law) := ⟨rfl, rfl, rfl, by decide +kernel, rfl, by decide +kernel, by decide +kernel⟩
def sp_law (K : PySem.W.Frag) : SpF := fun vs H Q => ∃ (a : Addr) (ns : List Int), vs = [.ref a] ∧ SqL K H a (ns.map V.int) ∧ ns.length ≤ 63 ∧ ∀ H', Q (.bl true) H'
theorem ok_law (T : Txt K mg) (D : DefAt K mg "law" s_law ["script"]) (O_begun : Ok P w K mg base "_law_begun" 1 (sp_begun K)) (O_frame : Ok P w K mg base "_law_frame" 3 (spM R_frame)) (O_sheets : Ok P w K mg base "_law_sheets" 3 (spM R_sheets)) (O_right : Ok P w K mg base "_law_right" 8 (spD R_right))
    (O_of : Ok P w K mg base "_law_of" 2 (spM R_of)) (O_low : Ok P w K mg base "_law_low_sheet" 2 (spM R_low)) (O_draw : Ok P w K mg base "_law_draw" 1 (spM R_draw)) (O_hand : Ok P w K mg base "_law_hand_right" 9 (spD R_hand)) : Ok P w K mg base "law" 10 (sp_law K) := by
  refine ok_of D sc_law (fun vs H Q h => ?_) fun f cd A out s H vs Q hG hr h => ?_
  · obtain ⟨a, ns, rfl, _⟩ := h
    rfl
  refine ⟨_, pss_cons (ps_for PassesOwn.never rfl (pi_range1 (by rfl) T.m_range (pa_cons (pe_op op_add (pe_int) (pe_callB (call_min2 rfl) (by rfl) T.m_min boot_min (pa_cons (pe_callB (cr_lenK (K := K) rfl) (by rfl) T.m_len boot_len (pa_cons (pv 0) pa_nil)) (pa_cons (pe_int) pa_nil)))) pa_nil)) (pg_name (i := 1) sc_law.nd rfl (Or.inl rfl)) (pss_cons (ps_set (i := 2) sc_law.nd rfl (Or.inr rfl) (pe_ok O_begun hG (hr.mono (by decide)) (by rfl) (pa_cons (pv 0) (pa_cons (pv 1) pa_nil)))) (pss_cons (ps_set (i := 3) sc_law.nd rfl (Or.inr rfl) (pe_ok O_frame hG (hr.mono (by decide)) (by rfl) (pa_cons (pv 2) (pa_cons (pe_int) pa_nil)))) (pss_cons (ps_if (pt_not (pt_val (pe_ok O_right hG (hr.mono (by decide)) (by rfl) (pa_cons (pv 3) (pa_cons (pe_ok O_sheets hG (hr.mono (by decide)) (by rfl) (pa_cons (pv 2) (pa_cons (pv 3) (pa_cons (pe_int) pa_nil)))) pa_nil))))) (pss_one (ps_ret (pe_bl))) (pss_nil)) (pss_cons (ps_set (i := 3) sc_law.nd rfl (Or.inr rfl) (pe_ok O_of hG (hr.mono (by decide)) (by rfl) (pa_cons (pv 2) (pa_cons (pe_lst (pa_cons (pe_tup (pa_cons (pe_int) (pa_cons (pe_int) pa_nil))) (pa_cons (pe_tup (pa_cons (pe_int) (pa_cons (pe_int) pa_nil))) (pa_cons (pe_tup (pa_cons (pe_int) (pa_cons (pe_int) pa_nil))) (pa_cons (pe_tup (pa_cons (pe_int) (pa_cons (pe_int) pa_nil))) (pa_cons (pe_tup (pa_cons (pe_int) (pa_cons (pe_int) pa_nil))) pa_nil)))))) pa_nil)))) (pss_one (ps_if (pt_not (pt_val (pe_ok O_right hG (hr.mono (by decide)) (by rfl) (pa_cons (pv 3) (pa_cons (pe_callTy (cr_tupOfK (K := K) rfl) (by rfl) T.m_tuple boot_tuple (pa_cons (pe_lc (own := [("turn", 4)]) (tt := tYes) rfl sc_law.nd (pi_range1 (by rfl) T.m_range (pa_cons (pe_op op_add (pe_int) (pe_ok O_draw hG (hr.mono (by decide)) (by rfl) (pa_cons (pv 2) (pa_cons (pe_int) pa_nil)))) pa_nil)) (blkOk_by (N := ["script", "k", "m", "frame", "turn"]) (sc := defScope s_law) (by decide +kernel)) (fun _ _ _ _ _ => (pg_name (i := 4) sc_law.nd rfl (Or.inl rfl))) (fun _ _ _ _ _ => pts_nil) (fun _ _ _ _ _ => (pe_ok O_low hG (hr.mono (by decide)) (by rfl) (pa_cons (pv 2) (pa_cons (pv 3) pa_nil))))) pa_nil)) pa_nil))))) (pss_one (ps_ret (pe_bl))) (pss_nil)))))))) (pss_one (ps_ret (pe_ok0 O_hand hG (hr.mono (by decide)) (by rfl)))), ?_⟩
  obtain ⟨a, ns, rfl, hS, hl, q⟩ := h
  have low : ∀ f ∈ lowFrames, Fld f.1 f.2 := fun f hf => by
    have h := List.all_eq_true.mp lowFrames_ok f hf
    rw [Bool.and_eq_true] at h
    exact fld_of h.1
  let R0 : Env1 := [some (.a a), none, none, none, none]
  have en0 : Envs (hide H noH) (L2.start ["script", "k", "m", "frame", "turn"] [.ref a]) R0 := .cons (fun x e => by cases e; exact ⟨_, rfl, rfl⟩) (.cons (fun x e => nomatch e) (.cons (fun x e => nomatch e) (.cons (fun x e => nomatch e) (.cons (fun x e => nomatch e) .nil))))
  have hlen : ((ns.map V.int).length : Int) ≤ 63 := by rw [List.length_map]; omega
  have hlen0 : (0 : Int) ≤ ((ns.map V.int).length : Int) := by omega
  refine ⟨_, rfl, a, _, rfl, .inl hS, _, _, rfl, _, _, rfl, rfl, _, rfl, ?_, ?_, ?_⟩
  · split <;> omega
  · split <;> omega
  refine for_it walk_range (fun i σ' H' => Ex H H' ∧ Envs (hide H' noH) σ' R0) ⟨Ex.refl H, en0⟩ (fun _ _ _ _ _ => trivial) (fun i x σ' G1 G2 hi ⟨x1, en1⟩ y => ?_) fun σ' H' ⟨x1, en1⟩ => ?_
  · obtain ⟨rfl, rfl⟩ := y
    have hi100 : i ≤ 100 := by
      have : i < 70 := Nat.lt_of_lt_of_le hi (by split <;> omega)
      omega
    obtain ⟨va, hva, eva⟩ := en1.get (i := 0) (x := .a a) rfl
    cases eva
    have en2 := en1.set (v := .int (0 + (i : Int))) (x := iv (0 + (i : Int))) (.int _) 1
    obtain ⟨vb, hvb, evb⟩ := en2.get (i := 0) (x := .a a) rfl
    cases evb
    obtain ⟨vc, hvc, evc⟩ := en2.get (i := 1) (x := iv (0 + (i : Int))) rfl
    cases evc
    refine ⟨_, hvb, _, hvc, a, ns, i, by rw [Int.zero_add], ex_l x1 hS, hl, hi100, fun v H2 x2 ⟨p, ev, hp, hm⟩ => ?_⟩
    subst ev
    have hpp : ∃ o, H2 p = some o ∧ ∀ xs, o ≠ .tup xs := by
      obtain ⟨_, _, _, _, _, h, _⟩ := hm
      exact ⟨_, h, nofun⟩
    have w2 : Vw (hid1 noH p) H2 := fun b hb => by
      have : b = p := by simpa [hid1] using hb
      subst this
      exact hpp
    have s2 : Ex (hide G2 noH) (hide H2 (hid1 noH p)) := hide1_new hp x2
    have en3 := (en2.mono s2).set (v := .ref p) (x := .a p) rfl 2
    have oo : ∀ b ∈ [p], hid1 noH p b = true := fun b hb => by rw [List.mem_singleton.mp hb]; exact hid1_self
    have inP : p ∈ [p] := by simp
    have nb : p ∉ ([] : List Addr) := by simp
    have sub : ∀ b ∈ ([] : List Addr), b ∈ [p] := fun b hb => (nomatch hb)
    have key : ∀ {t : TS}, SO [p] t [some (.a a), some (iv (0 + (i : Int))), some (.a p), none, none] (MC noC p 0) (fun r c => Le R0 r) → ∀ D : Ends, (∀ σ' H', Ex H H' ∧ Envs (hide H' noH) σ' R0 → D.nx σ' H') → t D _ H2 := fun {t} so D k => so D _ H2 (hid1 noH p) w2 oo ⟨trivial, hm⟩ en3 fun r c σ' H' lr e w' cc' en' => k σ' H' ⟨?_, (en'.weak lr).mono fun b o z => hide_of (hide_some z) rfl⟩
    · dsimp only [gName]
      refine key ?_ _ fun σ' H' h => ?_
      rotate_left
      · exact h
      -- frame = _law_frame(m, 81)
      refine so_seq (P := fun r c => ∃ n0 n : Nat, Fld n0 n ∧ r = [some (.a a), some (iv (0 + (i : Int))), some (.a p), some (.d (fD n0 n)), none] ∧ c = MC noC p (0 + 1)) (so_asg (em_cal (R := R_frame) (X := noC) (bs := []) (P := FldP) (k := 1) rfl (ea_cons ee_int ea_nil) ⟨rfl, rfl, rfl⟩ (by omega) (ok_noC _) nb inP sub) fun x c ⟨⟨n0, n, hF, _, ex⟩, ec⟩ => ⟨n0, n, hF, by subst ex; rfl, ec⟩) fun r c ⟨n0, n, hF, er, ec⟩ => ?_
      subst er ec
      refine so_seq (P := fun r c => r = [some (.a a), some (iv (0 + (i : Int))), some (.a p), some (.d (fD n0 n)), none] ∧ c = MC noC p (0 + 1 + 300)) (so_passN (emb_B (em_calD2 (ee_var rfl) (ok_M1 p _) (em_cal (R := R_sheets) (X := noC) (bs := []) (P := SysP n0 n) (k := 300) rfl (ea_cons (ee_var rfl) (ea_cons ee_int ea_nil)) ⟨n0, n, rfl, hF, rfl, rfl⟩ (by omega) (ok_noC _) nb inP sub) fun y c ⟨⟨qs, hqs, ey⟩, ec⟩ => ⟨by subst ec; exact ok_M1 p _, bv true, ⟨n0, n, qs, by subst ey; rfl, hF, hqs, rfl⟩, true, rfl, rfl, rfl, ec⟩))) fun r c ⟨er, ec⟩ => ?_
      subst er ec
      -- frame = _law_of(m, [..])
      refine so_seq (P := fun r c => ∃ n0 n : Nat, Fld n0 n ∧ r = [some (.a a), some (iv (0 + (i : Int))), some (.a p), some (.d (fD n0 n)), none] ∧ c = MC noC p (0 + 1 + 300 + 1)) (so_asg (em_cal (R := R_of) (X := noC) (bs := []) (P := fun x => ∃ y ∈ lowFrames.map fun f => fD f.1 f.2, x = .d y) (k := 1) rfl (ea_cons (ee_lst (ds := lowFrames.map fun f => fD f.1 f.2) ?_ (by decide)) ea_nil) ⟨_, rfl, by decide, by decide, rfl, rfl⟩ (by omega) (ok_noC _) nb inP sub) fun x c ⟨⟨y, hy, ex⟩, ec⟩ => ?_) fun r c ⟨n0, n, hF, er, ec⟩ => ?_
      · repeat' (first | exact ee_int | exact ea_nil | exact ee_var rfl | refine ee_tup ?_ ?_ | refine ea_cons ?_ ?_ | exact Nat.le_of_ble_eq_true rfl)
      · obtain ⟨f, hf, rfl⟩ := List.mem_map.mp hy
        exact ⟨f.1, f.2, low f hf, by subst ex; rfl, ec⟩
      subst er ec
      refine so_passN (P := fun r c => Le R0 r) (emb_B (em_calD2 (ee_var rfl) (ok_M1 p _) (em_tupOf (PV := fun x c => ∃ qs : List Poly, x = .d (.list (qs.map pD)) ∧ SysOk n0 n qs ∧ ∃ s', c = MC noC p s') (PW := fun x c => ∃ qs : List Poly, x = .d (sD qs) ∧ SysOk n0 n qs ∧ ∃ s', c = MC noC p s') (em_lc (wim_rng (A := fun j c => (1 ≤ j ∧ j ≤ 2) ∧ c = MC noC p (302 + 1)) (em_weak (em_draw1 (many := 2) (X := noC) (bs := []) rfl ee_int (by omega) (by omega) (by omega) (ok_noC _) nb inP sub) fun x c ⟨j, e, hj, h⟩ => ⟨1 + j, e, by omega, h⟩) fun i c h => by omega)
        (fun j acc c => ∃ qs : List Poly, acc = qs.map pD ∧ qs.length = j ∧ (∀ q ∈ qs, PolyOk n0 n q ∧ 1 ≤ degK q) ∧ ∃ s', s' ≤ 303 + 20 * j ∧ c = MC noC p s') (fun j acc c ⟨_, _, _, _, s', _, h⟩ => by subst h; exact ok_M1 p _) fun ds c ⟨j, e1, ⟨j0, j1⟩, e2⟩ => ?_) fun x c ⟨qs, ex, hq, s', ec⟩ => ⟨by subst ec; exact ok_M1 p _, qs.map pD, ex, qs, rfl, hq, s', ec⟩) fun y c ⟨qs, ey, hq, s', ec⟩ => ⟨by subst ec; exact ok_M1 p _, bv true, ⟨n0, n, qs, by subst ey; rfl, hF, hq, rfl⟩, true, rfl, rfl, (.cons (.inr rfl) (.cons (.inl rfl) (.cons (.inl rfl) (.cons (.inl rfl) (.cons (.inl rfl) .nil)))))⟩))
      subst e1 e2
      refine ⟨by rw [rngD_len]; omega, ⟨[], rfl, rfl, fun q hq => (nomatch hq), 303, by omega, rfl⟩, fun jj dd acc c hjj ⟨qs, ea, hl2, hq, s', hs', ec⟩ => ?_, fun acc c ⟨qs, ea, hl2, hq, s', hs', ec⟩ => ?_⟩
      · subst ea ec
        obtain ⟨hj2, rfl⟩ := rngD_of hjj
        refine ⟨_, _, ge_name, by decide, em_weak (em_cal (R := R_low) (X := noC) (bs := []) (P := LowP n0 n) (k := 20) rfl (ea_cons (ee_var rfl) ea_nil) ⟨n0, n, rfl, hF, rfl, rfl⟩ (by omega) (ok_noC _) nb inP sub) fun x c ⟨⟨q, h1, h2, ex⟩, ec⟩ => ⟨pD q, ex, qs ++ [q], by simp, by simp [hl2], fun y hy => ?_, s' + 20, by omega, ec⟩⟩
        obtain hy | hy := List.mem_append.mp hy
        · exact hq y hy
        · rw [List.mem_singleton.mp hy]
          exact ⟨h1, h2⟩
      · rw [rngD_len] at hl2
        exact ⟨qs, by subst ea; rfl, ⟨fun q h => (hq q h).1, fun q h => (hq q h).2, by omega, by omega⟩, s', ec⟩
    · intro b o z
      have z2 := x1 b o z
      refine e b o (fun m => ?_) (x2 b o z2)
      rw [List.mem_singleton.mp m, hp] at z2
      cases z2
  · refine ⟨noH, [], bv true, vw_none _, .nil, ⟨rfl, rfl⟩, fun v H2 e dv => ?_⟩
    cases dv
    exact q H2
end
end Pz
namespace Pz
open PySem PySem.Spec PyProof.Rows L2 Evl StX
/-! ### the end -/
abbrev AfterLaw (t : Shared) : Except Value Flow → Shared → Prop := fun r t' => r = .ok (.ret (.bool true)) ∧ OldK t.heap t'.heap ∧ t'.os = t.os ∧ AllBare t'.gens
/-- the law's call, over a heap in which at most the script is told -/
theorem run_law {P : Program} {w : World} {K : PySem.W.Frag} {mg mb : Str → Option Value} {k : Nat} {fa q : Addr} {vals : List Value} {ns : List Int} {sp : SpF} {t : Shared} (kin : K.In t.heap) (main : t.heap.Ns mainGlobals mg) (blt : t.heap.Ns builtinsNs mb) (bb : ∀ x : Str, x ≠ "__name__" → mb x = bootBuiltins x) (lim : t.heap.NoLimit) (gens : t.gens = #[])
    (scr : t.heap.get? q = some { cls := .type "list", data := .seq vals.toArray }) (hnum : IntsAre vals ns) (few : ns.length ≤ sizeLine) (room : Room k callerA) (gu : callerA.guards = some []) (hfa : mg "law" = some (.ref fa)) (O : ∀ base : Heap, K.In base → base.Ns mainGlobals mg → Ok P w K mg base "law" k sp)
    (wish : ∀ H : Hp, SqL K H q (ns.map V.int) → sp [.ref q] H fun v _ => v = .bl true) {H : Hp} (only : Only H) (sq : SqL K H q (ns.map V.int)) (hok : HOk P w H t.heap) (just : ∀ b, H b ≠ none → b = q) (out : H q ≠ none → K.lookup q = none) :
    codeAny (model P w) callerA (.call (.ref fa) ⟨[.ref q], []⟩) (AfterLaw t) t := by
  have plain : ∀ {b : Addr} {ob : Obj} {es : Array DictEntry} {ep : Nat}, t.heap.get? b = some ob → ob.data = .dict es ep → H b = none := fun {b ob es ep} g dd => by
    cases z : H b with
    | none => rfl
    | some u =>
      have bq : b = q := just b (by rw [z]; simp)
      subst bq
      rw [scr] at g
      cases g
      cases (show Data.seq vals.toArray _ = Data.dict es ep from dd)
  have moved : ∀ {b : Addr} {m : Str → Option Value}, t.heap.Ns b m → (hidT t.heap H).Ns b m := fun {b m} ⟨ob, es, ep, g, dd, r⟩ => ⟨ob, es, ep, hidT_get g (plain g dd), dd, r⟩
  have kin2 : K.In (hidT t.heap H) := fun b ob g => hidT_get (kin b ob g) (by
    cases z : H b with
    | none => rfl
    | some u =>
      have bq : b = q := just b (by rw [z]; simp)
      subst bq
      rw [out (by rw [z]; simp)] at g
      cases g)
  have md : Mod K mg (hidT t.heap H) := ⟨kin2, moved main, ⟨mb, moved blt, bb⟩, let ⟨mc, u1, u2⟩ := lim; ⟨mc, moved u1, u2⟩⟩
  have env : Env0 P w K mg (hidT t.heap H) callerA [] t H := ⟨rfl, md, fun b ob g => of_hidT g, Nat.le_of_eq (hidT_size _ _), trivial, fun b hb => absurd (show b ∈ ([] : List Addr) from hb) (by simp), hok, .of_eq gens⟩
  obtain ⟨f, fd, ps, F, mf, kp, bn⟩ := O _ kin2 (moved main)
  rw [hfa] at mf
  cases mf
  have pl : ps.length = 1 := (F.len _ _ _ (wish H sq)).symm
  have bt := bn t [.ref q] kin (by rw [pl]; rfl)
  rw [List.append_nil] at bt
  refine codeAny_mono (F.go callerA [] t H ⟨[.ref q], []⟩ [.ref q] [.ref q] (fun v _ => v = .bl true) gu room env bt (.cons rfl .nil) (wish H sq)) fun res t' done => ?_
  match res, done with
  | .error _, z => exact (show False from z).elim
  | .ok .next, z => exact (show False from z).elim
  | .ok .brk, z => exact (show False from z).elim
  | .ok .cont, z => exact (show False from z).elim
  | .ok (.ret u), z =>
    obtain ⟨v, H', os, bare, un, hok', rel, e⟩ := z
    have e : v = .bl true := e
    subst e
    obtain rfl : u = Value.bool true := rel
    refine ⟨rfl, OldK.of_keep fun b ob g => ?_, os, bare⟩
    cases y : H b with
    | none => exact un.keep b ob g y (fun m => absurd (show b ∈ ([] : List Addr) from m) (by simp)) (by simp)
    | some u =>
      rcases only b with n | ⟨ob2, xs, n⟩
      · rw [y] at n
        cases n
      · obtain ⟨g1, _⟩ := hok b _ n
        obtain ⟨g2, _⟩ := hok' b _ (un.frzs b ob2 _ n)
        rw [g] at g1
        cases g1
        exact g2
theorem run_law' {P : Program} {w : World} {K : PySem.W.Frag} {mg mb : Str → Option Value} {k : Nat} {fa q : Addr} {vals : List Value} {ns : List Int} {sp : SpF} {t : Shared} (kin : K.In t.heap) (main : t.heap.Ns mainGlobals mg) (blt : t.heap.Ns builtinsNs mb) (bb : ∀ x : Str, x ≠ "__name__" → mb x = bootBuiltins x) (lim : t.heap.NoLimit) (gens : t.gens = #[])
    (scr : t.heap.get? q = some { cls := .type "list", data := .seq vals.toArray }) (hnum : IntsAre vals ns) (few : ns.length ≤ sizeLine) (room : Room k callerA) (gu : callerA.guards = some []) (hfa : mg "law" = some (.ref fa)) (O : ∀ base : Heap, K.In base → base.Ns mainGlobals mg → Ok P w K mg base "law" k sp)
    (wish : ∀ H : Hp, SqL K H q (ns.map V.int) → sp [.ref q] H fun v _ => v = .bl true) : codeAny (model P w) callerA (.call (.ref fa) ⟨[.ref q], []⟩) (AfterLaw t) t := by
  have rv := vals_ints hnum
  cases look : K.lookup q with
  | some ob =>
    have g := kin q ob look
    rw [scr] at g
    cases g
    refine run_law kin main blt bb lim gens scr hnum few room gu hfa O wish (H := fun _ => none) (fun _ => .inl rfl) (.inr ⟨_, vals.toArray, _, look, rfl, rfl, rfl, ?_, by simpa using rv⟩) (fun b u z => ?_) (fun b z => absurd rfl z) fun z => absurd rfl z
    · rw [List.size_toArray, hnum.length]
      exact few
    · cases (show (none : Option HO) = some u from z)
  | none =>
    let ob : Obj := { cls := .type "list", data := .seq vals.toArray }
    refine run_law kin main blt bb lim gens scr hnum few room gu hfa O wish (H := fun b => if b = q then some (.frz ob (.lst (ns.map V.int))) else none) (fun b => ?_) (.inl (.inr ⟨ob, if_pos rfl⟩)) (fun b u z => ?_) (fun b z => ?_) fun _ => look
    · by_cases e : b = q
      · exact .inr ⟨_, _, if_pos e⟩
      · exact .inl (if_neg e)
    · by_cases e : b = q
      · have y := (if_pos e).symm.trans z
        cases y
        subst e
        exact ⟨scr, by rw [List.length_map]; exact few, vals, _, rv, scr⟩
      · cases (if_neg e).symm.trans z
    · by_cases e : b = q
      · exact e
      · exact absurd (if_neg e) z
theorem walk {l : PySem.W.OpenLaw} {q : Program} {loose : List Str} {XP : (Str → Option Value) → Heap → Prop} {YP : World → Heap → Prop} {d : DefRec} {K : Params → PySem.W.Frag} (hn : l.most = some 63) (hdf : d.params.defaults = []) (hname : d.name = "law") (hY : ∀ (w : World) (h : Heap), YP w h → (K w.params).In h) (F : ∀ (w : World) (mg : Str → Option Value) (fa : Addr) (h : Heap), (K w.params).In h → h.Ns mainGlobals mg → mg d.name = some (.ref fa) →
      ∀ base : Heap, (K w.params).In base → base.Ns mainGlobals mg → Ok l.prog w (K w.params) mg base "law" 10 (sp_law (K w.params))) : PySem.W.WalkO q loose XP YP l.row.toRowW d [] (fun f vs => PySem.call f vs) := by
  refine Att.attach_call hn hdf fun w s0 t mg mb fa ob pm cd doc a vals ns G Y ho hd hcd hmg scr hnum hlen gens => ?_
  have kin := hY w _ Y
  have O := F w mg fa _ kin G.T.g hmg
  rw [hname] at hmg
  exact run_law' kin G.T.g G.T.b G.T.builtins G.T.nolimit gens scr hnum (Nat.le_trans hlen (by decide)) ⟨rfl, by decide, by decide⟩ rfl hmg O fun H sq => ⟨a, ns, rfl, sq, hlen, fun _ => rfl⟩
end Pz
namespace Pz
open PySem PySem.Spec PyProof.Rows L2 Evl StX
theorem all_mk {P : Program} {w : World} {K : PySem.W.Frag} {h : Heap} {mg : Str → Option Value} (X : K.In h) (G : h.Ns mainGlobals mg)
    {f_is_whole : Addr} {oc_is_whole kV_is_whole dc_is_whole pm_is_whole cd_is_whole ct_is_whole : Value} {od_is_whole an_is_whole : Option Addr} {sl_is_whole : Array (Option Value)}
    (a_is_whole : PySem.W.nsIn K mainGlobals "is_whole" = some (some (.ref f_is_whole))) (l_is_whole : K.lookup f_is_whole = some ⟨oc_is_whole, od_is_whole, .func (PySem.W.fnOf "is_whole" "is_whole" (defArgs s_is_whole) (defBody s_is_whole) (defScope s_is_whole) .none kV_is_whole dc_is_whole pm_is_whole an_is_whole cd_is_whole ct_is_whole), sl_is_whole⟩) (c_is_whole : PySem.W.codeIn K cd_is_whole "is_whole" = true) (k_is_whole : PySem.W.keepIn K (.ref f_is_whole) = true)
    {f_is_prime : Addr} {oc_is_prime kV_is_prime dc_is_prime pm_is_prime cd_is_prime ct_is_prime : Value} {od_is_prime an_is_prime : Option Addr} {sl_is_prime : Array (Option Value)}
    (a_is_prime : PySem.W.nsIn K mainGlobals "is_prime" = some (some (.ref f_is_prime))) (l_is_prime : K.lookup f_is_prime = some ⟨oc_is_prime, od_is_prime, .func (PySem.W.fnOf "is_prime" "is_prime" (defArgs s_is_prime) (defBody s_is_prime) (defScope s_is_prime) .none kV_is_prime dc_is_prime pm_is_prime an_is_prime cd_is_prime ct_is_prime), sl_is_prime⟩) (c_is_prime : PySem.W.codeIn K cd_is_prime "is_prime" = true) (k_is_prime : PySem.W.keepIn K (.ref f_is_prime) = true)
    {f_size_of : Addr} {oc_size_of kV_size_of dc_size_of pm_size_of cd_size_of ct_size_of : Value} {od_size_of an_size_of : Option Addr} {sl_size_of : Array (Option Value)}
    (a_size_of : PySem.W.nsIn K mainGlobals "size_of" = some (some (.ref f_size_of))) (l_size_of : K.lookup f_size_of = some ⟨oc_size_of, od_size_of, .func (PySem.W.fnOf "size_of" "size_of" (defArgs s_size_of) (defBody s_size_of) (defScope s_size_of) .none kV_size_of dc_size_of pm_size_of an_size_of cd_size_of ct_size_of), sl_size_of⟩) (c_size_of : PySem.W.codeIn K cd_size_of "size_of" = true) (k_size_of : PySem.W.keepIn K (.ref f_size_of) = true)
    {f_need_field : Addr} {oc_need_field kV_need_field dc_need_field pm_need_field cd_need_field ct_need_field : Value} {od_need_field an_need_field : Option Addr} {sl_need_field : Array (Option Value)}
    (a_need_field : PySem.W.nsIn K mainGlobals "need_field" = some (some (.ref f_need_field))) (l_need_field : K.lookup f_need_field = some ⟨oc_need_field, od_need_field, .func (PySem.W.fnOf "need_field" "need_field" (defArgs s_need_field) (defBody s_need_field) (defScope s_need_field) .none kV_need_field dc_need_field pm_need_field an_need_field cd_need_field ct_need_field), sl_need_field⟩) (c_need_field : PySem.W.codeIn K cd_need_field "need_field" = true) (k_need_field : PySem.W.keepIn K (.ref f_need_field) = true)
    {f_points_of : Addr} {oc_points_of kV_points_of dc_points_of pm_points_of cd_points_of ct_points_of : Value} {od_points_of an_points_of : Option Addr} {sl_points_of : Array (Option Value)}
    (a_points_of : PySem.W.nsIn K mainGlobals "points_of" = some (some (.ref f_points_of))) (l_points_of : K.lookup f_points_of = some ⟨oc_points_of, od_points_of, .func (PySem.W.fnOf "points_of" "points_of" (defArgs s_points_of) (defBody s_points_of) (defScope s_points_of) .none kV_points_of dc_points_of pm_points_of an_points_of cd_points_of ct_points_of), sl_points_of⟩) (c_points_of : PySem.W.codeIn K cd_points_of "points_of" = true) (k_points_of : PySem.W.keepIn K (.ref f_points_of) = true)
    {f_allpoints : Addr} {oc_allpoints kV_allpoints dc_allpoints pm_allpoints cd_allpoints ct_allpoints : Value} {od_allpoints an_allpoints : Option Addr} {sl_allpoints : Array (Option Value)}
    (a_allpoints : PySem.W.nsIn K mainGlobals "all_points" = some (some (.ref f_allpoints))) (l_allpoints : K.lookup f_allpoints = some ⟨oc_allpoints, od_allpoints, .func (PySem.W.fnOf "all_points" "all_points" (defArgs s_allpoints) (defBody s_allpoints) (defScope s_allpoints) .none kV_allpoints dc_allpoints pm_allpoints an_allpoints cd_allpoints ct_allpoints), sl_allpoints⟩) (c_allpoints : PySem.W.codeIn K cd_allpoints "all_points" = true) (k_allpoints : PySem.W.keepIn K (.ref f_allpoints) = true)
    {f_are_powers : Addr} {oc_are_powers kV_are_powers dc_are_powers pm_are_powers cd_are_powers ct_are_powers : Value} {od_are_powers an_are_powers : Option Addr} {sl_are_powers : Array (Option Value)}
    (a_are_powers : PySem.W.nsIn K mainGlobals "are_powers" = some (some (.ref f_are_powers))) (l_are_powers : K.lookup f_are_powers = some ⟨oc_are_powers, od_are_powers, .func (PySem.W.fnOf "are_powers" "are_powers" (defArgs s_are_powers) (defBody s_are_powers) (defScope s_are_powers) .none kV_are_powers dc_are_powers pm_are_powers an_are_powers cd_are_powers ct_are_powers), sl_are_powers⟩) (c_are_powers : PySem.W.codeIn K cd_are_powers "are_powers" = true) (k_are_powers : PySem.W.keepIn K (.ref f_are_powers) = true)
    {f_is_term : Addr} {oc_is_term kV_is_term dc_is_term pm_is_term cd_is_term ct_is_term : Value} {od_is_term an_is_term : Option Addr} {sl_is_term : Array (Option Value)}
    (a_is_term : PySem.W.nsIn K mainGlobals "is_term" = some (some (.ref f_is_term))) (l_is_term : K.lookup f_is_term = some ⟨oc_is_term, od_is_term, .func (PySem.W.fnOf "is_term" "is_term" (defArgs s_is_term) (defBody s_is_term) (defScope s_is_term) .none kV_is_term dc_is_term pm_is_term an_is_term cd_is_term ct_is_term), sl_is_term⟩) (c_is_term : PySem.W.codeIn K cd_is_term "is_term" = true) (k_is_term : PySem.W.keepIn K (.ref f_is_term) = true)
    {f_wrong_term : Addr} {oc_wrong_term kV_wrong_term dc_wrong_term pm_wrong_term cd_wrong_term ct_wrong_term : Value} {od_wrong_term an_wrong_term : Option Addr} {sl_wrong_term : Array (Option Value)}
    (a_wrong_term : PySem.W.nsIn K mainGlobals "wrong_term" = some (some (.ref f_wrong_term))) (l_wrong_term : K.lookup f_wrong_term = some ⟨oc_wrong_term, od_wrong_term, .func (PySem.W.fnOf "wrong_term" "wrong_term" (defArgs s_wrong_term) (defBody s_wrong_term) (defScope s_wrong_term) .none kV_wrong_term dc_wrong_term pm_wrong_term an_wrong_term cd_wrong_term ct_wrong_term), sl_wrong_term⟩) (c_wrong_term : PySem.W.codeIn K cd_wrong_term "wrong_term" = true) (k_wrong_term : PySem.W.keepIn K (.ref f_wrong_term) = true)
    {f_raised : Addr} {oc_raised kV_raised dc_raised pm_raised cd_raised ct_raised : Value} {od_raised an_raised : Option Addr} {sl_raised : Array (Option Value)}
    (a_raised : PySem.W.nsIn K mainGlobals "raised" = some (some (.ref f_raised))) (l_raised : K.lookup f_raised = some ⟨oc_raised, od_raised, .func (PySem.W.fnOf "raised" "raised" (defArgs s_raised) (defBody s_raised) (defScope s_raised) .none kV_raised dc_raised pm_raised an_raised cd_raised ct_raised), sl_raised⟩) (c_raised : PySem.W.codeIn K cd_raised "raised" = true) (k_raised : PySem.W.keepIn K (.ref f_raised) = true)
    {f_product_at : Addr} {oc_product_at kV_product_at dc_product_at pm_product_at cd_product_at ct_product_at : Value} {od_product_at an_product_at : Option Addr} {sl_product_at : Array (Option Value)}
    (a_product_at : PySem.W.nsIn K mainGlobals "product_at" = some (some (.ref f_product_at))) (l_product_at : K.lookup f_product_at = some ⟨oc_product_at, od_product_at, .func (PySem.W.fnOf "product_at" "product_at" (defArgs s_product_at) (defBody s_product_at) (defScope s_product_at) .none kV_product_at dc_product_at pm_product_at an_product_at cd_product_at ct_product_at), sl_product_at⟩) (c_product_at : PySem.W.codeIn K cd_product_at "product_at" = true) (k_product_at : PySem.W.keepIn K (.ref f_product_at) = true)
    {f_value_of : Addr} {oc_value_of kV_value_of dc_value_of pm_value_of cd_value_of ct_value_of : Value} {od_value_of an_value_of : Option Addr} {sl_value_of : Array (Option Value)}
    (a_value_of : PySem.W.nsIn K mainGlobals "value_of" = some (some (.ref f_value_of))) (l_value_of : K.lookup f_value_of = some ⟨oc_value_of, od_value_of, .func (PySem.W.fnOf "value_of" "value_of" (defArgs s_value_of) (defBody s_value_of) (defScope s_value_of) .none kV_value_of dc_value_of pm_value_of an_value_of cd_value_of ct_value_of), sl_value_of⟩) (c_value_of : PySem.W.codeIn K cd_value_of "value_of" = true) (k_value_of : PySem.W.keepIn K (.ref f_value_of) = true)
    {f_degree_of : Addr} {oc_degree_of kV_degree_of dc_degree_of pm_degree_of cd_degree_of ct_degree_of : Value} {od_degree_of an_degree_of : Option Addr} {sl_degree_of : Array (Option Value)}
    (a_degree_of : PySem.W.nsIn K mainGlobals "degree_of" = some (some (.ref f_degree_of))) (l_degree_of : K.lookup f_degree_of = some ⟨oc_degree_of, od_degree_of, .func (PySem.W.fnOf "degree_of" "degree_of" (defArgs s_degree_of) (defBody s_degree_of) (defScope s_degree_of) .none kV_degree_of dc_degree_of pm_degree_of an_degree_of cd_degree_of ct_degree_of), sl_degree_of⟩) (c_degree_of : PySem.W.codeIn K cd_degree_of "degree_of" = true) (k_degree_of : PySem.W.keepIn K (.ref f_degree_of) = true)
    {f_less_power : Addr} {oc_less_power kV_less_power dc_less_power pm_less_power cd_less_power ct_less_power : Value} {od_less_power an_less_power : Option Addr} {sl_less_power : Array (Option Value)}
    (a_less_power : PySem.W.nsIn K mainGlobals "less_power" = some (some (.ref f_less_power))) (l_less_power : K.lookup f_less_power = some ⟨oc_less_power, od_less_power, .func (PySem.W.fnOf "less_power" "less_power" (defArgs s_less_power) (defBody s_less_power) (defScope s_less_power) .none kV_less_power dc_less_power pm_less_power an_less_power cd_less_power ct_less_power), sl_less_power⟩) (c_less_power : PySem.W.codeIn K cd_less_power "less_power" = true) (k_less_power : PySem.W.keepIn K (.ref f_less_power) = true)
    {f_tidy : Addr} {oc_tidy kV_tidy dc_tidy pm_tidy cd_tidy ct_tidy : Value} {od_tidy an_tidy : Option Addr} {sl_tidy : Array (Option Value)}
    (a_tidy : PySem.W.nsIn K mainGlobals "tidy" = some (some (.ref f_tidy))) (l_tidy : K.lookup f_tidy = some ⟨oc_tidy, od_tidy, .func (PySem.W.fnOf "tidy" "tidy" (defArgs s_tidy) (defBody s_tidy) (defScope s_tidy) .none kV_tidy dc_tidy pm_tidy an_tidy cd_tidy ct_tidy), sl_tidy⟩) (c_tidy : PySem.W.codeIn K cd_tidy "tidy" = true) (k_tidy : PySem.W.keepIn K (.ref f_tidy) = true)
    {f_reduced_of : Addr} {oc_reduced_of kV_reduced_of dc_reduced_of pm_reduced_of cd_reduced_of ct_reduced_of : Value} {od_reduced_of an_reduced_of : Option Addr} {sl_reduced_of : Array (Option Value)}
    (a_reduced_of : PySem.W.nsIn K mainGlobals "reduced_of" = some (some (.ref f_reduced_of))) (l_reduced_of : K.lookup f_reduced_of = some ⟨oc_reduced_of, od_reduced_of, .func (PySem.W.fnOf "reduced_of" "reduced_of" (defArgs s_reduced_of) (defBody s_reduced_of) (defScope s_reduced_of) .none kV_reduced_of dc_reduced_of pm_reduced_of an_reduced_of cd_reduced_of ct_reduced_of), sl_reduced_of⟩) (c_reduced_of : PySem.W.codeIn K cd_reduced_of "reduced_of" = true) (k_reduced_of : PySem.W.keepIn K (.ref f_reduced_of) = true)
    {f_line_poly : Addr} {oc_line_poly kV_line_poly dc_line_poly pm_line_poly cd_line_poly ct_line_poly : Value} {od_line_poly an_line_poly : Option Addr} {sl_line_poly : Array (Option Value)}
    (a_line_poly : PySem.W.nsIn K mainGlobals "line_poly" = some (some (.ref f_line_poly))) (l_line_poly : K.lookup f_line_poly = some ⟨oc_line_poly, od_line_poly, .func (PySem.W.fnOf "line_poly" "line_poly" (defArgs s_line_poly) (defBody s_line_poly) (defScope s_line_poly) .none kV_line_poly dc_line_poly pm_line_poly an_line_poly cd_line_poly ct_line_poly), sl_line_poly⟩) (c_line_poly : PySem.W.codeIn K cd_line_poly "line_poly" = true) (k_line_poly : PySem.W.keepIn K (.ref f_line_poly) = true)
    {f_poly_by : Addr} {oc_poly_by kV_poly_by dc_poly_by pm_poly_by cd_poly_by ct_poly_by : Value} {od_poly_by an_poly_by : Option Addr} {sl_poly_by : Array (Option Value)}
    (a_poly_by : PySem.W.nsIn K mainGlobals "poly_by" = some (some (.ref f_poly_by))) (l_poly_by : K.lookup f_poly_by = some ⟨oc_poly_by, od_poly_by, .func (PySem.W.fnOf "poly_by" "poly_by" (defArgs s_poly_by) (defBody s_poly_by) (defScope s_poly_by) .none kV_poly_by dc_poly_by pm_poly_by an_poly_by cd_poly_by ct_poly_by), sl_poly_by⟩) (c_poly_by : PySem.W.codeIn K cd_poly_by "poly_by" = true) (k_poly_by : PySem.W.keepIn K (.ref f_poly_by) = true)
    {f_check_system : Addr} {oc_check_system kV_check_system dc_check_system pm_check_system cd_check_system ct_check_system : Value} {od_check_system an_check_system : Option Addr} {sl_check_system : Array (Option Value)}
    (a_check_system : PySem.W.nsIn K mainGlobals "check_system" = some (some (.ref f_check_system))) (l_check_system : K.lookup f_check_system = some ⟨oc_check_system, od_check_system, .func (PySem.W.fnOf "check_system" "check_system" (defArgs s_check_system) (defBody s_check_system) (defScope s_check_system) .none kV_check_system dc_check_system pm_check_system an_check_system cd_check_system ct_check_system), sl_check_system⟩) (c_check_system : PySem.W.codeIn K cd_check_system "check_system" = true) (k_check_system : PySem.W.keepIn K (.ref f_check_system) = true)
    {f_need_system : Addr} {oc_need_system kV_need_system dc_need_system pm_need_system cd_need_system ct_need_system : Value} {od_need_system an_need_system : Option Addr} {sl_need_system : Array (Option Value)}
    (a_need_system : PySem.W.nsIn K mainGlobals "need_system" = some (some (.ref f_need_system))) (l_need_system : K.lookup f_need_system = some ⟨oc_need_system, od_need_system, .func (PySem.W.fnOf "need_system" "need_system" (defArgs s_need_system) (defBody s_need_system) (defScope s_need_system) .none kV_need_system dc_need_system pm_need_system an_need_system cd_need_system ct_need_system), sl_need_system⟩) (c_need_system : PySem.W.codeIn K cd_need_system "need_system" = true) (k_need_system : PySem.W.keepIn K (.ref f_need_system) = true)
    {f_zeros_of : Addr} {oc_zeros_of kV_zeros_of dc_zeros_of pm_zeros_of cd_zeros_of ct_zeros_of : Value} {od_zeros_of an_zeros_of : Option Addr} {sl_zeros_of : Array (Option Value)}
    (a_zeros_of : PySem.W.nsIn K mainGlobals "zeros_of" = some (some (.ref f_zeros_of))) (l_zeros_of : K.lookup f_zeros_of = some ⟨oc_zeros_of, od_zeros_of, .func (PySem.W.fnOf "zeros_of" "zeros_of" (defArgs s_zeros_of) (defBody s_zeros_of) (defScope s_zeros_of) .none kV_zeros_of dc_zeros_of pm_zeros_of an_zeros_of cd_zeros_of ct_zeros_of), sl_zeros_of⟩) (c_zeros_of : PySem.W.codeIn K cd_zeros_of "zeros_of" = true) (k_zeros_of : PySem.W.keepIn K (.ref f_zeros_of) = true)
    {f_zeros : Addr} {oc_zeros kV_zeros dc_zeros pm_zeros cd_zeros ct_zeros : Value} {od_zeros an_zeros : Option Addr} {sl_zeros : Array (Option Value)}
    (a_zeros : PySem.W.nsIn K mainGlobals "zeros" = some (some (.ref f_zeros))) (l_zeros : K.lookup f_zeros = some ⟨oc_zeros, od_zeros, .func (PySem.W.fnOf "zeros" "zeros" (defArgs s_zeros) (defBody s_zeros) (defScope s_zeros) .none kV_zeros dc_zeros pm_zeros an_zeros cd_zeros ct_zeros), sl_zeros⟩) (c_zeros : PySem.W.codeIn K cd_zeros "zeros" = true) (k_zeros : PySem.W.keepIn K (.ref f_zeros) = true)
    {f_count : Addr} {oc_count kV_count dc_count pm_count cd_count ct_count : Value} {od_count an_count : Option Addr} {sl_count : Array (Option Value)}
    (a_count : PySem.W.nsIn K mainGlobals "count" = some (some (.ref f_count))) (l_count : K.lookup f_count = some ⟨oc_count, od_count, .func (PySem.W.fnOf "count" "count" (defArgs s_count) (defBody s_count) (defScope s_count) .none kV_count dc_count pm_count an_count cd_count ct_count), sl_count⟩) (c_count : PySem.W.codeIn K cd_count "count" = true) (k_count : PySem.W.keepIn K (.ref f_count) = true)
    {f_poly_on : Addr} {oc_poly_on kV_poly_on dc_poly_on pm_poly_on cd_poly_on ct_poly_on : Value} {od_poly_on an_poly_on : Option Addr} {sl_poly_on : Array (Option Value)}
    (a_poly_on : PySem.W.nsIn K mainGlobals "poly_on" = some (some (.ref f_poly_on))) (l_poly_on : K.lookup f_poly_on = some ⟨oc_poly_on, od_poly_on, .func (PySem.W.fnOf "poly_on" "poly_on" (defArgs s_poly_on) (defBody s_poly_on) (defScope s_poly_on) .none kV_poly_on dc_poly_on pm_poly_on an_poly_on cd_poly_on ct_poly_on), sl_poly_on⟩) (c_poly_on : PySem.W.codeIn K cd_poly_on "poly_on" = true) (k_poly_on : PySem.W.keepIn K (.ref f_poly_on) = true)
    {f_indicator_of : Addr} {oc_indicator_of kV_indicator_of dc_indicator_of pm_indicator_of cd_indicator_of ct_indicator_of : Value} {od_indicator_of an_indicator_of : Option Addr} {sl_indicator_of : Array (Option Value)}
    (a_indicator_of : PySem.W.nsIn K mainGlobals "indicator_of" = some (some (.ref f_indicator_of))) (l_indicator_of : K.lookup f_indicator_of = some ⟨oc_indicator_of, od_indicator_of, .func (PySem.W.fnOf "indicator_of" "indicator_of" (defArgs s_indicator_of) (defBody s_indicator_of) (defScope s_indicator_of) .none kV_indicator_of dc_indicator_of pm_indicator_of an_indicator_of cd_indicator_of ct_indicator_of), sl_indicator_of⟩) (c_indicator_of : PySem.W.codeIn K cd_indicator_of "indicator_of" = true) (k_indicator_of : PySem.W.keepIn K (.ref f_indicator_of) = true)
    {f_promise_of : Addr} {oc_promise_of kV_promise_of dc_promise_of pm_promise_of cd_promise_of ct_promise_of : Value} {od_promise_of an_promise_of : Option Addr} {sl_promise_of : Array (Option Value)}
    (a_promise_of : PySem.W.nsIn K mainGlobals "promise_of" = some (some (.ref f_promise_of))) (l_promise_of : K.lookup f_promise_of = some ⟨oc_promise_of, od_promise_of, .func (PySem.W.fnOf "promise_of" "promise_of" (defArgs s_promise_of) (defBody s_promise_of) (defScope s_promise_of) .none kV_promise_of dc_promise_of pm_promise_of an_promise_of cd_promise_of ct_promise_of), sl_promise_of⟩) (c_promise_of : PySem.W.codeIn K cd_promise_of "promise_of" = true) (k_promise_of : PySem.W.keepIn K (.ref f_promise_of) = true)
    {f_promise : Addr} {oc_promise kV_promise dc_promise pm_promise cd_promise ct_promise : Value} {od_promise an_promise : Option Addr} {sl_promise : Array (Option Value)}
    (a_promise : PySem.W.nsIn K mainGlobals "promise" = some (some (.ref f_promise))) (l_promise : K.lookup f_promise = some ⟨oc_promise, od_promise, .func (PySem.W.fnOf "promise" "promise" (defArgs s_promise) (defBody s_promise) (defScope s_promise) .none kV_promise dc_promise pm_promise an_promise cd_promise ct_promise), sl_promise⟩) (c_promise : PySem.W.codeIn K cd_promise "promise" = true) (k_promise : PySem.W.keepIn K (.ref f_promise) = true)
    {f_top : Addr} {oc_top kV_top dc_top pm_top cd_top ct_top : Value} {od_top an_top : Option Addr} {sl_top : Array (Option Value)}
    (a_top : PySem.W.nsIn K mainGlobals "top" = some (some (.ref f_top))) (l_top : K.lookup f_top = some ⟨oc_top, od_top, .func (PySem.W.fnOf "top" "top" (defArgs s_top) (defBody s_top) (defScope s_top) .none kV_top dc_top pm_top an_top cd_top ct_top), sl_top⟩) (c_top : PySem.W.codeIn K cd_top "top" = true) (k_top : PySem.W.keepIn K (.ref f_top) = true)
    {f_least_zeros : Addr} {oc_least_zeros kV_least_zeros dc_least_zeros pm_least_zeros cd_least_zeros ct_least_zeros : Value} {od_least_zeros an_least_zeros : Option Addr} {sl_least_zeros : Array (Option Value)}
    (a_least_zeros : PySem.W.nsIn K mainGlobals "least_zeros" = some (some (.ref f_least_zeros))) (l_least_zeros : K.lookup f_least_zeros = some ⟨oc_least_zeros, od_least_zeros, .func (PySem.W.fnOf "least_zeros" "least_zeros" (defArgs s_least_zeros) (defBody s_least_zeros) (defScope s_least_zeros) .none kV_least_zeros dc_least_zeros pm_least_zeros an_least_zeros cd_least_zeros ct_least_zeros), sl_least_zeros⟩) (c_least_zeros : PySem.W.codeIn K cd_least_zeros "least_zeros" = true) (k_least_zeros : PySem.W.keepIn K (.ref f_least_zeros) = true)
    {f_begun : Addr} {oc_begun kV_begun dc_begun pm_begun cd_begun ct_begun : Value} {od_begun an_begun : Option Addr} {sl_begun : Array (Option Value)}
    (a_begun : PySem.W.nsIn K mainGlobals "_law_begun" = some (some (.ref f_begun))) (l_begun : K.lookup f_begun = some ⟨oc_begun, od_begun, .func (PySem.W.fnOf "_law_begun" "_law_begun" (defArgs s_begun) (defBody s_begun) (defScope s_begun) .none kV_begun dc_begun pm_begun an_begun cd_begun ct_begun), sl_begun⟩) (c_begun : PySem.W.codeIn K cd_begun "_law_begun" = true) (k_begun : PySem.W.keepIn K (.ref f_begun) = true)
    {f_draw : Addr} {oc_draw kV_draw dc_draw pm_draw cd_draw ct_draw : Value} {od_draw an_draw : Option Addr} {sl_draw : Array (Option Value)}
    (a_draw : PySem.W.nsIn K mainGlobals "_law_draw" = some (some (.ref f_draw))) (l_draw : K.lookup f_draw = some ⟨oc_draw, od_draw, .func (PySem.W.fnOf "_law_draw" "_law_draw" (defArgs s_draw) (defBody s_draw) (defScope s_draw) .none kV_draw dc_draw pm_draw an_draw cd_draw ct_draw), sl_draw⟩) (c_draw : PySem.W.codeIn K cd_draw "_law_draw" = true) (k_draw : PySem.W.keepIn K (.ref f_draw) = true)
    {f_of : Addr} {oc_of kV_of dc_of pm_of cd_of ct_of : Value} {od_of an_of : Option Addr} {sl_of : Array (Option Value)}
    (a_of : PySem.W.nsIn K mainGlobals "_law_of" = some (some (.ref f_of))) (l_of : K.lookup f_of = some ⟨oc_of, od_of, .func (PySem.W.fnOf "_law_of" "_law_of" (defArgs s_of) (defBody s_of) (defScope s_of) .none kV_of dc_of pm_of an_of cd_of ct_of), sl_of⟩) (c_of : PySem.W.codeIn K cd_of "_law_of" = true) (k_of : PySem.W.keepIn K (.ref f_of) = true)
    {f_frame : Addr} {oc_frame kV_frame dc_frame pm_frame cd_frame ct_frame : Value} {od_frame an_frame : Option Addr} {sl_frame : Array (Option Value)}
    (a_frame : PySem.W.nsIn K mainGlobals "_law_frame" = some (some (.ref f_frame))) (l_frame : K.lookup f_frame = some ⟨oc_frame, od_frame, .func (PySem.W.fnOf "_law_frame" "_law_frame" (defArgs s_frame) (defBody s_frame) (defScope s_frame) .none kV_frame dc_frame pm_frame an_frame cd_frame ct_frame), sl_frame⟩) (c_frame : PySem.W.codeIn K cd_frame "_law_frame" = true) (k_frame : PySem.W.keepIn K (.ref f_frame) = true)
    {f_size : Addr} {oc_size kV_size dc_size pm_size cd_size ct_size : Value} {od_size an_size : Option Addr} {sl_size : Array (Option Value)}
    (a_size : PySem.W.nsIn K mainGlobals "_law_size" = some (some (.ref f_size))) (l_size : K.lookup f_size = some ⟨oc_size, od_size, .func (PySem.W.fnOf "_law_size" "_law_size" (defArgs s_size) (defBody s_size) (defScope s_size) .none kV_size dc_size pm_size an_size cd_size ct_size), sl_size⟩) (c_size : PySem.W.codeIn K cd_size "_law_size" = true) (k_size : PySem.W.keepIn K (.ref f_size) = true)
    {f_spots : Addr} {oc_spots kV_spots dc_spots pm_spots cd_spots ct_spots : Value} {od_spots an_spots : Option Addr} {sl_spots : Array (Option Value)}
    (a_spots : PySem.W.nsIn K mainGlobals "_law_spots" = some (some (.ref f_spots))) (l_spots : K.lookup f_spots = some ⟨oc_spots, od_spots, .func (PySem.W.fnOf "_law_spots" "_law_spots" (defArgs s_spots) (defBody s_spots) (defScope s_spots) .none kV_spots dc_spots pm_spots an_spots cd_spots ct_spots), sl_spots⟩) (c_spots : PySem.W.codeIn K cd_spots "_law_spots" = true) (k_spots : PySem.W.keepIn K (.ref f_spots) = true)
    {f_sheet : Addr} {oc_sheet kV_sheet dc_sheet pm_sheet cd_sheet ct_sheet : Value} {od_sheet an_sheet : Option Addr} {sl_sheet : Array (Option Value)}
    (a_sheet : PySem.W.nsIn K mainGlobals "_law_sheet" = some (some (.ref f_sheet))) (l_sheet : K.lookup f_sheet = some ⟨oc_sheet, od_sheet, .func (PySem.W.fnOf "_law_sheet" "_law_sheet" (defArgs s_sheet) (defBody s_sheet) (defScope s_sheet) .none kV_sheet dc_sheet pm_sheet an_sheet cd_sheet ct_sheet), sl_sheet⟩) (c_sheet : PySem.W.codeIn K cd_sheet "_law_sheet" = true) (k_sheet : PySem.W.keepIn K (.ref f_sheet) = true)
    {f_high : Addr} {oc_high kV_high dc_high pm_high cd_high ct_high : Value} {od_high an_high : Option Addr} {sl_high : Array (Option Value)}
    (a_high : PySem.W.nsIn K mainGlobals "_law_high" = some (some (.ref f_high))) (l_high : K.lookup f_high = some ⟨oc_high, od_high, .func (PySem.W.fnOf "_law_high" "_law_high" (defArgs s_high) (defBody s_high) (defScope s_high) .none kV_high dc_high pm_high an_high cd_high ct_high), sl_high⟩) (c_high : PySem.W.codeIn K cd_high "_law_high" = true) (k_high : PySem.W.keepIn K (.ref f_high) = true)
    {f_sheets : Addr} {oc_sheets kV_sheets dc_sheets pm_sheets cd_sheets ct_sheets : Value} {od_sheets an_sheets : Option Addr} {sl_sheets : Array (Option Value)}
    (a_sheets : PySem.W.nsIn K mainGlobals "_law_sheets" = some (some (.ref f_sheets))) (l_sheets : K.lookup f_sheets = some ⟨oc_sheets, od_sheets, .func (PySem.W.fnOf "_law_sheets" "_law_sheets" (defArgs s_sheets) (defBody s_sheets) (defScope s_sheets) .none kV_sheets dc_sheets pm_sheets an_sheets cd_sheets ct_sheets), sl_sheets⟩) (c_sheets : PySem.W.codeIn K cd_sheets "_law_sheets" = true) (k_sheets : PySem.W.keepIn K (.ref f_sheets) = true)
    {f_lraised : Addr} {oc_lraised kV_lraised dc_lraised pm_lraised cd_lraised ct_lraised : Value} {od_lraised an_lraised : Option Addr} {sl_lraised : Array (Option Value)}
    (a_lraised : PySem.W.nsIn K mainGlobals "_law_raised" = some (some (.ref f_lraised))) (l_lraised : K.lookup f_lraised = some ⟨oc_lraised, od_lraised, .func (PySem.W.fnOf "_law_raised" "_law_raised" (defArgs s_lraised) (defBody s_lraised) (defScope s_lraised) .none kV_lraised dc_lraised pm_lraised an_lraised cd_lraised ct_lraised), sl_lraised⟩) (c_lraised : PySem.W.codeIn K cd_lraised "_law_raised" = true) (k_lraised : PySem.W.keepIn K (.ref f_lraised) = true)
    {f_worth : Addr} {oc_worth kV_worth dc_worth pm_worth cd_worth ct_worth : Value} {od_worth an_worth : Option Addr} {sl_worth : Array (Option Value)}
    (a_worth : PySem.W.nsIn K mainGlobals "_law_worth" = some (some (.ref f_worth))) (l_worth : K.lookup f_worth = some ⟨oc_worth, od_worth, .func (PySem.W.fnOf "_law_worth" "_law_worth" (defArgs s_worth) (defBody s_worth) (defScope s_worth) .none kV_worth dc_worth pm_worth an_worth cd_worth ct_worth), sl_worth⟩) (c_worth : PySem.W.codeIn K cd_worth "_law_worth" = true) (k_worth : PySem.W.keepIn K (.ref f_worth) = true)
    {f_lzeros : Addr} {oc_lzeros kV_lzeros dc_lzeros pm_lzeros cd_lzeros ct_lzeros : Value} {od_lzeros an_lzeros : Option Addr} {sl_lzeros : Array (Option Value)}
    (a_lzeros : PySem.W.nsIn K mainGlobals "_law_zeros" = some (some (.ref f_lzeros))) (l_lzeros : K.lookup f_lzeros = some ⟨oc_lzeros, od_lzeros, .func (PySem.W.fnOf "_law_zeros" "_law_zeros" (defArgs s_lzeros) (defBody s_lzeros) (defScope s_lzeros) .none kV_lzeros dc_lzeros pm_lzeros an_lzeros cd_lzeros ct_lzeros), sl_lzeros⟩) (c_lzeros : PySem.W.codeIn K cd_lzeros "_law_zeros" = true) (k_lzeros : PySem.W.keepIn K (.ref f_lzeros) = true)
    {f_low : Addr} {oc_low kV_low dc_low pm_low cd_low ct_low : Value} {od_low an_low : Option Addr} {sl_low : Array (Option Value)}
    (a_low : PySem.W.nsIn K mainGlobals "_law_low_sheet" = some (some (.ref f_low))) (l_low : K.lookup f_low = some ⟨oc_low, od_low, .func (PySem.W.fnOf "_law_low_sheet" "_law_low_sheet" (defArgs s_low) (defBody s_low) (defScope s_low) .none kV_low dc_low pm_low an_low cd_low ct_low), sl_low⟩) (c_low : PySem.W.codeIn K cd_low "_law_low_sheet" = true) (k_low : PySem.W.keepIn K (.ref f_low) = true)
    {f_least : Addr} {oc_least kV_least dc_least pm_least cd_least ct_least : Value} {od_least an_least : Option Addr} {sl_least : Array (Option Value)}
    (a_least : PySem.W.nsIn K mainGlobals "_law_least" = some (some (.ref f_least))) (l_least : K.lookup f_least = some ⟨oc_least, od_least, .func (PySem.W.fnOf "_law_least" "_law_least" (defArgs s_least) (defBody s_least) (defScope s_least) .none kV_least dc_least pm_least an_least cd_least ct_least), sl_least⟩) (c_least : PySem.W.codeIn K cd_least "_law_least" = true) (k_least : PySem.W.keepIn K (.ref f_least) = true)
    {f_lpower : Addr} {oc_lpower kV_lpower dc_lpower pm_lpower cd_lpower ct_lpower : Value} {od_lpower an_lpower : Option Addr} {sl_lpower : Array (Option Value)}
    (a_lpower : PySem.W.nsIn K mainGlobals "_law_power" = some (some (.ref f_lpower))) (l_lpower : K.lookup f_lpower = some ⟨oc_lpower, od_lpower, .func (PySem.W.fnOf "_law_power" "_law_power" (defArgs s_lpower) (defBody s_lpower) (defScope s_lpower) .none kV_lpower dc_lpower pm_lpower an_lpower cd_lpower ct_lpower), sl_lpower⟩) (c_lpower : PySem.W.codeIn K cd_lpower "_law_power" = true) (k_lpower : PySem.W.keepIn K (.ref f_lpower) = true)
    {f_right : Addr} {oc_right kV_right dc_right pm_right cd_right ct_right : Value} {od_right an_right : Option Addr} {sl_right : Array (Option Value)}
    (a_right : PySem.W.nsIn K mainGlobals "_law_right" = some (some (.ref f_right))) (l_right : K.lookup f_right = some ⟨oc_right, od_right, .func (PySem.W.fnOf "_law_right" "_law_right" (defArgs s_right) (defBody s_right) (defScope s_right) .none kV_right dc_right pm_right an_right cd_right ct_right), sl_right⟩) (c_right : PySem.W.codeIn K cd_right "_law_right" = true) (k_right : PySem.W.keepIn K (.ref f_right) = true)
    {f_hand : Addr} {oc_hand kV_hand dc_hand pm_hand cd_hand ct_hand : Value} {od_hand an_hand : Option Addr} {sl_hand : Array (Option Value)}
    (a_hand : PySem.W.nsIn K mainGlobals "_law_hand_right" = some (some (.ref f_hand))) (l_hand : K.lookup f_hand = some ⟨oc_hand, od_hand, .func (PySem.W.fnOf "_law_hand_right" "_law_hand_right" (defArgs s_hand) (defBody s_hand) (defScope s_hand) .none kV_hand dc_hand pm_hand an_hand cd_hand ct_hand), sl_hand⟩) (c_hand : PySem.W.codeIn K cd_hand "_law_hand_right" = true) (k_hand : PySem.W.keepIn K (.ref f_hand) = true)
    {f_law : Addr} {oc_law kV_law dc_law pm_law cd_law ct_law : Value} {od_law an_law : Option Addr} {sl_law : Array (Option Value)}
    (a_law : PySem.W.nsIn K mainGlobals "law" = some (some (.ref f_law))) (l_law : K.lookup f_law = some ⟨oc_law, od_law, .func (PySem.W.fnOf "law" "law" (defArgs s_law) (defBody s_law) (defScope s_law) .none kV_law dc_law pm_law an_law cd_law ct_law), sl_law⟩) (c_law : PySem.W.codeIn K cd_law "law" = true) (k_law : PySem.W.keepIn K (.ref f_law) = true)
    (z_len : PySem.W.nsIn K mainGlobals "len" = some none)
    (z_sum : PySem.W.nsIn K mainGlobals "sum" = some none)
    (z_max : PySem.W.nsIn K mainGlobals "max" = some none)
    (z_min : PySem.W.nsIn K mainGlobals "min" = some none)
    (z_int : PySem.W.nsIn K mainGlobals "int" = some none)
    (z_bool : PySem.W.nsIn K mainGlobals "bool" = some none)
    (z_sorted : PySem.W.nsIn K mainGlobals "sorted" = some none)
    (z_list : PySem.W.nsIn K mainGlobals "list" = some none)
    (z_tuple : PySem.W.nsIn K mainGlobals "tuple" = some none)
    (z_dict : PySem.W.nsIn K mainGlobals "dict" = some none)
    (z_repr : PySem.W.nsIn K mainGlobals "repr" = some none)
    (z_isinstance : PySem.W.nsIn K mainGlobals "isinstance" = some none)
    (z_all : PySem.W.nsIn K mainGlobals "all" = some none)
    (z_range : PySem.W.nsIn K mainGlobals "range" = some none)
    (z_enumerate : PySem.W.nsIn K mainGlobals "enumerate" = some none)
    (z_zip : PySem.W.nsIn K mainGlobals "zip" = some none)
    {t_MOST_UNKNOWNS : Tok} (i_MOST_UNKNOWNS : PySem.W.nsIn K mainGlobals "MOST_UNKNOWNS" = some (some (.int 4 t_MOST_UNKNOWNS)))
    {t_MOST_POINTS : Tok} (i_MOST_POINTS : PySem.W.nsIn K mainGlobals "MOST_POINTS" = some (some (.int 700 t_MOST_POINTS)))
    {t_MOST_TERMS : Tok} (i_MOST_TERMS : PySem.W.nsIn K mainGlobals "MOST_TERMS" = some (some (.int 700 t_MOST_TERMS)))
    {t_MOST_POWER : Tok} (i_MOST_POWER : PySem.W.nsIn K mainGlobals "MOST_POWER" = some (some (.int 30 t_MOST_POWER)))
    {t_MOST_POLYS : Tok} (i_MOST_POLYS : PySem.W.nsIn K mainGlobals "MOST_POLYS" = some (some (.int 4 t_MOST_POLYS)))
    {aP : Addr} {odP : Option Addr} {t2 t3 t5 t7 : Tok} {nP : Nat} {slP : Array (Option Value)} (i_PRIMES : PySem.W.nsIn K mainGlobals "PRIMES" = some (some (.ref aP))) (l_PRIMES : K.lookup aP = some ⟨.type "tuple", odP, .seq #[.int 2 t2, .int 3 t3, .int 5 t5, .int 7 t7] nP, slP⟩)
    (base : Heap) : Ok P w K mg base "law" 10 (sp_law K) := by
  have T : Txt K mg := ⟨PySem.W.mg_none_of X G z_len, PySem.W.mg_none_of X G z_sum, PySem.W.mg_none_of X G z_max, PySem.W.mg_none_of X G z_min, PySem.W.mg_none_of X G z_int, PySem.W.mg_none_of X G z_bool, PySem.W.mg_none_of X G z_sorted, PySem.W.mg_none_of X G z_list, PySem.W.mg_none_of X G z_tuple, PySem.W.mg_none_of X G z_dict, PySem.W.mg_none_of X G z_repr, PySem.W.mg_none_of X G z_isinstance, PySem.W.mg_none_of X G z_all, PySem.W.mg_none_of X G z_range, PySem.W.mg_none_of X G z_enumerate, PySem.W.mg_none_of X G z_zip, ⟨_, PySem.W.mg_of X G i_MOST_UNKNOWNS⟩, ⟨_, PySem.W.mg_of X G i_MOST_POINTS⟩, ⟨_, PySem.W.mg_of X G i_MOST_TERMS⟩, ⟨_, PySem.W.mg_of X G i_MOST_POWER⟩, ⟨_, PySem.W.mg_of X G i_MOST_POLYS⟩,
    ⟨aP, PySem.W.mg_of X G i_PRIMES, fun H => .inr ⟨_, #[.int 2 t2, .int 3 t3, .int 5 t5, .int 7 t7], nP, l_PRIMES, rfl, rfl, (by show 4 ≤ sizeLine; decide), .cons ⟨_, rfl⟩ (.cons ⟨_, rfl⟩ (.cons ⟨_, rfl⟩ (.cons ⟨_, rfl⟩ .nil)))⟩⟩⟩
  have D_is_whole : DefAt K mg "is_whole" s_is_whole ["value", "least", "most"] := ⟨f_is_whole, _, fun_mk (st := s_is_whole) l_is_whole c_is_whole k_is_whole, PySem.W.mg_of X G a_is_whole, (fun_mk (st := s_is_whole) l_is_whole c_is_whole k_is_whole).binds (ps := ["value", "least", "most"]) fun _ _ _ _ _ _ us hl => match us, hl with | [_, _, _], _ => rfl⟩
  have O_is_whole := ok_is_whole (P := P) (w := w) (base := base) T D_is_whole 
  have D_is_prime : DefAt K mg "is_prime" s_is_prime ["value"] := ⟨f_is_prime, _, fun_mk (st := s_is_prime) l_is_prime c_is_prime k_is_prime, PySem.W.mg_of X G a_is_prime, (fun_mk (st := s_is_prime) l_is_prime c_is_prime k_is_prime).binds (ps := ["value"]) fun _ _ _ _ _ _ us hl => match us, hl with | [_], _ => rfl⟩
  have O_is_prime := ok_is_prime (P := P) (w := w) (base := base) T D_is_prime O_is_whole
  have D_size_of : DefAt K mg "size_of" s_size_of ["field"] := ⟨f_size_of, _, fun_mk (st := s_size_of) l_size_of c_size_of k_size_of, PySem.W.mg_of X G a_size_of, (fun_mk (st := s_size_of) l_size_of c_size_of k_size_of).binds (ps := ["field"]) fun _ _ _ _ _ _ us hl => match us, hl with | [_], _ => rfl⟩
  have O_size_of := ok_size_of (P := P) (w := w) (base := base) T D_size_of 
  have D_need_field : DefAt K mg "need_field" s_need_field ["thing"] := ⟨f_need_field, _, fun_mk (st := s_need_field) l_need_field c_need_field k_need_field, PySem.W.mg_of X G a_need_field, (fun_mk (st := s_need_field) l_need_field c_need_field k_need_field).binds (ps := ["thing"]) fun _ _ _ _ _ _ us hl => match us, hl with | [_], _ => rfl⟩
  have O_need_field := ok_need_field (P := P) (w := w) (base := base) T D_need_field O_is_whole O_is_prime O_size_of
  have D_points_of : DefAt K mg "points_of" s_points_of ["lists"] := ⟨f_points_of, _, fun_mk (st := s_points_of) l_points_of c_points_of k_points_of, PySem.W.mg_of X G a_points_of, (fun_mk (st := s_points_of) l_points_of c_points_of k_points_of).binds (ps := ["lists"]) fun _ _ _ _ _ _ us hl => match us, hl with | [_], _ => rfl⟩
  have O_points_of := ok_points_of (P := P) (w := w) (base := base) T D_points_of 
  have D_allpoints : DefAt K mg "all_points" s_allpoints ["field"] := ⟨f_allpoints, _, fun_mk (st := s_allpoints) l_allpoints c_allpoints k_allpoints, PySem.W.mg_of X G a_allpoints, (fun_mk (st := s_allpoints) l_allpoints c_allpoints k_allpoints).binds (ps := ["field"]) fun _ _ _ _ _ _ us hl => match us, hl with | [_], _ => rfl⟩
  have O_allpoints := ok_all_points (P := P) (w := w) (base := base) T D_allpoints O_points_of
  have D_are_powers : DefAt K mg "are_powers" s_are_powers ["field", "value"] := ⟨f_are_powers, _, fun_mk (st := s_are_powers) l_are_powers c_are_powers k_are_powers, PySem.W.mg_of X G a_are_powers, (fun_mk (st := s_are_powers) l_are_powers c_are_powers k_are_powers).binds (ps := ["field", "value"]) fun _ _ _ _ _ _ us hl => match us, hl with | [_, _], _ => rfl⟩
  have O_are_powers := ok_are_powers (P := P) (w := w) (base := base) T D_are_powers O_is_whole
  have D_is_term : DefAt K mg "is_term" s_is_term ["field", "value"] := ⟨f_is_term, _, fun_mk (st := s_is_term) l_is_term c_is_term k_is_term, PySem.W.mg_of X G a_is_term, (fun_mk (st := s_is_term) l_is_term c_is_term k_is_term).binds (ps := ["field", "value"]) fun _ _ _ _ _ _ us hl => match us, hl with | [_, _], _ => rfl⟩
  have O_is_term := ok_is_term (P := P) (w := w) (base := base) T D_is_term O_is_whole O_are_powers
  have D_wrong_term : DefAt K mg "wrong_term" s_wrong_term ["field", "thing"] := ⟨f_wrong_term, _, fun_mk (st := s_wrong_term) l_wrong_term c_wrong_term k_wrong_term, PySem.W.mg_of X G a_wrong_term, (fun_mk (st := s_wrong_term) l_wrong_term c_wrong_term k_wrong_term).binds (ps := ["field", "thing"]) fun _ _ _ _ _ _ us hl => match us, hl with | [_, _], _ => rfl⟩
  have O_wrong_term := ok_wrong_term (P := P) (w := w) (base := base) T D_wrong_term O_is_term
  have D_raised : DefAt K mg "raised" s_raised ["base", "power", "prime"] := ⟨f_raised, _, fun_mk (st := s_raised) l_raised c_raised k_raised, PySem.W.mg_of X G a_raised, (fun_mk (st := s_raised) l_raised c_raised k_raised).binds (ps := ["base", "power", "prime"]) fun _ _ _ _ _ _ us hl => match us, hl with | [_, _, _], _ => rfl⟩
  have O_raised := ok_raised (P := P) (w := w) (base := base) T D_raised 
  have D_product_at : DefAt K mg "product_at" s_product_at ["prime", "powers", "point"] := ⟨f_product_at, _, fun_mk (st := s_product_at) l_product_at c_product_at k_product_at, PySem.W.mg_of X G a_product_at, (fun_mk (st := s_product_at) l_product_at c_product_at k_product_at).binds (ps := ["prime", "powers", "point"]) fun _ _ _ _ _ _ us hl => match us, hl with | [_, _, _], _ => rfl⟩
  have O_product_at := ok_product_at (P := P) (w := w) (base := base) T D_product_at O_raised
  have D_value_of : DefAt K mg "value_of" s_value_of ["field", "poly", "point"] := ⟨f_value_of, _, fun_mk (st := s_value_of) l_value_of c_value_of k_value_of, PySem.W.mg_of X G a_value_of, (fun_mk (st := s_value_of) l_value_of c_value_of k_value_of).binds (ps := ["field", "poly", "point"]) fun _ _ _ _ _ _ us hl => match us, hl with | [_, _, _], _ => rfl⟩
  have O_value_of := ok_value_of (P := P) (w := w) (base := base) T D_value_of O_product_at
  have D_degree_of : DefAt K mg "degree_of" s_degree_of ["poly"] := ⟨f_degree_of, _, fun_mk (st := s_degree_of) l_degree_of c_degree_of k_degree_of, PySem.W.mg_of X G a_degree_of, (fun_mk (st := s_degree_of) l_degree_of c_degree_of k_degree_of).binds (ps := ["poly"]) fun _ _ _ _ _ _ us hl => match us, hl with | [_], _ => rfl⟩
  have O_degree_of := ok_degree_of (P := P) (w := w) (base := base) T D_degree_of 
  have D_less_power : DefAt K mg "less_power" s_less_power ["power", "prime"] := ⟨f_less_power, _, fun_mk (st := s_less_power) l_less_power c_less_power k_less_power, PySem.W.mg_of X G a_less_power, (fun_mk (st := s_less_power) l_less_power c_less_power k_less_power).binds (ps := ["power", "prime"]) fun _ _ _ _ _ _ us hl => match us, hl with | [_, _], _ => rfl⟩
  have O_less_power := ok_less_power (P := P) (w := w) (base := base) T D_less_power 
  have D_tidy : DefAt K mg "tidy" s_tidy ["prime", "rests"] := ⟨f_tidy, _, fun_mk (st := s_tidy) l_tidy c_tidy k_tidy, PySem.W.mg_of X G a_tidy, (fun_mk (st := s_tidy) l_tidy c_tidy k_tidy).binds (ps := ["prime", "rests"]) fun _ _ _ _ _ _ us hl => match us, hl with | [_, _], _ => rfl⟩
  have O_tidy := ok_tidy (P := P) (w := w) (base := base) T D_tidy 
  have D_reduced_of : DefAt K mg "reduced_of" s_reduced_of ["field", "poly"] := ⟨f_reduced_of, _, fun_mk (st := s_reduced_of) l_reduced_of c_reduced_of k_reduced_of, PySem.W.mg_of X G a_reduced_of, (fun_mk (st := s_reduced_of) l_reduced_of c_reduced_of k_reduced_of).binds (ps := ["field", "poly"]) fun _ _ _ _ _ _ us hl => match us, hl with | [_, _], _ => rfl⟩
  have O_reduced_of := ok_reduced_of (P := P) (w := w) (base := base) T D_reduced_of O_less_power O_tidy
  have D_line_poly : DefAt K mg "line_poly" s_line_poly ["prime", "rests"] := ⟨f_line_poly, _, fun_mk (st := s_line_poly) l_line_poly c_line_poly k_line_poly, PySem.W.mg_of X G a_line_poly, (fun_mk (st := s_line_poly) l_line_poly c_line_poly k_line_poly).binds (ps := ["prime", "rests"]) fun _ _ _ _ _ _ us hl => match us, hl with | [_, _], _ => rfl⟩
  have O_line_poly := ok_line_poly (P := P) (w := w) (base := base) T D_line_poly O_raised
  have D_poly_by : DefAt K mg "poly_by" s_poly_by ["field", "rests"] := ⟨f_poly_by, _, fun_mk (st := s_poly_by) l_poly_by c_poly_by k_poly_by, PySem.W.mg_of X G a_poly_by, (fun_mk (st := s_poly_by) l_poly_by c_poly_by k_poly_by).binds (ps := ["field", "rests"]) fun _ _ _ _ _ _ us hl => match us, hl with | [_, _], _ => rfl⟩
  have O_poly_by := ok_poly_by (P := P) (w := w) (base := base) T D_poly_by O_line_poly O_tidy
  have D_check_system : DefAt K mg "check_system" s_check_system ["field", "system"] := ⟨f_check_system, _, fun_mk (st := s_check_system) l_check_system c_check_system k_check_system, PySem.W.mg_of X G a_check_system, (fun_mk (st := s_check_system) l_check_system c_check_system k_check_system).binds (ps := ["field", "system"]) fun _ _ _ _ _ _ us hl => match us, hl with | [_, _], _ => rfl⟩
  have O_check_system := ok_check_system (P := P) (w := w) (base := base) T D_check_system O_wrong_term O_degree_of
  have D_need_system : DefAt K mg "need_system" s_need_system ["field", "thing"] := ⟨f_need_system, _, fun_mk (st := s_need_system) l_need_system c_need_system k_need_system, PySem.W.mg_of X G a_need_system, (fun_mk (st := s_need_system) l_need_system c_need_system k_need_system).binds (ps := ["field", "thing"]) fun _ _ _ _ _ _ us hl => match us, hl with | [_, _], _ => rfl⟩
  have O_need_system := ok_need_system (P := P) (w := w) (base := base) T D_need_system O_need_field O_check_system
  have D_zeros_of : DefAt K mg "zeros_of" s_zeros_of ["field", "system"] := ⟨f_zeros_of, _, fun_mk (st := s_zeros_of) l_zeros_of c_zeros_of k_zeros_of, PySem.W.mg_of X G a_zeros_of, (fun_mk (st := s_zeros_of) l_zeros_of c_zeros_of k_zeros_of).binds (ps := ["field", "system"]) fun _ _ _ _ _ _ us hl => match us, hl with | [_, _], _ => rfl⟩
  have O_zeros_of := ok_zeros_of (P := P) (w := w) (base := base) T D_zeros_of O_allpoints O_reduced_of O_value_of
  have D_zeros : DefAt K mg "zeros" s_zeros ["field", "system"] := ⟨f_zeros, _, fun_mk (st := s_zeros) l_zeros c_zeros k_zeros, PySem.W.mg_of X G a_zeros, (fun_mk (st := s_zeros) l_zeros c_zeros k_zeros).binds (ps := ["field", "system"]) fun _ _ _ _ _ _ us hl => match us, hl with | [_, _], _ => rfl⟩
  have O_zeros := ok_zeros (P := P) (w := w) (base := base) T D_zeros O_need_system O_zeros_of
  have D_count : DefAt K mg "count" s_count ["field", "system"] := ⟨f_count, _, fun_mk (st := s_count) l_count c_count k_count, PySem.W.mg_of X G a_count, (fun_mk (st := s_count) l_count c_count k_count).binds (ps := ["field", "system"]) fun _ _ _ _ _ _ us hl => match us, hl with | [_, _], _ => rfl⟩
  have O_count := ok_count (P := P) (w := w) (base := base) T D_count O_need_system O_zeros_of
  have D_poly_on : DefAt K mg "poly_on" s_poly_on ["field", "some", "rest", "other"] := ⟨f_poly_on, _, fun_mk (st := s_poly_on) l_poly_on c_poly_on k_poly_on, PySem.W.mg_of X G a_poly_on, (fun_mk (st := s_poly_on) l_poly_on c_poly_on k_poly_on).binds (ps := ["field", "some", "rest", "other"]) fun _ _ _ _ _ _ us hl => match us, hl with | [_, _, _, _], _ => rfl⟩
  have O_poly_on := ok_poly_on (P := P) (w := w) (base := base) T D_poly_on O_allpoints O_poly_by
  have D_indicator_of : DefAt K mg "indicator_of" s_indicator_of ["field", "system"] := ⟨f_indicator_of, _, fun_mk (st := s_indicator_of) l_indicator_of c_indicator_of k_indicator_of, PySem.W.mg_of X G a_indicator_of, (fun_mk (st := s_indicator_of) l_indicator_of c_indicator_of k_indicator_of).binds (ps := ["field", "system"]) fun _ _ _ _ _ _ us hl => match us, hl with | [_, _], _ => rfl⟩
  have O_indicator_of := ok_indicator_of (P := P) (w := w) (base := base) T D_indicator_of O_zeros_of O_poly_on
  have D_promise_of : DefAt K mg "promise_of" s_promise_of ["field", "system"] := ⟨f_promise_of, _, fun_mk (st := s_promise_of) l_promise_of c_promise_of k_promise_of, PySem.W.mg_of X G a_promise_of, (fun_mk (st := s_promise_of) l_promise_of c_promise_of k_promise_of).binds (ps := ["field", "system"]) fun _ _ _ _ _ _ us hl => match us, hl with | [_, _], _ => rfl⟩
  have O_promise_of := ok_promise_of (P := P) (w := w) (base := base) T D_promise_of O_degree_of
  have D_promise : DefAt K mg "promise" s_promise ["field", "system"] := ⟨f_promise, _, fun_mk (st := s_promise) l_promise c_promise k_promise, PySem.W.mg_of X G a_promise, (fun_mk (st := s_promise) l_promise c_promise k_promise).binds (ps := ["field", "system"]) fun _ _ _ _ _ _ us hl => match us, hl with | [_, _], _ => rfl⟩
  have O_promise := ok_promise (P := P) (w := w) (base := base) T D_promise O_need_system O_promise_of
  have D_top : DefAt K mg "top" s_top ["field", "system"] := ⟨f_top, _, fun_mk (st := s_top) l_top c_top k_top, PySem.W.mg_of X G a_top, (fun_mk (st := s_top) l_top c_top k_top).binds (ps := ["field", "system"]) fun _ _ _ _ _ _ us hl => match us, hl with | [_, _], _ => rfl⟩
  have O_top := ok_top (P := P) (w := w) (base := base) T D_top O_need_system O_indicator_of
  have D_least_zeros : DefAt K mg "least_zeros" s_least_zeros ["field", "system"] := ⟨f_least_zeros, _, fun_mk (st := s_least_zeros) l_least_zeros c_least_zeros k_least_zeros, PySem.W.mg_of X G a_least_zeros, (fun_mk (st := s_least_zeros) l_least_zeros c_least_zeros k_least_zeros).binds (ps := ["field", "system"]) fun _ _ _ _ _ _ us hl => match us, hl with | [_, _], _ => rfl⟩
  have O_least_zeros := ok_least_zeros (P := P) (w := w) (base := base) T D_least_zeros O_need_system O_degree_of
  have D_size : DefAt K mg "_law_size" s_size ["frame"] := ⟨f_size, _, fun_mk (st := s_size) l_size c_size k_size, PySem.W.mg_of X G a_size, (fun_mk (st := s_size) l_size c_size k_size).binds (ps := ["frame"]) fun _ _ _ _ _ _ us hl => match us, hl with | [_], _ => rfl⟩
  have O_size := ok_size (P := P) (w := w) (base := base) T D_size 
  have D_spots : DefAt K mg "_law_spots" s_spots ["frame"] := ⟨f_spots, _, fun_mk (st := s_spots) l_spots c_spots k_spots, PySem.W.mg_of X G a_spots, (fun_mk (st := s_spots) l_spots c_spots k_spots).binds (ps := ["frame"]) fun _ _ _ _ _ _ us hl => match us, hl with | [_], _ => rfl⟩
  have O_spots := ok_spots (P := P) (w := w) (base := base) T D_spots 
  have D_high : DefAt K mg "_law_high" s_high ["sheet"] := ⟨f_high, _, fun_mk (st := s_high) l_high c_high k_high, PySem.W.mg_of X G a_high, (fun_mk (st := s_high) l_high c_high k_high).binds (ps := ["sheet"]) fun _ _ _ _ _ _ us hl => match us, hl with | [_], _ => rfl⟩
  have O_high := ok_high (P := P) (w := w) (base := base) T D_high 
  have D_lraised : DefAt K mg "_law_raised" s_lraised ["base", "power", "prime"] := ⟨f_lraised, _, fun_mk (st := s_lraised) l_lraised c_lraised k_lraised, PySem.W.mg_of X G a_lraised, (fun_mk (st := s_lraised) l_lraised c_lraised k_lraised).binds (ps := ["base", "power", "prime"]) fun _ _ _ _ _ _ us hl => match us, hl with | [_, _, _], _ => rfl⟩
  have O_lraised := ok_lraised (P := P) (w := w) (base := base) T D_lraised 
  have D_worth : DefAt K mg "_law_worth" s_worth ["frame", "sheet", "spot"] := ⟨f_worth, _, fun_mk (st := s_worth) l_worth c_worth k_worth, PySem.W.mg_of X G a_worth, (fun_mk (st := s_worth) l_worth c_worth k_worth).binds (ps := ["frame", "sheet", "spot"]) fun _ _ _ _ _ _ us hl => match us, hl with | [_, _, _], _ => rfl⟩
  have O_worth := ok_worth (P := P) (w := w) (base := base) T D_worth O_lraised
  have D_lzeros : DefAt K mg "_law_zeros" s_lzeros ["frame", "sheets"] := ⟨f_lzeros, _, fun_mk (st := s_lzeros) l_lzeros c_lzeros k_lzeros, PySem.W.mg_of X G a_lzeros, (fun_mk (st := s_lzeros) l_lzeros c_lzeros k_lzeros).binds (ps := ["frame", "sheets"]) fun _ _ _ _ _ _ us hl => match us, hl with | [_, _], _ => rfl⟩
  have O_lzeros := ok_lzeros (P := P) (w := w) (base := base) T D_lzeros O_spots O_worth
  have D_least : DefAt K mg "_law_least" s_least ["sheets", "frame"] := ⟨f_least, _, fun_mk (st := s_least) l_least c_least k_least, PySem.W.mg_of X G a_least, (fun_mk (st := s_least) l_least c_least k_least).binds (ps := ["sheets", "frame"]) fun _ _ _ _ _ _ us hl => match us, hl with | [_, _], _ => rfl⟩
  have O_least := ok_least (P := P) (w := w) (base := base) T D_least O_high
  have D_lpower : DefAt K mg "_law_power" s_lpower ["prime", "many"] := ⟨f_lpower, _, fun_mk (st := s_lpower) l_lpower c_lpower k_lpower, PySem.W.mg_of X G a_lpower, (fun_mk (st := s_lpower) l_lpower c_lpower k_lpower).binds (ps := ["prime", "many"]) fun _ _ _ _ _ _ us hl => match us, hl with | [_, _], _ => rfl⟩
  have O_lpower := ok_lpower (P := P) (w := w) (base := base) T D_lpower 
  have D_right : DefAt K mg "_law_right" s_right ["frame", "sheets"] := ⟨f_right, _, fun_mk (st := s_right) l_right c_right k_right, PySem.W.mg_of X G a_right, (fun_mk (st := s_right) l_right c_right k_right).binds (ps := ["frame", "sheets"]) fun _ _ _ _ _ _ us hl => match us, hl with | [_, _], _ => rfl⟩
  have O_right := ok_right (P := P) (w := w) (base := base) T D_right O_lzeros O_zeros O_count O_least O_high O_promise O_least_zeros O_lpower O_top
  have D_hand : DefAt K mg "_law_hand_right" s_hand [] := ⟨f_hand, _, fun_mk (st := s_hand) l_hand c_hand k_hand, PySem.W.mg_of X G a_hand, (fun_mk (st := s_hand) l_hand c_hand k_hand).binds (ps := []) fun _ _ _ _ _ _ us hl => match us, hl with | [], _ => rfl⟩
  have O_hand := ok_hand (P := P) (w := w) (base := base) T D_hand O_right O_count O_promise O_top
  have D_draw : DefAt K mg "_law_draw" s_draw ["m", "many"] := ⟨f_draw, _, fun_mk (st := s_draw) l_draw c_draw k_draw, PySem.W.mg_of X G a_draw, (fun_mk (st := s_draw) l_draw c_draw k_draw).binds (ps := ["m", "many"]) fun _ _ _ _ _ _ us hl => match us, hl with | [_, _], _ => rfl⟩
  have O_draw := ok_draw (P := P) (w := w) (base := base) T D_draw 
  have D_of : DefAt K mg "_law_of" s_of ["m", "some"] := ⟨f_of, _, fun_mk (st := s_of) l_of c_of k_of, PySem.W.mg_of X G a_of, (fun_mk (st := s_of) l_of c_of k_of).binds (ps := ["m", "some"]) fun _ _ _ _ _ _ us hl => match us, hl with | [_, _], _ => rfl⟩
  have O_of := ok_of_ (P := P) (w := w) (base := base) T D_of O_draw
  have D_frame : DefAt K mg "_law_frame" s_frame ["m", "most"] := ⟨f_frame, _, fun_mk (st := s_frame) l_frame c_frame k_frame, PySem.W.mg_of X G a_frame, (fun_mk (st := s_frame) l_frame c_frame k_frame).binds (ps := ["m", "most"]) fun _ _ _ _ _ _ us hl => match us, hl with | [_, _], _ => rfl⟩
  have O_frame := ok_frame (P := P) (w := w) (base := base) T D_frame O_of O_size
  have D_sheet : DefAt K mg "_law_sheet" s_sheet ["m", "frame", "many", "high"] := ⟨f_sheet, _, fun_mk (st := s_sheet) l_sheet c_sheet k_sheet, PySem.W.mg_of X G a_sheet, (fun_mk (st := s_sheet) l_sheet c_sheet k_sheet).binds (ps := ["m", "frame", "many", "high"]) fun _ _ _ _ _ _ us hl => match us, hl with | [_, _, _, _], _ => rfl⟩
  have O_sheet := ok_sheet (P := P) (w := w) (base := base) T D_sheet O_draw
  have D_sheets : DefAt K mg "_law_sheets" s_sheets ["m", "frame", "high"] := ⟨f_sheets, _, fun_mk (st := s_sheets) l_sheets c_sheets k_sheets, PySem.W.mg_of X G a_sheets, (fun_mk (st := s_sheets) l_sheets c_sheets k_sheets).binds (ps := ["m", "frame", "high"]) fun _ _ _ _ _ _ us hl => match us, hl with | [_, _, _], _ => rfl⟩
  have O_sheets := ok_sheets (P := P) (w := w) (base := base) T D_sheets O_of O_sheet O_high
  have D_low : DefAt K mg "_law_low_sheet" s_low ["m", "frame"] := ⟨f_low, _, fun_mk (st := s_low) l_low c_low k_low, PySem.W.mg_of X G a_low, (fun_mk (st := s_low) l_low c_low k_low).binds (ps := ["m", "frame"]) fun _ _ _ _ _ _ us hl => match us, hl with | [_, _], _ => rfl⟩
  have O_low := ok_low (P := P) (w := w) (base := base) T D_low O_draw
  have D_begun : DefAt K mg "_law_begun" s_begun ["script", "k"] := ⟨f_begun, _, fun_mk (st := s_begun) l_begun c_begun k_begun, PySem.W.mg_of X G a_begun, (fun_mk (st := s_begun) l_begun c_begun k_begun).binds (ps := ["script", "k"]) fun _ _ _ _ _ _ us hl => match us, hl with | [_, _], _ => rfl⟩
  have O_begun := ok_begun (P := P) (w := w) (base := base) T D_begun 
  have D_law : DefAt K mg "law" s_law ["script"] := ⟨f_law, _, fun_mk (st := s_law) l_law c_law k_law, PySem.W.mg_of X G a_law, (fun_mk (st := s_law) l_law c_law k_law).binds (ps := ["script"]) fun _ _ _ _ _ _ us hl => match us, hl with | [_], _ => rfl⟩
  have O_law := ok_law (P := P) (w := w) (base := base) T D_law O_begun O_frame O_sheets O_right O_of O_low O_draw O_hand
  exact O_law
end Pz
open PySem PyProof.Rows PySem.W in
set_option maxRecDepth 110000 in
set_option maxHeartbeats 0 in
theorem PySem.Challenge.cw_primezeros_k05_whole_promises_holds : PySem.Challenge.rw_primezeros_k05_whole_promises.Holds := by
  w_on
  o_law
  k_head
  (case hw => w_witness2)
  k_fill
  refine Pz.walk (l := PySem.Challenge.rw_primezeros_k05_whole_promises) rfl rfl rfl (fun w h Y => PySem.W.kIn_of Y) ?F
  case F =>
    intro w mg fa h KX G hmg base _ _
    refine' Pz.all_mk KX G ?a_is_whole ?l_is_whole ?c_is_whole ?k_is_whole ?a_is_prime ?l_is_prime ?c_is_prime ?k_is_prime ?a_size_of ?l_size_of ?c_size_of ?k_size_of ?a_need_field ?l_need_field ?c_need_field ?k_need_field ?a_points_of ?l_points_of ?c_points_of ?k_points_of ?a_allpoints ?l_allpoints ?c_allpoints ?k_allpoints ?a_are_powers ?l_are_powers ?c_are_powers ?k_are_powers ?a_is_term ?l_is_term ?c_is_term ?k_is_term ?a_wrong_term ?l_wrong_term ?c_wrong_term ?k_wrong_term ?a_raised ?l_raised ?c_raised ?k_raised ?a_product_at ?l_product_at ?c_product_at ?k_product_at ?a_value_of ?l_value_of ?c_value_of ?k_value_of ?a_degree_of ?l_degree_of ?c_degree_of ?k_degree_of ?a_less_power ?l_less_power ?c_less_power ?k_less_power ?a_tidy ?l_tidy ?c_tidy ?k_tidy ?a_reduced_of ?l_reduced_of ?c_reduced_of ?k_reduced_of ?a_line_poly ?l_line_poly ?c_line_poly ?k_line_poly ?a_poly_by ?l_poly_by ?c_poly_by ?k_poly_by ?a_check_system ?l_check_system ?c_check_system ?k_check_system ?a_need_system ?l_need_system ?c_need_system ?k_need_system ?a_zeros_of ?l_zeros_of ?c_zeros_of ?k_zeros_of ?a_zeros ?l_zeros ?c_zeros ?k_zeros ?a_count ?l_count ?c_count ?k_count ?a_poly_on ?l_poly_on ?c_poly_on ?k_poly_on ?a_indicator_of ?l_indicator_of ?c_indicator_of ?k_indicator_of ?a_promise_of ?l_promise_of ?c_promise_of ?k_promise_of ?a_promise ?l_promise ?c_promise ?k_promise ?a_top ?l_top ?c_top ?k_top ?a_least_zeros ?l_least_zeros ?c_least_zeros ?k_least_zeros ?a_begun ?l_begun ?c_begun ?k_begun ?a_draw ?l_draw ?c_draw ?k_draw ?a_of ?l_of ?c_of ?k_of ?a_frame ?l_frame ?c_frame ?k_frame ?a_size ?l_size ?c_size ?k_size ?a_spots ?l_spots ?c_spots ?k_spots ?a_sheet ?l_sheet ?c_sheet ?k_sheet ?a_high ?l_high ?c_high ?k_high ?a_sheets ?l_sheets ?c_sheets ?k_sheets ?a_lraised ?l_lraised ?c_lraised ?k_lraised ?a_worth ?l_worth ?c_worth ?k_worth ?a_lzeros ?l_lzeros ?c_lzeros ?k_lzeros ?a_low ?l_low ?c_low ?k_low ?a_least ?l_least ?c_least ?k_least ?a_lpower ?l_lpower ?c_lpower ?k_lpower ?a_right ?l_right ?c_right ?k_right ?a_hand ?l_hand ?c_hand ?k_hand ?a_law ?l_law ?c_law ?k_law ?z_len ?z_sum ?z_max ?z_min ?z_int ?z_bool ?z_sorted ?z_list ?z_tuple ?z_dict ?z_repr ?z_isinstance ?z_all ?z_range ?z_enumerate ?z_zip ?i_MOST_UNKNOWNS ?i_MOST_POINTS ?i_MOST_TERMS ?i_MOST_POWER ?i_MOST_POLYS ?i_PRIMES ?l_PRIMES base
    (case a_is_whole => k_is)
    (case l_is_whole => k_is)
    (case c_is_whole => k_is)
    (case k_is_whole => k_is)
    (case a_is_prime => k_is)
    (case l_is_prime => k_is)
    (case c_is_prime => k_is)
    (case k_is_prime => k_is)
    (case a_size_of => k_is)
    (case l_size_of => k_is)
    (case c_size_of => k_is)
    (case k_size_of => k_is)
    (case a_need_field => k_is)
    (case l_need_field => k_is)
    (case c_need_field => k_is)
    (case k_need_field => k_is)
    (case a_points_of => k_is)
    (case l_points_of => k_is)
    (case c_points_of => k_is)
    (case k_points_of => k_is)
    (case a_allpoints => k_is)
    (case l_allpoints => k_is)
    (case c_allpoints => k_is)
    (case k_allpoints => k_is)
    (case a_are_powers => k_is)
    (case l_are_powers => k_is)
    (case c_are_powers => k_is)
    (case k_are_powers => k_is)
    (case a_is_term => k_is)
    (case l_is_term => k_is)
    (case c_is_term => k_is)
    (case k_is_term => k_is)
    (case a_wrong_term => k_is)
    (case l_wrong_term => k_is)
    (case c_wrong_term => k_is)
    (case k_wrong_term => k_is)
    (case a_raised => k_is)
    (case l_raised => k_is)
    (case c_raised => k_is)
    (case k_raised => k_is)
    (case a_product_at => k_is)
    (case l_product_at => k_is)
    (case c_product_at => k_is)
    (case k_product_at => k_is)
    (case a_value_of => k_is)
    (case l_value_of => k_is)
    (case c_value_of => k_is)
    (case k_value_of => k_is)
    (case a_degree_of => k_is)
    (case l_degree_of => k_is)
    (case c_degree_of => k_is)
    (case k_degree_of => k_is)
    (case a_less_power => k_is)
    (case l_less_power => k_is)
    (case c_less_power => k_is)
    (case k_less_power => k_is)
    (case a_tidy => k_is)
    (case l_tidy => k_is)
    (case c_tidy => k_is)
    (case k_tidy => k_is)
    (case a_reduced_of => k_is)
    (case l_reduced_of => k_is)
    (case c_reduced_of => k_is)
    (case k_reduced_of => k_is)
    (case a_line_poly => k_is)
    (case l_line_poly => k_is)
    (case c_line_poly => k_is)
    (case k_line_poly => k_is)
    (case a_poly_by => k_is)
    (case l_poly_by => k_is)
    (case c_poly_by => k_is)
    (case k_poly_by => k_is)
    (case a_check_system => k_is)
    (case l_check_system => k_is)
    (case c_check_system => k_is)
    (case k_check_system => k_is)
    (case a_need_system => k_is)
    (case l_need_system => k_is)
    (case c_need_system => k_is)
    (case k_need_system => k_is)
    (case a_zeros_of => k_is)
    (case l_zeros_of => k_is)
    (case c_zeros_of => k_is)
    (case k_zeros_of => k_is)
    (case a_zeros => k_is)
    (case l_zeros => k_is)
    (case c_zeros => k_is)
    (case k_zeros => k_is)
    (case a_count => k_is)
    (case l_count => k_is)
    (case c_count => k_is)
    (case k_count => k_is)
    (case a_poly_on => k_is)
    (case l_poly_on => k_is)
    (case c_poly_on => k_is)
    (case k_poly_on => k_is)
    (case a_indicator_of => k_is)
    (case l_indicator_of => k_is)
    (case c_indicator_of => k_is)
    (case k_indicator_of => k_is)
    (case a_promise_of => k_is)
    (case l_promise_of => k_is)
    (case c_promise_of => k_is)
    (case k_promise_of => k_is)
    (case a_promise => k_is)
    (case l_promise => k_is)
    (case c_promise => k_is)
    (case k_promise => k_is)
    (case a_top => k_is)
    (case l_top => k_is)
    (case c_top => k_is)
    (case k_top => k_is)
    (case a_least_zeros => k_is)
    (case l_least_zeros => k_is)
    (case c_least_zeros => k_is)
    (case k_least_zeros => k_is)
    (case a_begun => k_is)
    (case l_begun => k_is)
    (case c_begun => k_is)
    (case k_begun => k_is)
    (case a_draw => k_is)
    (case l_draw => k_is)
    (case c_draw => k_is)
    (case k_draw => k_is)
    (case a_of => k_is)
    (case l_of => k_is)
    (case c_of => k_is)
    (case k_of => k_is)
    (case a_frame => k_is)
    (case l_frame => k_is)
    (case c_frame => k_is)
    (case k_frame => k_is)
    (case a_size => k_is)
    (case l_size => k_is)
    (case c_size => k_is)
    (case k_size => k_is)
    (case a_spots => k_is)
    (case l_spots => k_is)
    (case c_spots => k_is)
    (case k_spots => k_is)
    (case a_sheet => k_is)
    (case l_sheet => k_is)
    (case c_sheet => k_is)
    (case k_sheet => k_is)
    (case a_high => k_is)
    (case l_high => k_is)
    (case c_high => k_is)
    (case k_high => k_is)
    (case a_sheets => k_is)
    (case l_sheets => k_is)
    (case c_sheets => k_is)
    (case k_sheets => k_is)
    (case a_lraised => k_is)
    (case l_lraised => k_is)
    (case c_lraised => k_is)
    (case k_lraised => k_is)
    (case a_worth => k_is)
    (case l_worth => k_is)
    (case c_worth => k_is)
    (case k_worth => k_is)
    (case a_lzeros => k_is)
    (case l_lzeros => k_is)
    (case c_lzeros => k_is)
    (case k_lzeros => k_is)
    (case a_low => k_is)
    (case l_low => k_is)
    (case c_low => k_is)
    (case k_low => k_is)
    (case a_least => k_is)
    (case l_least => k_is)
    (case c_least => k_is)
    (case k_least => k_is)
    (case a_lpower => k_is)
    (case l_lpower => k_is)
    (case c_lpower => k_is)
    (case k_lpower => k_is)
    (case a_right => k_is)
    (case l_right => k_is)
    (case c_right => k_is)
    (case k_right => k_is)
    (case a_hand => k_is)
    (case l_hand => k_is)
    (case c_hand => k_is)
    (case k_hand => k_is)
    (case a_law => k_is)
    (case l_law => k_is)
    (case c_law => k_is)
    (case k_law => k_is)
    (case z_len => k_is)
    (case z_sum => k_is)
    (case z_max => k_is)
    (case z_min => k_is)
    (case z_int => k_is)
    (case z_bool => k_is)
    (case z_sorted => k_is)
    (case z_list => k_is)
    (case z_tuple => k_is)
    (case z_dict => k_is)
    (case z_repr => k_is)
    (case z_isinstance => k_is)
    (case z_all => k_is)
    (case z_range => k_is)
    (case z_enumerate => k_is)
    (case z_zip => k_is)
    (case i_MOST_UNKNOWNS => k_is)
    (case i_MOST_POINTS => k_is)
    (case i_MOST_TERMS => k_is)
    (case i_MOST_POWER => k_is)
    (case i_MOST_POLYS => k_is)
    (case i_PRIMES => k_is)
    (case l_PRIMES => k_is)
