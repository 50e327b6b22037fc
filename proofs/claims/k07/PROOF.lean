import PyProof.Rows.All
import Wide.All
import OpenK.AllK
import Wide.FinOn
import PySem.Challenge.RW_gapring_k07_what_was_ahead
import HandS.ForMost
import HandS.IsInst
import KE.KDictDisplayH
import HandS.Rev
import HandS.RevRange
import HandS.Zip
import HandS.Conv
set_option Elab.async false
set_option linter.all false
set_option maxRecDepth 100000
set_option maxHeartbeats 8000000
/-! Rings of numbers and their gaps: plain mathematics. -/
namespace GR
abbrev Fn := Int → Int
def D (r : Fn) : Fn := fun i => ((r i - r (i + 1)).natAbs : Int)
def itD : Nat → Fn → Fn
  | 0, r => r
  | t + 1, r => itD t (D r)
theorem itD_add (t u : Nat) (r : Fn) : itD (t + u) r = itD u (itD t r) := by
  induction t generalizing r with
  | zero => rw [Nat.zero_add]; rfl
  | succ t ih => rw [Nat.succ_add]; exact ih (D r)
theorem itD_succ (t : Nat) (r : Fn) : itD (t + 1) r = D (itD t r) := itD_add t 1 r
/-! ### lists -/
def gp (ns : List Int) : List Int := (List.range ns.length).map fun k => ((ns.getD k 0 - ns.getD ((k + 1) % ns.length) 0).natAbs : Int)
def it : Nat → List Int → List Int
  | 0, l => l
  | t + 1, l => it t (gp l)
theorem it_add (t u : Nat) (r : List Int) : it (t + u) r = it u (it t r) := by
  induction t generalizing r with
  | zero => rw [Nat.zero_add]; rfl
  | succ t ih => rw [Nat.succ_add]; exact ih (gp r)
theorem it_succ (t : Nat) (r : List Int) : it (t + 1) r = gp (it t r) := it_add t 1 r
theorem gp_length (ns : List Int) : (gp ns).length = ns.length := by
  unfold gp
  rw [List.length_map, List.length_range]
theorem it_length (t : Nat) (ns : List Int) : (it t ns).length = ns.length := by
  induction t generalizing ns with
  | zero => rfl
  | succ t ih => exact (ih (gp ns)).trans (gp_length ns)
theorem gp_get {ns : List Int} {k : Nat} (h : k < ns.length) : (gp ns).getD k 0 = ((ns.getD k 0 - ns.getD ((k + 1) % ns.length) 0).natAbs : Int) := by
  unfold gp
  rw [List.getD_eq_getElem?_getD, List.getElem?_map, List.getElem?_range h]
  rfl
/-- a list, round and round -/
def fn (ns : List Int) : Fn := fun i => ns.getD (i % (ns.length : Int)).toNat 0
theorem fn_nat {ns : List Int} {k : Nat} (h : k < ns.length) : fn ns (k : Int) = ns.getD k 0 := by
  unfold fn
  have e : ((k : Int) % (ns.length : Int)).toNat = k := by
    rw [← Int.natCast_emod, Int.toNat_natCast]
    exact Nat.mod_eq_of_lt h
  rw [e]
theorem fn_per (ns : List Int) (i : Int) : fn ns (i + ns.length) = fn ns i := by
  unfold fn
  rw [Int.add_emod_right]
theorem fn_mod (ns : List Int) (i : Int) : fn ns (i % (ns.length : Int)) = fn ns i := by
  unfold fn
  rw [Int.emod_emod]
theorem fn_at {ns : List Int} (h : 0 < ns.length) (i : Int) : ∃ k, k < ns.length ∧ ((k : Int) = i % (ns.length : Int)) ∧ fn ns i = ns.getD k 0 := by
  have h0 : (0 : Int) ≤ i % (ns.length : Int) := Int.emod_nonneg _ (by omega)
  have h1 : i % (ns.length : Int) < (ns.length : Int) := Int.emod_lt_of_pos _ (by omega)
  refine ⟨(i % (ns.length : Int)).toNat, by omega, by omega, rfl⟩
theorem list_ext {ns ms : List Int} (hl : ns.length = ms.length) (h : fn ns = fn ms) : ns = ms := by
  apply List.ext_getElem hl
  intro k h1 h2
  have e := congrFun h (k : Int)
  rw [fn_nat h1, fn_nat h2] at e
  rw [List.getD_eq_getElem?_getD, List.getD_eq_getElem?_getD, List.getElem?_eq_getElem h1, List.getElem?_eq_getElem h2] at e
  exact e
theorem list_ext' {ns ms : List Int} (hl : ns.length = ms.length) (h : ∀ k, k < ns.length → ns.getD k 0 = ms.getD k 0) : ns = ms := by
  apply List.ext_getElem hl
  intro k h1 h2
  have e := h k h1
  rw [List.getD_eq_getElem?_getD, List.getD_eq_getElem?_getD, List.getElem?_eq_getElem h1, List.getElem?_eq_getElem h2] at e
  exact e
theorem fn_gp (ns : List Int) : fn (gp ns) = D (fn ns) := by
  by_cases h : 0 < ns.length
  · funext i
    obtain ⟨k, hk, ek, e⟩ := fn_at (ns := gp ns) (by rw [gp_length]; exact h) i
    rw [gp_length] at hk ek
    rw [e, gp_get hk]
    unfold D
    have e1 : fn ns i = ns.getD k 0 := by
      rw [← fn_mod, ← ek, fn_nat hk]
    have hm : (k + 1) % ns.length < ns.length := Nat.mod_lt _ h
    have e2 : fn ns (i + 1) = ns.getD ((k + 1) % ns.length) 0 := by
      rw [← fn_nat hm, Int.natCast_emod, fn_mod, ← fn_mod ns (i + 1), ← fn_mod ns (((k + 1 : Nat) : Int))]
      congr 1
      rw [Int.natCast_add, ek]
      exact (Int.emod_add_emod i (ns.length : Int) 1).symm
    rw [e1, e2]
  · have e : ns = [] := List.length_eq_zero_iff.mp (by omega)
    subst e
    funext i
    show fn [] i = D (fn []) i
    unfold D fn
    simp
theorem fn_it (t : Nat) (ns : List Int) : fn (it t ns) = itD t (fn ns) := by
  induction t generalizing ns with
  | zero => rfl
  | succ t ih =>
    show fn (it t (gp ns)) = itD t (D (fn ns))
    rw [ih, fn_gp]
/-! ### bounds -/
def Bd (m : Int) (r : Fn) : Prop := ∀ i, 0 ≤ r i ∧ r i ≤ m
theorem Bd.D {m : Int} {r : Fn} (h : Bd m r) : Bd m (D r) := fun i => by
  have h1 := h i
  have h2 := h (i + 1)
  unfold GR.D
  omega
theorem Bd.itD {m : Int} {r : Fn} (h : Bd m r) (t : Nat) : Bd m (itD t r) := by
  induction t generalizing r with
  | zero => exact h
  | succ t ih => exact ih h.D
def Bl (m : Int) (ns : List Int) : Prop := ∀ x ∈ ns, 0 ≤ x ∧ x ≤ m
theorem Bl.get {m : Int} {ns : List Int} (h : Bl m ns) {k : Nat} (hk : k < ns.length) : 0 ≤ ns.getD k 0 ∧ ns.getD k 0 ≤ m := by
  rw [List.getD_eq_getElem?_getD, List.getElem?_eq_getElem hk]
  exact h _ (List.getElem_mem hk)
theorem Bl.fn {m : Int} {ns : List Int} (h : Bl m ns) (hp : 0 < ns.length) : Bd m (fn ns) := fun i => by
  obtain ⟨k, hk, _, e⟩ := fn_at hp i
  rw [e]
  exact h.get hk
theorem mem_getD {ns : List Int} {x : Int} (h : x ∈ ns) : ∃ k, k < ns.length ∧ ns.getD k 0 = x := by
  obtain ⟨k, hk, e⟩ := List.getElem_of_mem h
  refine ⟨k, hk, ?_⟩
  rw [List.getD_eq_getElem?_getD, List.getElem?_eq_getElem hk]
  exact e
theorem getD_mem {ns : List Int} {k : Nat} (hk : k < ns.length) : ns.getD k 0 ∈ ns := by
  rw [List.getD_eq_getElem?_getD, List.getElem?_eq_getElem hk]
  exact List.getElem_mem hk
theorem Bl.of_fn {m : Int} {ns : List Int} (h : Bd m (GR.fn ns)) : Bl m ns := fun x hx => by
  obtain ⟨k, hk, e⟩ := mem_getD hx
  have q := h (k : Int)
  rw [fn_nat hk, e] at q
  exact q
theorem Bl.gp {m : Int} {ns : List Int} (h : Bl m ns) : Bl m (gp ns) := by
  by_cases hp : 0 < ns.length
  · refine Bl.of_fn ?_
    rw [fn_gp]
    exact (h.fn hp).D
  · have e : ns = [] := List.length_eq_zero_iff.mp (by omega)
    subst e
    exact fun x hx => nomatch hx
theorem Bl.it {m : Int} {ns : List Int} (h : Bl m ns) (t : Nat) : Bl m (it t ns) := by
  induction t generalizing ns with
  | zero => exact h
  | succ t ih => exact ih h.gp
structure Ring (ns : List Int) : Prop where
  lo : 3 ≤ ns.length
  hi : ns.length ≤ 16
  bd : Bl 1000 ns
theorem Ring.gpR {ns : List Int} (R : Ring ns) : Ring (gp ns) := ⟨by rw [gp_length]; exact R.lo, by rw [gp_length]; exact R.hi, R.bd.gp⟩
theorem Ring.itR {ns : List Int} (R : Ring ns) (t : Nat) : Ring (it t ns) := ⟨by rw [it_length]; exact R.lo, by rw [it_length]; exact R.hi, R.bd.it t⟩
theorem Ring.pos {ns : List Int} (R : Ring ns) : 0 < ns.length := Nat.lt_of_lt_of_le (by decide) R.lo
/-! ### every ring comes to a flat one -/
theorem itD_le {m : Int} {r : Fn} (h : Bd m r) (k : Nat) (i : Int) : ∃ j : Int, i ≤ j ∧ j ≤ i + k ∧ itD k r i ≤ r j := by
  induction k generalizing r with
  | zero => exact ⟨i, Int.le_refl _, by omega, Int.le_refl _⟩
  | succ k ih =>
    obtain ⟨j, h1, h2, h3⟩ := ih h.D
    have a := h j
    have b := h (j + 1)
    have e : D r j = ((r j - r (j + 1)).natAbs : Int) := rfl
    by_cases c : r j ≤ r (j + 1)
    · exact ⟨j + 1, by omega, by omega, by show itD k (D r) i ≤ r (j + 1); omega⟩
    · exact ⟨j, by omega, by omega, by show itD k (D r) i ≤ r j; omega⟩
def Two (m : Int) (r : Fn) (i j : Int) : Prop := ∀ l, i ≤ l → l ≤ j → r l = 0 ∨ r l = m
theorem two_up {m : Int} {r : Fn} (h : Bd m r) {i : Int} {k : Nat} (hd : Two m (D r) i (i + k)) {j : Int} (h1 : i ≤ j) (hj : r j = 0 ∨ r j = m) (n : Nat) (h2 : j + n ≤ i + k + 1) : r (j + n) = 0 ∨ r (j + n) = m := by
  induction n with
  | zero => simpa using hj
  | succ n ih =>
    have q := ih (by omega)
    have d := hd (j + n) (by omega) (by omega)
    have e : D r (j + n) = ((r (j + n) - r (j + n + 1)).natAbs : Int) := rfl
    have b := h (j + n + 1)
    have b0 := h (j + n)
    have e1 : j + ((n + 1 : Nat) : Int) = j + n + 1 := by omega
    rw [e1]
    omega
theorem two_down {m : Int} {r : Fn} (h : Bd m r) {i : Int} {k : Nat} (hd : Two m (D r) i (i + k)) {j : Int} (hj : r j = 0 ∨ r j = m) (h2 : j ≤ i + k + 1) (n : Nat) (h1 : i ≤ j - n) : r (j - n) = 0 ∨ r (j - n) = m := by
  induction n with
  | zero => simpa using hj
  | succ n ih =>
    have q := ih (by omega)
    have d := hd (j - n - 1) (by omega) (by omega)
    have e : D r (j - n - 1) = ((r (j - n - 1) - r (j - n - 1 + 1)).natAbs : Int) := rfl
    have e0 : j - n - 1 + 1 = j - n := by omega
    rw [e0] at e
    have b := h (j - n - 1)
    have b0 := h (j - n)
    have e1 : j - ((n + 1 : Nat) : Int) = j - n - 1 := by omega
    rw [e1]
    omega
theorem two_of {m : Int} {r : Fn} (h : Bd m r) (hm : 0 < m) (k : Nat) (i : Int) (e : itD k r i = m) : Two m r i (i + k) := by
  induction k generalizing r with
  | zero =>
    intro l h1 h2
    have z : l = i := by omega
    subst z
    exact .inr e
  | succ k ih =>
    have hd : Two m (D r) i (i + k) := ih h.D e
    obtain ⟨j, h1, h2, h3⟩ := itD_le h.D k i
    have e' : itD k (D r) i = m := e
    have b := h.D j
    have ej : D r j = m := by omega
    have ej' : D r j = ((r j - r (j + 1)).natAbs : Int) := rfl
    have b1 := h j
    have b2 := h (j + 1)
    have z : r j = 0 ∨ r j = m := by omega
    intro l hl1 hl2
    by_cases c : j ≤ l
    · have q := two_up h hd h1 z (l - j).toNat (by omega)
      have e1 : j + ((l - j).toNat : Int) = l := by omega
      rw [e1] at q
      exact q
    · have q := two_down h hd z (by omega) (j - l).toNat (by omega)
      have e1 : j - ((j - l).toNat : Int) = l := by omega
      rw [e1] at q
      exact q
def Flat (m : Int) (r : Fn) : Prop := ∀ i, r i = 0 ∨ r i = m
theorem Flat.D {m : Int} {r : Fn} (hm : 0 ≤ m) (h : Flat m r) : Flat m (D r) := fun i => by
  have h1 := h i
  have h2 := h (i + 1)
  unfold GR.D
  omega
theorem Flat.itD {m : Int} {r : Fn} (hm : 0 ≤ m) (h : Flat m r) (t : Nat) : Flat m (itD t r) := by
  induction t generalizing r with
  | zero => exact h
  | succ t ih => exact ih (h.D hm)
def Per (n : Nat) (r : Fn) : Prop := ∀ i, r (i + n) = r i
theorem Per.D {n : Nat} {r : Fn} (h : Per n r) : Per n (D r) := fun i => by
  unfold GR.D
  rw [h i, show i + (n : Int) + 1 = (i + 1) + n by omega, h (i + 1)]
theorem Per.itD {n : Nat} {r : Fn} (h : Per n r) (t : Nat) : Per n (itD t r) := by
  induction t generalizing r with
  | zero => exact h
  | succ t ih => exact ih h.D
theorem Per.mul {n : Nat} {r : Fn} (h : Per n r) (k : Nat) (i : Int) : r (i + k * n) = r i := by
  induction k with
  | zero => simp
  | succ k ih =>
    rw [show i + ((k + 1 : Nat) : Int) * n = (i + k * n) + n by rw [Int.natCast_add, Int.add_mul]; omega, h, ih]
theorem Per.mod {n : Nat} {r : Fn} (h : Per n r) (i : Int) : r (i % n) = r i := by
  have e := Int.emod_add_mul_ediv i n
  by_cases c : 0 ≤ i / n
  · have q := h.mul (i / n).toNat (i % n)
    rw [Int.toNat_of_nonneg c, Int.mul_comm (i / (n : Int)) (n : Int), e] at q
    exact q.symm
  · have q := h.mul (-(i / n)).toNat i
    rw [Int.toNat_of_nonneg (by omega), Int.neg_mul, Int.mul_comm (i / (n : Int)) (n : Int)] at q
    rw [← q]
    congr 1
    omega
theorem Per.win {n : Nat} {r : Fn} (h : Per n r) (hn : 0 < n) (i l : Int) : ∃ j, i ≤ j ∧ j < i + n ∧ r l = r j := by
  refine ⟨i + (l - i) % n, ?_, ?_, ?_⟩
  · have := Int.emod_nonneg (l - i) (b := (n : Int)) (by omega)
    omega
  · have := Int.emod_lt_of_pos (l - i) (b := (n : Int)) (by omega)
    omega
  · have s : Per n (fun x => r (i + x)) := fun x => by
      show r (i + (x + n)) = r (i + x)
      rw [← Int.add_assoc]
      exact h _
    have q := s.mod (l - i)
    have e : i + (l - i) = l := by omega
    simp only [e] at q
    exact q.symm
theorem flat_step {m : Int} {n : Nat} {r : Fn} (h : Bd (m + 1) r) (hm : 0 ≤ m) (hp : Per n r) (hn : 0 < n) (k : Nat) (hk : n ≤ k + 1) : Flat (m + 1) r ∨ Bd m (itD k r) := by
  by_cases c : ∃ i, itD k r i = m + 1
  · obtain ⟨i, e⟩ := c
    refine .inl fun l => ?_
    obtain ⟨j, h1, h2, h3⟩ := hp.win hn i l
    rw [h3]
    exact two_of h (by omega) k i e j h1 (by omega)
  · refine .inr fun i => ?_
    have b := h.itD k i
    have q : itD k r i ≠ m + 1 := fun z => c ⟨i, z⟩
    omega
theorem flat_by {n : Nat} {r : Fn} (hp : Per n r) (hn : 0 < n) (hn16 : n ≤ 16) (m : Nat) (h : Bd m r) : ∃ c : Int, 0 ≤ c ∧ c ≤ m ∧ Flat c (itD (15 * m) r) := by
  induction m generalizing r with
  | zero =>
    refine ⟨0, Int.le_refl _, by simp, fun i => ?_⟩
    have q := h i
    show r i = 0 ∨ r i = 0
    have z : ((0 : Nat) : Int) = 0 := rfl
    omega
  | succ m ih =>
    rcases flat_step (m := m) (k := 15) h (by omega) hp hn (by omega) with f | b
    · exact ⟨(m : Int) + 1, by omega, by omega, f.itD (by omega) _⟩
    · obtain ⟨c, h1, h2, h3⟩ := ih (hp.itD 15) b
      refine ⟨c, h1, by omega, ?_⟩
      rw [show 15 * (m + 1) = 15 + 15 * m by omega, itD_add]
      exact h3
/-! ### drawers -/
theorem drawers : ∀ (N n : Nat) (f : Nat → Nat), (∀ i, i < n → f i < N) → (∀ i j, i < j → j < n → f i ≠ f j) → n ≤ N
  | 0, n, f, h, _ => by
    cases n with
    | zero => exact Nat.le_refl _
    | succ n => exact absurd (h 0 (by omega)) (by omega)
  | N + 1, n, f, h, q => by
    cases n with
    | zero => exact Nat.zero_le _
    | succ n =>
      have r := drawers N n (fun i => if f i > f n then f i - 1 else f i) (fun i hi => by
          have a := h i (by omega)
          have b := h n (by omega)
          have c := q i n hi (by omega)
          show (if f i > f n then f i - 1 else f i) < N
          split <;> omega) (fun i j hij hj => by
          have a := q i j hij (by omega)
          have b := q i n (by omega) (by omega)
          have c := q j n (by omega) (by omega)
          show (if f i > f n then f i - 1 else f i) ≠ (if f j > f n then f j - 1 else f j)
          split <;> split <;> omega)
      omega
def code : List Int → Nat
  | [] => 0
  | x :: r => (if x = 0 then 0 else 1) + 2 * code r
theorem code_lt (l : List Int) : code l < 2 ^ l.length := by
  induction l with
  | nil => decide
  | cons x r ih =>
    show (if x = 0 then 0 else 1) + 2 * code r < 2 ^ (r.length + 1)
    rw [Nat.pow_succ]
    split <;> omega
theorem code_inj {c : Int} : ∀ {l m : List Int}, l.length = m.length → (∀ x ∈ l, x = 0 ∨ x = c) → (∀ x ∈ m, x = 0 ∨ x = c) → code l = code m → l = m
  | [], [], _, _, _, _ => rfl
  | x :: l, y :: m, hl, h1, h2, e => by
    have e : (if x = 0 then 0 else 1) + 2 * code l = (if y = 0 then 0 else 1) + 2 * code m := e
    have hx := h1 x (by simp)
    have hy := h2 y (by simp)
    have ec : code l = code m := by
      split at e <;> split at e <;> omega
    have exy : x = y := by
      rw [ec] at e
      split at e <;> split at e <;> omega
    rw [exy, code_inj (by simpa using hl) (fun z hz => h1 z (by simp [hz])) (fun z hz => h2 z (by simp [hz])) ec]
/-! ### the walk: how far all rings are unlike, and the place of the one that comes again -/
structure Wk (ns : List Int) (L T : Nat) : Prop where
  inj : ∀ i j, i < j → j < L → it i ns ≠ it j ns
  lt : T < L
  eq : it L ns = it T ns
theorem wk_or (ns : List Int) (n : Nat) : (∀ i j, i < j → j < n → it i ns ≠ it j ns) ∨ ∃ L T, L < n ∧ Wk ns L T := by
  induction n with
  | zero => exact .inl fun i j _ h => absurd h (Nat.not_lt_zero _)
  | succ n ih =>
    rcases ih with h | ⟨L, T, a, b⟩
    · by_cases c : ∃ i, i < n ∧ it n ns = it i ns
      · obtain ⟨i, hi, e⟩ := c
        exact .inr ⟨n, i, Nat.lt_succ_self n, h, hi, e⟩
      · refine .inl fun i j hij hj => ?_
        by_cases z : j = n
        · subst z
          exact fun e => c ⟨i, hij, e.symm⟩
        · exact h i j hij (by omega)
    · exact .inr ⟨L, T, by omega, b⟩
theorem Ring.flat {ns : List Int} (R : Ring ns) : ∃ c : Int, 0 ≤ c ∧ c ≤ 1000 ∧ ∀ t, 15000 ≤ t → Flat c (fn (it t ns)) := by
  obtain ⟨c, h1, h2, h3⟩ := flat_by (n := ns.length) (r := fn ns) (fn_per ns) R.pos R.hi 1000 (R.bd.fn R.pos)
  refine ⟨c, h1, by omega, fun t ht => ?_⟩
  rw [fn_it, show t = 15 * 1000 + (t - 15000) by omega, itD_add]
  exact h3.itD h1 _
theorem Flat.mem {c : Int} {ns : List Int} (h : Flat c (fn ns)) : ∀ x ∈ ns, x = 0 ∨ x = c := fun x hx => by
  obtain ⟨k, hk, e⟩ := mem_getD hx
  have q := h (k : Int)
  rw [fn_nat hk, e] at q
  exact q
theorem Ring.bound {ns : List Int} (R : Ring ns) {n : Nat} (h : ∀ i j, i < j → j < n → it i ns ≠ it j ns) : n ≤ 80536 := by
  obtain ⟨c, h1, h2, h3⟩ := R.flat
  have q := drawers 65536 (n - 15000) (fun i => code (it (15000 + i) ns)) (fun i hi => by
      have a := code_lt (it (15000 + i) ns)
      rw [it_length] at a
      exact Nat.lt_of_lt_of_le a (Nat.pow_le_pow_right (by decide) R.hi)) (fun i j hij hj e => by
      refine h (15000 + i) (15000 + j) (by omega) (by omega) (code_inj (c := c) (by rw [it_length, it_length]) (h3 _ (by omega)).mem (h3 _ (by omega)).mem e))
  omega
theorem Ring.walk {ns : List Int} (R : Ring ns) : ∃ L T, L ≤ 80536 ∧ Wk ns L T := by
  rcases wk_or ns 80537 with h | ⟨L, T, a, b⟩
  · have := R.bound h
    omega
  · exact ⟨L, T, by omega, b⟩
theorem Wk.unique {ns : List Int} {L T L' T' : Nat} (w : Wk ns L T) (w' : Wk ns L' T') : L = L' ∧ T = T' := by
  have e : L = L' := by
    rcases Nat.lt_trichotomy L L' with h | h | h
    · exact absurd w.eq.symm (w'.inj T L w.lt h)
    · exact h
    · exact absurd w'.eq.symm (w.inj T' L' w'.lt h)
  subst e
  refine ⟨rfl, ?_⟩
  have e2 : it T ns = it T' ns := w.eq.symm.trans w'.eq
  rcases Nat.lt_trichotomy T T' with h | h | h
  · exact absurd e2 (w.inj T T' h w'.lt)
  · exact h
  · exact absurd e2.symm (w.inj T' T h w.lt)
theorem Wk.le {ns : List Int} {L T : Nat} (w : Wk ns L T) (R : Ring ns) : L ≤ 80536 := R.bound w.inj
theorem it_shift {ns : List Int} {t p : Nat} (h : it (t + p) ns = it t ns) (u : Nat) (hu : t ≤ u) : it (u + p) ns = it u ns := by
  rw [show u + p = (t + p) + (u - t) by omega, it_add, h, ← it_add]
  congr 1
  omega
theorem it_shift_mul {ns : List Int} {t p : Nat} (h : it (t + p) ns = it t ns) (k : Nat) (u : Nat) (hu : t ≤ u) : it (u + k * p) ns = it u ns := by
  induction k with
  | zero => simp
  | succ k ih =>
    rw [show u + (k + 1) * p = (u + k * p) + p by rw [Nat.succ_mul]; omega, it_shift h _ (by omega), ih]
theorem Wk.per {ns : List Int} {L T : Nat} (w : Wk ns L T) : it (T + (L - T)) ns = it T ns := by
  have h := w.lt
  rw [show T + (L - T) = L by omega]
  exact w.eq
theorem Wk.red {ns : List Int} {L T t : Nat} (w : Wk ns L T) (h : T ≤ t) : it (T + (t - T) % (L - T)) ns = it t ns := by
  have e := Nat.mod_add_div (t - T) (L - T)
  have q := it_shift_mul w.per ((t - T) / (L - T)) (T + (t - T) % (L - T)) (by omega)
  rw [← q]
  congr 1
  rw [Nat.mul_comm]
  omega
/-- every ring behind some turns stands in the walk -/
theorem Wk.all {ns : List Int} {L T : Nat} (w : Wk ns L T) (t : Nat) : ∃ i, i < L ∧ it i ns = it t ns := by
  by_cases h : t < L
  · exact ⟨t, h, rfl⟩
  · have hl := w.lt
    refine ⟨T + (t - T) % (L - T), ?_, w.red (by omega)⟩
    have := Nat.mod_lt (t - T) (show 0 < L - T by omega)
    omega
/-- the tail: the least number of turns behind which a ring comes that comes again -/
theorem Wk.tail {ns : List Int} {L T t p : Nat} (w : Wk ns L T) (hp : 0 < p) (h : it (t + p) ns = it t ns) : T ≤ t := by
  refine Nat.le_of_not_lt fun c => ?_
  -- t < T: t itself stands alone among the first L; but it t = it (t + k p) for all k
  have hl := w.lt
  have q := it_shift_mul h L t (Nat.le_refl _)
  have hb : T ≤ t + L * p := by
    have : L * 1 ≤ L * p := Nat.mul_le_mul_left L hp
    omega
  have r := w.red hb
  rw [q] at r
  have m := Nat.mod_lt (t + L * p - T) (show 0 < L - T by omega)
  exact w.inj t (T + (t + L * p - T) % (L - T)) (by omega) (by omega) r.symm
theorem Wk.wheel {ns : List Int} {L T t p : Nat} (w : Wk ns L T) (h : it (t + p) ns = it t ns) (ht : T ≤ t) : (L - T) ∣ p := by
  have hl := w.lt
  have e1 := w.red (t := t) ht
  have e2 := w.red (t := t + p) (by omega)
  rw [h, ← e1] at e2
  have m1 := Nat.mod_lt (t - T) (show 0 < L - T by omega)
  have m2 := Nat.mod_lt (t + p - T) (show 0 < L - T by omega)
  have e3 : (t + p - T) % (L - T) = (t - T) % (L - T) := by
    rcases Nat.lt_trichotomy ((t + p - T) % (L - T)) ((t - T) % (L - T)) with c | c | c
    · exact absurd e2 (w.inj _ _ (by omega) (by omega))
    · exact c
    · exact absurd e2.symm (w.inj _ _ (by omega) (by omega))
  have e4 : (t + p - T) = (t - T) + p := by omega
  rw [e4] at e3
  have e5 : ((t - T) + p - (t - T)) % (L - T) = 0 := by
    have := Nat.sub_mod_eq_zero_of_mod_eq e3
    exact this
  rw [show (t - T) + p - (t - T) = p by omega] at e5
  exact Nat.dvd_of_mod_eq_zero e5
theorem Wk.mk_of {ns : List Int} {T P : Nat} (hp : 0 < P) (he : it (T + P) ns = it T ns) (ht : ∀ t p, 0 < p → it (t + p) ns = it t ns → T ≤ t) (hw : ∀ p, 0 < p → it (T + p) ns = it T ns → P ≤ p) : Wk ns (T + P) T := by
  refine ⟨fun i j hij hj e => ?_, by omega, he⟩
  have h1 : it (i + (j - i)) ns = it i ns := by
    rw [show i + (j - i) = j by omega]
    exact e.symm
  have h2 := ht i (j - i) (by omega) h1
  -- behind T the period is P
  have h3 := it_shift h1 (T + (P - (i - T) + (i - T)) - 0) (by omega)
  have h4 : it (T + (j - i)) ns = it T ns := by
    have a := it_shift_mul he (i + 1) T (Nat.le_refl _)
    have hb : i ≤ T + (i + 1) * P := by
      have : (i + 1) * 1 ≤ (i + 1) * P := Nat.mul_le_mul_left (i + 1) hp
      omega
    have b := it_shift h1 (T + (i + 1) * P) hb
    have c := it_shift_mul he (i + 1) (T + (j - i)) (by omega)
    rw [show T + (i + 1) * P + (j - i) = T + (j - i) + (i + 1) * P by omega, c, a] at b
    exact b
  have h5 := hw (j - i) (by omega) h4
  omega
end GR
/-! ### sums of some of the numbers -/
namespace GR
def SS (ns : List Int) : Nat → Int → Prop
  | 0, s => s = 0
  | k + 1, s => SS ns k s ∨ SS ns k (s - ns.getD k 0)
def Half (ns : List Int) : Prop := ns.sum % 2 = 0 ∧ SS ns ns.length (ns.sum / 2)
def psum : List Bool → List Int → Int
  | b :: bs, x :: xs => (if b then x else 0) + psum bs xs
  | _, _ => 0
theorem psum_snoc : ∀ {bs : List Bool} {xs : List Int} (b : Bool) (x : Int), bs.length = xs.length → psum (bs ++ [b]) (xs ++ [x]) = psum bs xs + (if b then x else 0)
  | [], [], b, x, _ => by
    show (if b then x else 0) + 0 = 0 + (if b then x else 0)
    omega
  | c :: bs, y :: xs, b, x, h => by
    have ih := psum_snoc (bs := bs) (xs := xs) b x (by simpa using h)
    show (if c then y else 0) + psum (bs ++ [b]) (xs ++ [x]) = (if c then y else 0) + psum bs xs + (if b then x else 0)
    rw [ih]
    omega
theorem take_snoc {α : Type} {l : List α} {k : Nat} {x : α} (h : l[k]? = some x) : l.take (k + 1) = l.take k ++ [x] := by
  rw [List.take_add_one, h]
  rfl
theorem getD_get {ns : List Int} {k : Nat} (h : k < ns.length) : ns[k]? = some (ns.getD k 0) := by
  rw [List.getD_eq_getElem?_getD, List.getElem?_eq_getElem h]
  rfl
theorem psum_take {bs : List Bool} {ns : List Int} (hl : bs.length = ns.length) {k : Nat} (h : k < ns.length) : psum (bs.take (k + 1)) (ns.take (k + 1)) = psum (bs.take k) (ns.take k) + (if bs.getD k false then ns.getD k 0 else 0) := by
  have e1 : bs[k]? = some (bs.getD k false) := by
    rw [List.getD_eq_getElem?_getD, List.getElem?_eq_getElem (by omega)]
    rfl
  rw [take_snoc e1, take_snoc (getD_get h), psum_snoc _ _ (by rw [List.length_take, List.length_take, hl])]
theorem SS_take {bs : List Bool} {ns : List Int} (hl : bs.length = ns.length) : ∀ k, k ≤ ns.length → SS ns k (psum (bs.take k) (ns.take k))
  | 0, _ => by
    show psum [] [] = 0
    rfl
  | k + 1, h => by
    have ih := SS_take hl k (by omega)
    rw [psum_take hl (by omega)]
    cases c : bs.getD k false with
    | true =>
      refine .inr ?_
      have e : psum (bs.take k) (ns.take k) + (if true = true then ns.getD k 0 else 0) - ns.getD k 0 = psum (bs.take k) (ns.take k) := by
        rw [if_pos rfl]
        omega
      rw [e]
      exact ih
    | false =>
      refine .inl ?_
      have e : psum (bs.take k) (ns.take k) + (if false = true then ns.getD k 0 else 0) = psum (bs.take k) (ns.take k) := by
        rw [if_neg (by decide)]
        omega
      rw [e]
      exact ih
theorem half_of {bs : List Bool} {ns : List Int} (hl : bs.length = ns.length) (h : 2 * psum bs ns = ns.sum) : Half ns := by
  have q := SS_take hl ns.length (Nat.le_refl _)
  rw [List.take_length, ← hl, List.take_length, hl] at q
  refine ⟨by omega, ?_⟩
  rw [show ns.sum / 2 = psum bs ns by omega]
  exact q
theorem sum_snoc (ns : List Int) (x : Int) : (ns ++ [x]).sum = ns.sum + x := by
  rw [List.sum_append]
  show ns.sum + (x + 0) = ns.sum + x
  omega
/-! ### a row whose gaps are the numbers -/
def rw1 (bs : List Bool) (ns : List Int) : Nat → Int
  | 0 => 0
  | k + 1 => rw1 bs ns k + (if bs.getD k false then ns.getD k 0 else - ns.getD k 0)
theorem rw1_eq {bs : List Bool} {ns : List Int} (hl : bs.length = ns.length) : ∀ k, k ≤ ns.length → rw1 bs ns k = 2 * psum (bs.take k) (ns.take k) - (ns.take k).sum
  | 0, _ => rfl
  | k + 1, h => by
    have ih := rw1_eq hl k (by omega)
    rw [psum_take hl (by omega), take_snoc (getD_get (show k < ns.length by omega)), sum_snoc]
    show rw1 bs ns k + _ = _
    rw [ih]
    cases bs.getD k false with
    | true =>
      rw [if_pos rfl, if_pos rfl]
      omega
    | false =>
      rw [if_neg (by decide), if_neg (by decide)]
      omega
theorem rw1_last {bs : List Bool} {ns : List Int} (hl : bs.length = ns.length) (h : 2 * psum bs ns = ns.sum) : rw1 bs ns ns.length = 0 := by
  rw [rw1_eq hl _ (Nat.le_refl _), List.take_length, ← hl, List.take_length]
  omega
def rowL (bs : List Bool) (ns : List Int) (m : Int) : List Int := (List.range ns.length).map fun k => rw1 bs ns k - m
theorem rowL_length (bs : List Bool) (ns : List Int) (m : Int) : (rowL bs ns m).length = ns.length := by
  unfold rowL
  rw [List.length_map, List.length_range]
theorem rowL_get {bs : List Bool} {ns : List Int} {m : Int} {k : Nat} (h : k < ns.length) : (rowL bs ns m).getD k 0 = rw1 bs ns k - m := by
  unfold rowL
  rw [List.getD_eq_getElem?_getD, List.getElem?_map, List.getElem?_range h]
  rfl
theorem rowL_gp {bs : List Bool} {ns : List Int} (m : Int) (hl : bs.length = ns.length) (h : 2 * psum bs ns = ns.sum) (h0 : ∀ x ∈ ns, 0 ≤ x) : gp (rowL bs ns m) = ns := by
  refine list_ext' (by rw [gp_length, rowL_length]) fun k hk => ?_
  rw [gp_length, rowL_length] at hk
  have hk' : k < (rowL bs ns m).length := by rw [rowL_length]; exact hk
  rw [gp_get hk', rowL_length, rowL_get hk]
  have hn := h0 _ (getD_mem hk)
  have e : (rowL bs ns m).getD ((k + 1) % ns.length) 0 = rw1 bs ns (k + 1) - m := by
    by_cases c : k + 1 < ns.length
    · rw [Nat.mod_eq_of_lt c, rowL_get c]
    · have ek : k + 1 = ns.length := by omega
      rw [ek, Nat.mod_self, rowL_get (by omega), rw1_last hl h]
      rfl
  rw [e]
  show ((rw1 bs ns k - m - (rw1 bs ns k + (if bs.getD k false then ns.getD k 0 else - ns.getD k 0) - m)).natAbs : Int) = ns.getD k 0
  cases bs.getD k false with
  | true =>
    rw [if_pos rfl]
    omega
  | false =>
    rw [if_neg (by decide)]
    omega
/-! ### each gap ring can have been come to -/
def ups (ns : List Int) (k : Nat) : Bool := decide (ns.getD ((k + 1) % ns.length) 0 ≤ ns.getD k 0)
theorem ups_step {ns : List Int} {k : Nat} (hk : k < ns.length) (bs : List Bool) (hb : bs.getD k false = ups ns k) : (if bs.getD k false then (gp ns).getD k 0 else - (gp ns).getD k 0) = ns.getD k 0 - ns.getD ((k + 1) % ns.length) 0 := by
  rw [hb, gp_get hk]
  unfold ups
  by_cases c : ns.getD ((k + 1) % ns.length) 0 ≤ ns.getD k 0
  · rw [decide_eq_true c, if_pos rfl]
    omega
  · rw [decide_eq_false c, if_neg (by decide)]
    omega
theorem half_gp {ns : List Int} (hp : 0 < ns.length) : Half (gp ns) := by
  have hbl : ((List.range ns.length).map (ups ns)).length = (gp ns).length := by rw [List.length_map, List.length_range, gp_length]
  have hb : ∀ k, k < ns.length → ((List.range ns.length).map (ups ns)).getD k false = ups ns k := fun k hk => by
    rw [List.getD_eq_getElem?_getD, List.getElem?_map, List.getElem?_range hk]
    rfl
  refine half_of hbl ?_
  -- the row of the gaps is the way back along the numbers
  have step : ∀ k, k < ns.length → rw1 ((List.range ns.length).map (ups ns)) (gp ns) k = ns.getD 0 0 - ns.getD k 0 := by
    intro k
    induction k with
    | zero => intro _; show (0 : Int) = _; omega
    | succ k ih =>
      intro hk
      show rw1 _ _ k + _ = _
      rw [ih (by omega), ups_step (by omega) _ (hb k (by omega)), Nat.mod_eq_of_lt hk]
      omega
  have e1 := step (ns.length - 1) (by omega)
  have e2 : rw1 ((List.range ns.length).map (ups ns)) (gp ns) ns.length = 0 := by
    have q : rw1 ((List.range ns.length).map (ups ns)) (gp ns) (ns.length - 1 + 1) = 0 := by
      show rw1 _ _ (ns.length - 1) + _ = _
      rw [e1, ups_step (by omega) _ (hb _ (by omega)), show ns.length - 1 + 1 = ns.length by omega, Nat.mod_self]
      omega
    rw [show ns.length - 1 + 1 = ns.length by omega] at q
    exact q
  have e3 := rw1_eq hbl ns.length (by rw [gp_length]; exact Nat.le_refl _)
  rw [e2, List.take_of_length_le (by rw [List.length_map, List.length_range]; exact Nat.le_refl _), List.take_of_length_le (by rw [gp_length]; exact Nat.le_refl _)] at e3
  omega
end GR
/-! ### small words over the hand layer -/
namespace GL
open PySem PySem.Spec PyProof.Rows L2
theorem bt_len : bootBuiltins "len" = some (.builtin "len") := by decide +kernel
theorem bt_abs : bootBuiltins "abs" = some (.builtin "abs") := by decide +kernel
theorem bt_max : bootBuiltins "max" = some (.builtin "max") := by decide +kernel
theorem bt_min : bootBuiltins "min" = some (.builtin "min") := by decide +kernel
theorem bt_sum : bootBuiltins "sum" = some (.builtin "sum") := by decide +kernel
theorem bt_isinstance : bootBuiltins "isinstance" = some (.builtin "isinstance") := by decide +kernel
theorem bt_int : bootBuiltins "int" = some (.type "int") := by decide +kernel
theorem bt_bool : bootBuiltins "bool" = some (.type "bool") := by decide +kernel
theorem bt_str : bootBuiltins "str" = some (.type "str") := by decide +kernel
theorem bt_list : bootBuiltins "list" = some (.type "list") := by decide +kernel
theorem bt_tuple : bootBuiltins "tuple" = some (.type "tuple") := by decide +kernel
theorem bt_zip : bootBuiltins "zip" = some (.type "zip") := by decide +kernel
theorem bt_reversed : bootBuiltins "reversed" = some (.type "reversed") := by decide +kernel
theorem bt_ValueError : bootBuiltins "ValueError" = some (.type "ValueError") := by decide +kernel
theorem ifN {c : Prop} [Decidable c] {A B : Prop} (hc : ¬ c) (h : B) : if decide c = true then A else B := by
  rw [decide_eq_false hc]
  exact iteF h
theorem ifY {c : Prop} [Decidable c] {A B : Prop} (hc : c) (h : A) : if decide c = true then A else B := by
  rw [decide_eq_true hc]
  exact iteT h
theorem if2 {c : Prop} [Decidable c] {A B : Prop} (h1 : c → A) (h2 : ¬ c → B) : if decide c = true then A else B := by
  by_cases h : c
  · exact ifY h (h1 h)
  · exact ifN h (h2 h)
theorem ifnN {c : Prop} [Decidable c] {A B : Prop} (hc : c) (h : B) : if (!decide c) = true then A else B := by
  rw [decide_eq_true hc]
  exact iteF h
theorem ifnY {c : Prop} [Decidable c] {A B : Prop} (hc : ¬ c) (h : A) : if (!decide c) = true then A else B := by
  rw [decide_eq_false hc]
  exact iteT h
theorem if2B {c : Bool} {A B : Prop} (h1 : c = true → A) (h2 : c = false → B) : if c = true then A else B := by
  cases c with
  | true => exact iteT (h1 rfl)
  | false => exact iteF (h2 rfl)
theorem vint {i j : Int} (h : i = j) : V.int i = V.int j := by rw [h]
theorem vint_ne {i j : Int} (h : i ≠ j) : V.int i ≠ V.int j := fun e => h (V.int.inj e)
/-- what holds behind a statement, said once for all its ways -/
theorem cut {t u : TS} {D : Ends} {σ : L2.St} {H : Hp} (P : L2.St → Hp → Prop) (h1 : ∀ N : L2.St → Hp → Prop, (∀ σ' H', P σ' H' → N σ' H') → t { D with nx := N } σ H) (h2 : ∀ σ' H', P σ' H' → u D σ' H') : tSeq t u D σ H := h1 (u D) h2
/-! ### heaps -/
theorem _root_.L2.Same.new {H : Hp} {p : Addr} {o : HO} (h : H p = none) : Same H (upd H p o) := fun b x e => by
  rw [upd_ne (ne_of_none e h)]
  exact e
theorem _root_.L2.Same.put {H H' : Hp} {p : Addr} {o : HO} (s : Same H H') (h : H p = none) : Same H (upd H' p o) := fun b x e => by
  rw [upd_ne (ne_of_none e h)]
  exact s b x e
theorem _root_.L2.Same.none {H H' : Hp} (s : Same H H') {p : Addr} (h : H' p = none) : H p = none := s.free h
theorem _root_.L2.Same.sqT {K : PySem.W.Frag} {H H' : Hp} {a : Addr} {xs : List V} (e : Same H H') (h : SqT K H a xs) : SqT K H' a xs := by
  rcases h with (h | ⟨o, h⟩) | h
  · exact .inl (.inl (e _ _ h))
  · exact .inl (.inr ⟨o, e _ _ h⟩)
  · exact .inr h
theorem new_ne {H : Hp} {u v : Addr} {o : HO} (h : upd H u o v = none) : u ≠ v := fun z => by
  rw [z, upd_same] at h
  cases h
theorem new_old {H : Hp} {u v : Addr} {o : HO} (h : upd H u o v = none) : H v = none := by
  rw [upd_ne (new_ne h).symm] at h
  exact h
/-- an own list is changed: what was there ahead of it stands -/
theorem _root_.L2.Same.own {H H' : Hp} {p : Addr} {o : HO} (s : Same H H') (h : H p = none) : Same H (upd H' p o) := s.put h
theorem at_ne {H : Hp} {a p : Addr} {o : HO} {x : Option HO} (h : H a = x) (ne : a ≠ p) : upd H p o a = x := by
  rw [upd_ne ne]
  exact h
/-! ### lists of ints -/
abbrev vi (ns : List Int) : List V := ns.map V.int
theorem vi_at {ns : List Int} {i : Nat} {x : V} (h : (vi ns)[i]? = some x) : ∃ z, ns[i]? = some z ∧ x = .int z := by
  rw [List.getElem?_map] at h
  cases e : ns[i]? with
  | none => rw [e] at h; cases h
  | some z => rw [e] at h; exact ⟨z, rfl, (Option.some.inj h).symm⟩
theorem vi_get {ns : List Int} {i : Nat} {z : Int} (h : ns[i]? = some z) : (vi ns)[i]? = some (.int z) := by
  rw [List.getElem?_map, h]
  rfl
theorem vi_len (ns : List Int) : (vi ns).length = ns.length := List.length_map _
theorem getD_some {ns : List Int} {k : Nat} (h : k < ns.length) : ns[k]? = some (ns.getD k 0) := by
  rw [List.getD_eq_getElem?_getD, List.getElem?_eq_getElem h]
  rfl
theorem vi_nth {ns : List Int} {k : Nat} (h : k < ns.length) : (vi ns)[k]? = some (.int (ns.getD k 0)) := vi_get (getD_some h)
theorem atI_of {xs : List V} {i : Int} {j : Nat} {v : V} (e : i = (j : Int)) (h : xs[j]? = some v) : atI xs i = some v := by
  rw [e]
  exact atI_nat h
theorem atI_neg {xs : List V} {v : V} (h : xs[xs.length - 1]? = some v) : atI xs (-1) = some v := by
  have hl : 0 < xs.length := by
    rcases Nat.eq_zero_or_pos xs.length with z | z
    · rw [List.getElem?_eq_none (by omega)] at h
      cases h
    · exact z
  unfold atI ixN
  rw [if_neg (by decide), if_pos (by omega)]
  have e : (-1 + (xs.length : Int)).toNat = xs.length - 1 := by omega
  rw [e]
  exact h
theorem abs_eq (i : Int) : (if i < 0 then -i else i) = (i.natAbs : Int) := by
  split <;> omega
theorem line_lt {n : Nat} (h : n ≤ 1000000) : n < sizeLine := Nat.lt_of_le_of_lt h (by decide)
theorem line_le {n : Nat} (h : n ≤ 1000000) : n ≤ sizeLine := Nat.le_of_lt (line_lt h)
/-- a list of ints as plain data -/
def dI (ns : List Int) : PyData := .list (ns.map PyData.int)
theorem dp_vi {K : PySem.W.Frag} {H : Hp} : ∀ ns : List Int, DpAll K H (vi ns) (ns.map PyData.int)
  | [] => .nil
  | x :: r => .cons (.int x) (dp_vi r)
theorem dp_list {K : PySem.W.Frag} {H : Hp} {a : Addr} {ns : List Int} (h : SqL K H a (vi ns)) : Dp K H (.ref a) (dI ns) := .lst h (dp_vi ns)
/-! ### comprehensions whose elements change nothing -/
theorem wipe1 (σ : L2.St) (v : Nat) (x : Option V) : wipe ((wipe σ [v]).set v x) [v] = wipe σ [v] := by
  show ((σ.set v none).set v x).set v none = σ.set v none
  rw [List.set_set, List.set_set]
theorem yes_of {σ : L2.St} {H : Hp} {Q : Bool → Hp → Prop} (h : Q true H) : tYes σ H Q := h
theorem lc_grow {lo : Int} {n : Nat} {te : TE} {v : Nat} {σ : L2.St} {H1 : Hp} {D : Addr} {Qd : Hp → Prop} (R : Nat → V → Prop) (nD : H1 D = none) (hn : n ≤ 1000)
    (hs : ∀ i H', i < n → Same H1 H' → ∀ Q' : VK, (∀ y H2, Same H' H2 → R i y → Q' y H2) → te ((wipe σ [v]).set v (some (.int (lo + i)))) H' Q')
    (hd : ∀ H' ys, ys.length = n → (∀ i y, ys[i]? = some y → R i y) → Same H1 H' → H' D = some (.lst ys) → Qd H') :
    ∃ W : Nat → Nat → Hp → Prop, (∃ m, W 0 m (upd H1 D (.lst []))) ∧ ∀ i m H, W i m H →
      ((Itr lo n).stop i H ∧ Qd H) ∨ ((Itr lo n).go i H ∧ ∃ Nx : Hp → Prop, (∀ H', Nx H' → ∃ m', m' < m ∧ W (i + 1) m' H') ∧ ∀ x H', (Itr lo n).yld i H x H' → gName v x (wipe σ [v]) H' fun σ2 H2 => wipe σ2 [v] = wipe σ [v] ∧ tYes σ2 H2 fun b H3 =>
        if b = true then te σ2 H3 fun y H4 => ∃ acc, H4 D = some (.lst acc) ∧ acc.length < sizeLine ∧ Nx (upd H4 D (.lst (acc ++ [y]))) else Nx H3) := by
  refine lc_range (lo := lo) (n := n) (fun i H' => Same H1 H' ∧ ∃ ys, H' D = some (.lst ys) ∧ ys.length = i ∧ ∀ j y, ys[j]? = some y → R j y) ⟨Same.new nD, [], upd_same, rfl, fun j y h => by simp at h⟩ ?_ ?_
  · rintro i H' hi ⟨sm, ys, eD, hl, hR⟩
    refine ⟨wipe1 _ _ _, ?_⟩
    refine yes_of ?_
    refine iteT (hs i H' hi sm _ fun y H4 s4 hy => ⟨ys, s4 _ _ eD, line_lt (by omega), (sm.trans s4).put nD, ys ++ [y], upd_same, by rw [List.length_append, hl]; rfl, fun j z hz => ?_⟩)
    by_cases c : j < ys.length
    · rw [List.getElem?_append_left c] at hz
      exact hR j z hz
    · rw [List.getElem?_append_right (by omega)] at hz
      have e0 : j - ys.length = 0 := by
        rcases Nat.eq_zero_or_pos (j - ys.length) with q | q
        · exact q
        · rw [List.getElem?_eq_none (by simp only [List.length_cons, List.length_nil]; omega)] at hz
          cases hz
      rw [e0] at hz
      have ez : y = z := Option.some.inj hz
      have ej : j = i := by omega
      rw [← ez, ej]
      exact hy
  · rintro H' ⟨sm, ys, eD, hl, hR⟩
    exact hd H' ys hl hR sm eD
theorem lc_pure {lo : Int} {n : Nat} {te : TE} {v : Nat} {σ : L2.St} {H1 : Hp} {D : Addr} {Qd : Hp → Prop} (R : Nat → V → Prop) (nD : H1 D = none) (hn : n ≤ 1000)
    (hs : ∀ i H', i < n → Same H1 H' → ∀ Q' : VK, (∀ y, R i y → Q' y H') → te ((wipe σ [v]).set v (some (.int (lo + i)))) H' Q')
    (hd : ∀ H' ys, ys.length = n → (∀ i y, ys[i]? = some y → R i y) → Same H1 H' → H' D = some (.lst ys) → Qd H') :
    ∃ W : Nat → Nat → Hp → Prop, (∃ m, W 0 m (upd H1 D (.lst []))) ∧ ∀ i m H, W i m H →
      ((Itr lo n).stop i H ∧ Qd H) ∨ ((Itr lo n).go i H ∧ ∃ Nx : Hp → Prop, (∀ H', Nx H' → ∃ m', m' < m ∧ W (i + 1) m' H') ∧ ∀ x H', (Itr lo n).yld i H x H' → gName v x (wipe σ [v]) H' fun σ2 H2 => wipe σ2 [v] = wipe σ [v] ∧ tYes σ2 H2 fun b H3 =>
        if b = true then te σ2 H3 fun y H4 => ∃ acc, H4 D = some (.lst acc) ∧ acc.length < sizeLine ∧ Nx (upd H4 D (.lst (acc ++ [y]))) else Nx H3) :=
  lc_grow R nD hn (fun i H' hi sm Q' hQ => hs i H' hi sm Q' fun y hy => hQ y H' (Same.refl _) hy) hd
theorem lc_pureL {K : PySem.W.Frag} {a : Addr} {xs : List V} {te : TE} {v : Nat} {σ : L2.St} {H1 : Hp} {D : Addr} {Qd : Hp → Prop} (R : Nat → V → Prop) (hA : SqL K H1 a xs) (nD : H1 D = none) (hn : xs.length ≤ 1000)
    (hs : ∀ i x H', xs[i]? = some x → Same H1 H' → ∀ Q' : VK, (∀ y, R i y → Q' y H') → te ((wipe σ [v]).set v (some x)) H' Q')
    (hd : ∀ H' ys, ys.length = xs.length → (∀ i y, ys[i]? = some y → R i y) → Same H1 H' → H' D = some (.lst ys) → Qd H') :
    ∃ W : Nat → Nat → Hp → Prop, (∃ m, W 0 m (upd H1 D (.lst []))) ∧ ∀ i m H, W i m H →
      ((Itl K a).stop i H ∧ Qd H) ∨ ((Itl K a).go i H ∧ ∃ Nx : Hp → Prop, (∀ H', Nx H' → ∃ m', m' < m ∧ W (i + 1) m' H') ∧ ∀ x H', (Itl K a).yld i H x H' → gName v x (wipe σ [v]) H' fun σ2 H2 => wipe σ2 [v] = wipe σ [v] ∧ tYes σ2 H2 fun b H3 =>
        if b = true then te σ2 H3 fun y H4 => ∃ acc, H4 D = some (.lst acc) ∧ acc.length < sizeLine ∧ Nx (upd H4 D (.lst (acc ++ [y]))) else Nx H3) := by
  refine lc_list (K := K) (a := a) (xs := xs) (fun i H' => Same H1 H' ∧ ∃ ys, H' D = some (.lst ys) ∧ ys.length = i ∧ ∀ j y, ys[j]? = some y → R j y) ⟨Same.new nD, [], upd_same, rfl, fun j y h => by simp at h⟩ (fun i H' _ h => h.1.seq hA) ?_ ?_
  · rintro i x H' hi ⟨sm, ys, eD, hl, hR⟩
    have hil : i < xs.length := (List.getElem?_eq_some_iff.mp hi).1
    refine ⟨wipe1 _ _ _, ?_⟩
    refine yes_of ?_
    refine iteT (hs i x H' hi sm _ fun y hy => ⟨ys, eD, line_lt (by omega), sm.put nD, ys ++ [y], upd_same, by rw [List.length_append, hl]; rfl, fun j z hz => ?_⟩)
    by_cases c : j < ys.length
    · rw [List.getElem?_append_left c] at hz
      exact hR j z hz
    · rw [List.getElem?_append_right (by omega)] at hz
      have e0 : j - ys.length = 0 := by
        rcases Nat.eq_zero_or_pos (j - ys.length) with q | q
        · exact q
        · rw [List.getElem?_eq_none (by simp only [List.length_cons, List.length_nil]; omega)] at hz
          cases hz
      rw [e0] at hz
      have ez : y = z := Option.some.inj hz
      have ej : j = i := by omega
      rw [← ez, ej]
      exact hy
  · rintro H' ⟨sm, ys, eD, hl, hR⟩
    exact hd H' ys hl hR sm eD
theorem all_ints {n : Nat} {ys : List V} {P : Nat → Int → Prop} (hl : ys.length = n) (h : ∀ i y, ys[i]? = some y → ∃ z, y = .int z ∧ P i z) : ∃ zs, ys = vi zs ∧ zs.length = n ∧ ∀ i, i < n → P i (zs.getD i 0) := by
  induction ys generalizing n P with
  | nil => exact ⟨[], rfl, hl, fun i hi => by simp at hl; omega⟩
  | cons y r ih =>
    obtain ⟨z, ez, pz⟩ := h 0 y rfl
    obtain ⟨zs, e, l, q⟩ := ih (n := r.length) (P := fun i => P (i + 1)) rfl (fun i y hy => h (i + 1) y hy)
    refine ⟨z :: zs, by rw [ez, e]; rfl, by simp only [List.length_cons] at hl ⊢; omega, fun i hi => ?_⟩
    cases i with
    | zero => exact pz
    | succ i =>
      simp only [List.length_cons] at hl
      exact q i (by omega)
theorem lc_ints {lo : Int} {n : Nat} {te : TE} {v : Nat} {σ : L2.St} {H1 : Hp} {D : Addr} {Qd : Hp → Prop} (P : Nat → Int → Prop) (nD : H1 D = none) (hn : n ≤ 1000)
    (hs : ∀ i H', i < n → Same H1 H' → ∀ Q' : VK, (∀ z, P i z → Q' (.int z) H') → te ((wipe σ [v]).set v (some (.int (lo + i)))) H' Q')
    (hd : ∀ H' zs, zs.length = n → (∀ i, i < n → P i (zs.getD i 0)) → Same H1 H' → H' D = some (.lst (vi zs)) → Qd H') :
    ∃ W : Nat → Nat → Hp → Prop, (∃ m, W 0 m (upd H1 D (.lst []))) ∧ ∀ i m H, W i m H →
      ((Itr lo n).stop i H ∧ Qd H) ∨ ((Itr lo n).go i H ∧ ∃ Nx : Hp → Prop, (∀ H', Nx H' → ∃ m', m' < m ∧ W (i + 1) m' H') ∧ ∀ x H', (Itr lo n).yld i H x H' → gName v x (wipe σ [v]) H' fun σ2 H2 => wipe σ2 [v] = wipe σ [v] ∧ tYes σ2 H2 fun b H3 =>
        if b = true then te σ2 H3 fun y H4 => ∃ acc, H4 D = some (.lst acc) ∧ acc.length < sizeLine ∧ Nx (upd H4 D (.lst (acc ++ [y]))) else Nx H3) :=
  lc_pure (fun i y => ∃ z, y = .int z ∧ P i z) nD hn (fun i H' hi sm Q' hQ => hs i H' hi sm Q' fun z hz => hQ _ ⟨z, rfl, hz⟩) fun H' ys hl hR sm e => by
    obtain ⟨zs, ez, l, q⟩ := all_ints hl hR
    rw [ez] at e
    exact hd H' zs l q sm e
theorem lc_intsG {lo : Int} {n : Nat} {te : TE} {v : Nat} {σ : L2.St} {H1 : Hp} {D : Addr} {Qd : Hp → Prop} (P : Nat → Int → Prop) (nD : H1 D = none) (hn : n ≤ 1000)
    (hs : ∀ i H', i < n → Same H1 H' → ∀ Q' : VK, (∀ z H2, Same H' H2 → P i z → Q' (.int z) H2) → te ((wipe σ [v]).set v (some (.int (lo + i)))) H' Q')
    (hd : ∀ H' zs, zs.length = n → (∀ i, i < n → P i (zs.getD i 0)) → Same H1 H' → H' D = some (.lst (vi zs)) → Qd H') :
    ∃ W : Nat → Nat → Hp → Prop, (∃ m, W 0 m (upd H1 D (.lst []))) ∧ ∀ i m H, W i m H →
      ((Itr lo n).stop i H ∧ Qd H) ∨ ((Itr lo n).go i H ∧ ∃ Nx : Hp → Prop, (∀ H', Nx H' → ∃ m', m' < m ∧ W (i + 1) m' H') ∧ ∀ x H', (Itr lo n).yld i H x H' → gName v x (wipe σ [v]) H' fun σ2 H2 => wipe σ2 [v] = wipe σ [v] ∧ tYes σ2 H2 fun b H3 =>
        if b = true then te σ2 H3 fun y H4 => ∃ acc, H4 D = some (.lst acc) ∧ acc.length < sizeLine ∧ Nx (upd H4 D (.lst (acc ++ [y]))) else Nx H3) :=
  lc_grow (fun i y => ∃ z, y = .int z ∧ P i z) nD hn (fun i H' hi sm Q' hQ => hs i H' hi sm Q' fun z H2 s2 hz => hQ _ H2 s2 ⟨z, rfl, hz⟩) fun H' ys hl hR sm e => by
    obtain ⟨zs, ez, l, q⟩ := all_ints hl hR
    rw [ez] at e
    exact hd H' zs l q sm e
theorem lc_intsL {K : PySem.W.Frag} {a : Addr} {xs : List V} {te : TE} {v : Nat} {σ : L2.St} {H1 : Hp} {D : Addr} {Qd : Hp → Prop} (P : Nat → Int → Prop) (hA : SqL K H1 a xs) (nD : H1 D = none) (hn : xs.length ≤ 1000)
    (hs : ∀ i x H', xs[i]? = some x → Same H1 H' → ∀ Q' : VK, (∀ z, P i z → Q' (.int z) H') → te ((wipe σ [v]).set v (some x)) H' Q')
    (hd : ∀ H' zs, zs.length = xs.length → (∀ i, i < xs.length → P i (zs.getD i 0)) → Same H1 H' → H' D = some (.lst (vi zs)) → Qd H') :
    ∃ W : Nat → Nat → Hp → Prop, (∃ m, W 0 m (upd H1 D (.lst []))) ∧ ∀ i m H, W i m H →
      ((Itl K a).stop i H ∧ Qd H) ∨ ((Itl K a).go i H ∧ ∃ Nx : Hp → Prop, (∀ H', Nx H' → ∃ m', m' < m ∧ W (i + 1) m' H') ∧ ∀ x H', (Itl K a).yld i H x H' → gName v x (wipe σ [v]) H' fun σ2 H2 => wipe σ2 [v] = wipe σ [v] ∧ tYes σ2 H2 fun b H3 =>
        if b = true then te σ2 H3 fun y H4 => ∃ acc, H4 D = some (.lst acc) ∧ acc.length < sizeLine ∧ Nx (upd H4 D (.lst (acc ++ [y]))) else Nx H3) :=
  lc_pureL (fun i y => ∃ z, y = .int z ∧ P i z) hA nD hn (fun i x H' hi sm Q' hQ => hs i x H' hi sm Q' fun z hz => hQ _ ⟨z, rfl, hz⟩) fun H' ys hl hR sm e => by
    obtain ⟨zs, ez, l, q⟩ := all_ints hl hR
    rw [ez] at e
    exact hd H' zs l q sm e
theorem eqvAll_ints : ∀ a b : List Int, PyData.eqvAll (a.map PyData.int) (b.map PyData.int) = decide (a = b)
  | [], [] => rfl
  | [], _ :: _ => rfl
  | _ :: _, [] => rfl
  | x :: r, y :: q => by
    show (PyData.eqv (.int x) (.int y) && PyData.eqvAll (r.map PyData.int) (q.map PyData.int)) = decide (x :: r = y :: q)
    rw [eqvAll_ints r q]
    show ((x == y) && decide (r = q)) = decide (x :: r = y :: q)
    by_cases e : x = y
    · by_cases e2 : r = q
      · simp [e, e2]
      · simp [e, e2]
    · simp [e]
theorem eqv_dI (a b : List Int) : PyData.eqv (dI a) (dI b) = decide (a = b) := eqvAll_ints a b
theorem canLay_ints : ∀ a : List Int, PyData.canLayAll0 (a.map PyData.int) = true
  | [] => rfl
  | x :: r => by
    show (PyData.canLay0 (.int x) && PyData.canLayAll0 (r.map PyData.int)) = true
    rw [canLay_ints r]
    rfl
theorem depth_ints : ∀ a : List Int, PyData.depthAll (a.map PyData.int) = 0
  | [] => rfl
  | x :: r => by
    show max (PyData.depth (.int x)) (PyData.depthAll (r.map PyData.int)) = 0
    rw [depth_ints r]
    rfl
theorem shaped_dI (a : List Int) : SeqAt.shaped (dI a) = true := by
  show (PyData.canLay0 (dI a) && decide ((dI a).depth ≤ 64)) = true
  have e1 : PyData.canLay0 (dI a) = true := canLay_ints a
  have e2 : (dI a).depth = 1 := by
    show PyData.depthAll (a.map PyData.int) + 1 = 1
    rw [depth_ints]
  rw [e1, e2]
  rfl
/-- a pair of ints as plain data -/
def dT2 (i j : Int) : PyData := .tuple [.int i, .int j]
theorem dp_pair {K : PySem.W.Frag} {H : Hp} {a : Addr} {i j : Int} (h : SqT K H a [.int i, .int j]) : Dp K H (.ref a) (dT2 i j) := .tup h (.cons (.int i) (.cons (.int j) .nil))
theorem eqT {K : PySem.W.Frag} {H : Hp} {a b : Addr} {i j k l : Int} {Q : VK} (h1 : SqT K H a [.int i, .int j]) (h2 : SqT K H b [.int k, .int l]) (q : Q (.bl ((i == k) && ((j == l) && true))) H) : rEqD K (.ref a) (.ref b) H Q :=
  ⟨dT2 i j, dT2 k l, dp_pair h1, dp_pair h2, rfl, rfl, q⟩
theorem neT {K : PySem.W.Frag} {H : Hp} {a b : Addr} {i j k l : Int} {Q : VK} (h1 : SqT K H a [.int i, .int j]) (h2 : SqT K H b [.int k, .int l]) (q : Q (.bl (!((i == k) && ((j == l) && true)))) H) : rNeD K (.ref a) (.ref b) H Q :=
  ⟨dT2 i j, dT2 k l, dp_pair h1, dp_pair h2, rfl, rfl, q⟩
/-- == and != of two lists of ints, said with decide -/
theorem eqL {K : PySem.W.Frag} {H : Hp} {a b : Addr} {ns ms : List Int} {Q : VK} (h1 : SqL K H a (vi ns)) (h2 : SqL K H b (vi ms)) (q : Q (.bl (decide (ns = ms))) H) : rEqD K (.ref a) (.ref b) H Q :=
  ⟨dI ns, dI ms, dp_list h1, dp_list h2, shaped_dI _, shaped_dI _, by rw [eqv_dI]; exact q⟩
theorem neL {K : PySem.W.Frag} {H : Hp} {a b : Addr} {ns ms : List Int} {Q : VK} (h1 : SqL K H a (vi ns)) (h2 : SqL K H b (vi ms)) (q : Q (.bl (!decide (ns = ms))) H) : rNeD K (.ref a) (.ref b) H Q :=
  ⟨dI ns, dI ms, dp_list h1, dp_list h2, shaped_dI _, shaped_dI _, by rw [eqv_dI]; exact q⟩
section
variable {X : Cx}
/-- a module's whole number -/
theorem pe_num {x : Str} {i : Int} {pos : Pos} (h : ∃ t, X.mg x = some (.int i t)) (hg : Gl X x := by rfl) (hd : (x == ("__debug__" : Str)) = false := by decide) : PE X (.Name x pos) (tC (.int i)) := by
  obtain ⟨t, h⟩ := h
  exact pe_glob hg h ⟨t, rfl⟩ hd
/-- a built-in class as a value -/
theorem pe_cls {x : Str} {n : String} {pos : Pos} (hm : X.mg x = none) (hv : bootBuiltins x = some (.type n)) (hg : Gl X x := by rfl) (hn : x ≠ "__name__" := by decide) (hd : (x == ("__debug__" : Str)) = false := by decide) : PE X (.Name x pos) (tC (.ty n)) :=
  pe_bltn hg hm hv rfl hn hd
/-- rules that name the written part, for the blocks of comprehensions -/
theorem ixL (K : PySem.W.Frag) (h : X.K = K) : IxR X (rIxL K) := h ▸ ix_list
theorem ixT (K : PySem.W.Frag) (h : X.K = K) : IxR X (rIxT K) := h ▸ ix_tup
theorem lenL (K : PySem.W.Frag) (h : X.K = K) : CallR X (.builtin "len") (fun xs H Q => ∃ p ys, xs = [.ref p] ∧ (SqL K H p ys ∨ SqT K H p ys) ∧ Q (.int ys.length) H) := h ▸ call_len_seq
theorem maxL (K : PySem.W.Frag) (hc : X.calm = true) (h : X.K = K) : CallR X (.builtin "max") (rMax K) := h ▸ cr_max hc
theorem isiL (K : PySem.W.Frag) (h : X.K = K) : CallR X (.builtin "isinstance") (rIsi K) := h ▸ call_isi
theorem listL (K : PySem.W.Frag) (h : X.K = K) : CallR X (.type "list") (fun xs H Q => ∃ p ys, xs = [.ref p] ∧ (SqL K H p ys ∨ SqT K H p ys) ∧ ∀ l, H l = none → Q (.ref l) (upd H l (.lst ys))) := h ▸ call_list_of
theorem tupleL (K : PySem.W.Frag) (h : X.K = K) : CallR X (.type "tuple") (fun xs H Q => ∃ p ys, xs = [.ref p] ∧ ((SqL K H p ys ∧ ∀ l, H l = none → Q (.ref l) (upd H l (.tup ys))) ∨ (SqT K H p ys ∧ Q (.ref p) H))) := h ▸ call_tuple_of
end
end GL
/-! ### rules that the layer lacks -/
namespace GL
open PySem PySem.Spec L2
section
variable {X : Cx}
/-- {k: v}, k a tuple of ints and texts -/
def tDisp1T (tk tv : TE) : TE := fun σ H Q => ∀ p, H p = none → tk σ (upd H p (.dT [])) fun x H1 => tv σ H1 fun y H2 => H2 p = some (.dT []) ∧ ∃ (ks : List Key) (b : Addr), x = .ref b ∧ H2 b = some (.tup (ks.map kV)) ∧ Q (.ref p) (upd H2 p (.dT [(ks, y)]))
theorem pe_disp1T {k v : Expr} {tk tv : TE} {pos : Pos} (hu : X.A.units + 1 < cLine) (hk : PE X k tk) (hv : PE X v tv) : PE X (.Dict [some k] [v] pos) (tDisp1T tk tv) := by
  refine ⟨fun pins s σ H Q I q => ?_⟩
  have hn := I.hok.fresh (Nat.le_refl s.heap.objs.size)
  have I1 := I.laid (a := s.heap.objs.size) (o := .dT []) (h' := s.heap.push { cls := .type "dict", data := .dict #[] }) (t' := s.toks) (fun _ _ q => Heap.get?_push_of_some _ q) (Nat.le_refl _) (dt_empty s.heap I.big)
  rw [arm_eval_Dict, zip_pairTrees [some k] [v] X.env pos rfl rfl, dictDisplay_pairs _ (fun z => by cases z) (by show 1 < 17; decide)]
  refine wpAny_bind (wpAny_standAt (wpAny_bind (wpAny_subDictH (knd := tupleKind (mixKind X.prog X.w)) (show X.A.units < cLine by omega) (by show 1 ≤ 15; decide) ?_)))
  refine pairTrees_cons_walk (thn (hk.run pins _ σ _ _ I1 (q _ hn)) fun u s1 ⟨x, H1, I1, rx, q1⟩ => thn (hv.run pins s1 σ H1 _ I1 q1) fun w2 s2 ⟨y, H2, I2, ry, q2⟩ => pairTrees_nil_walk ?_)
  obtain ⟨e, ks, b, ex, eb, q3⟩ := q2
  subst ex
  cases (show u = Value.ref b from rx)
  obtain ⟨z, hd, xs, rel, dd⟩ := dt_of I2.hok e
  cases rel
  refine ⟨[(ks, b, w2)], ⟨rfl, rfl, key_of I2.hok eb, trivial⟩, dd, fun h' tk dd' hs => wpAny_pure ⟨.ref s.heap.objs.size, _, ?_, rfl, q3⟩⟩
  obtain ⟨o, es, ep, hq, h2, h3, h4, h5, h6⟩ := dd'
  have he : ∃ q, h'.get? s.heap.objs.size = some q := ⟨o, hq⟩
  have hne : b ≠ s.heap.objs.size := ne_of eb e (fun z => nomatch z)
  have J := I2.write (t' := tk) (x := s.heap.objs.size) (e := s.heap.objs.size) (o := .dT [(ks, y)]) (by rw [e]; exact True.intro) (.inl rfl) (fun b q hb z => (hs.2 b hb).trans z) he ⟨by show 1 ≤ sizeLine; decide, hd, _, .cons ⟨rfl, by rw [upd_ne hne]; exact eb, ry⟩ .nil, o, es, ep, hq, h2, h3, h4, h6⟩
  exact J
end
end GL
/-! ### list(reversed(a list)) -/
namespace GL
open PySem PySem.Spec PyProof.Rows L2 RT
section
variable {prog : Program} {w : World} {A : Around} {E : Value → Shared → Prop} {s : Shared} {it l S : Addr} {items : Array Value}
/-- an iterator that goes back over a list, and a list apart from both -/
structure RevRoom (s : Shared) (it l S : Addr) (items : Array Value) : Prop where
  iter : s.heap.IsRevIter it l ((items.size : Int) - 1)
  src : s.heap.IsList l items
  apart : l ≠ it
  few : items.size ≤ sizeLine
  it' : S ≠ it
  l' : S ≠ l
theorem RevRoom.on {h' : Heap} {t' : Nat} (x : RevRoom s it l S items) (k : ∀ b o, b ≠ S → s.heap.get? b = some o → h'.get? b = some o) : RevRoom { s with heap := h', toks := t' } it l S items :=
  ⟨x.iter.at fun o e => k it o x.it'.symm e, x.src.elim fun o h => ⟨o, k l o x.l'.symm h.1, h.2⟩, x.apart, x.few, x.it', x.l'⟩
/-- S holds the items from the last on; all but S and the iterator stands -/
def RevDone (s : Shared) (it S : Addr) (items : Array Value) (R : Shared → Prop) : Prop :=
  ∀ h' tk acc c, (∀ b o, b ≠ S → b ≠ it → s.heap.get? b = some o → h'.get? b = some o) → h'.get? S = some { cls := .type "list", dict := none, data := .seq acc c, slots := #[] } →
    ItemsOf (fun i v => items[items.size - 1 - i]? = some v) acc items.size → R { s with heap := h', toks := tk }
/-- such an iterator's hint makes no room -/
theorem hint_rev {Q : Bool → Shared → Prop} (hT : s.TypeIs (.ref it) "list_reverseiterator") (h : Q false s) : wpAny (model prog w) A (Builtin.List.listLengthHint (.ref it)) Q E s := by
  have own : splitId "list_reverseiterator.__length_hint__" = some ("list_reverseiterator", "__length_hint__") := by decide +kernel
  unfold Builtin.List.listLengthHint
  refine wpAny_bind (wpAny_specialOf hT nolen_lri (wpAny_bind (wpAny_specialOf hT hint_lri ?_)))
  generalize hid : ("list_reverseiterator.__length_hint__" : String) = id at own
  wp_delta
  rw [own]
  subst hid
  exact wpAny_bind (wpAny_isInstance (b := true) hT (by rw [isSubtype_type]; kernel_rfl) (wpAny_pure h))
/-- the list S, empty, takes the items -/
theorem take_rev {R : Result → Shared → Prop} {res : Value} {c0 : Nat} (hh : A.handled = none) (x : RevRoom s it l S items) (hS : s.heap.get? S = some { cls := .type "list", data := .seq #[] c0 }) (hR : RevDone s it S items (R (.ok (.ret res)))) :
    wpAny (model prog w) A.in1 (Builtin.List.listExtendWith (.ref S) (.ref it) res) (fun fin t => match fin with
      | .done f => R (.ok f) t
      | .again c' => c'.quiet = true ∧ codeAny (model prog w) A c' R t) (fun e t => R (.error e) t) s := by
  have walk := (Walks.listRev (prog := prog) (w := w) (A := A.in1) hh it l x.apart items).toS
  have other : Builtin.List.listSameRef (.ref S) (.ref it) = false := by simp [Builtin.List.listSameRef, x.it']
  have start : s.heap.IsRevIter it l ((items.size : Int) - 1 - ((0 : Nat) : Int)) := by simpa using x.iter
  unfold Builtin.List.listExtendWith
  refine wpAny_bind (wpAny_typeOf x.iter.typeIs ?_)
  rw [other, if_neg (by decide)]
  refine wpAny_bind (wpAny_pyIter_revIter (s := s) x.iter (wpAny_bind (wpAny_holding (hint_rev x.iter.typeIs ?_))))
  rw [if_neg (by decide)]
  refine wpAny_pure ⟨plainId_quiet F.plain_extend_loop _, codeAny_extend_loopS walk x.few _ (by simp [x.it', x.l']) _ items.size 0 _ _ _ rfl (Nat.zero_le _) ⟨Nat.zero_le _, start, x.src⟩ hS (ItemsOf.nil _) ?_⟩
  intro t acc c moved got all
  rw [Moved.eq_with moved]
  exact hR _ _ acc c (fun b o h1 h2 e => moved.heap b o (by simp [h1, h2]) e) got all
/-- list(..) of such an iterator, the list made anew -/
theorem call_list_rev {Q : Value → Shared → Prop} (hh : A.handled = none) (hit : s.heap.IsRevIter it l ((items.size : Int) - 1)) (hl : s.heap.IsList l items) (hne : l ≠ it) (hn : items.size ≤ sizeLine)
    (hQ : ∀ h' tk acc c, (∀ b o, b ≠ it → s.heap.get? b = some o → h'.get? b = some o) → h'.get? s.heap.objs.size = some { cls := .type "list", dict := none, data := .seq acc c, slots := #[] } →
      ItemsOf (fun i v => items[items.size - 1 - i]? = some v) acc items.size → Q (.ref s.heap.objs.size) { s with heap := h', toks := tk }) : wpAny (model prog w) A (call (.type "list") [.ref it]) Q E s := by
  have lt : ∀ {b o}, s.heap.get? b = some o → s.heap.objs.size ≠ b := fun e => Nat.ne_of_gt (Heap.lt_size e)
  let s1 : Shared := { s with heap := s.heap.push { cls := .type "list", data := .seq #[] } }
  have made : s1.heap.get? s.heap.objs.size = some { cls := .type "list", data := .seq #[] } := Heap.get?_push_size _ rfl
  have up : ∀ b o, s.heap.get? b = some o → s1.heap.get? b = some o := fun b o e => Heap.get?_push_of_some _ e
  refine callType_codes (Q₁ := fun obj t => obj = .ref s.heap.objs.size ∧ t = s1) F.called_list (F.typeCall_list_1 _) F.entry_list_init (code_list_new _ ⟨rfl, rfl⟩) ?_
  rintro _ _ ⟨rfl, rfl⟩
  refine ⟨⟨_, made, rfl⟩, F.args_list_init_2 _ _, ?_⟩
  -- __init__ takes out what was in it (nothing), then it takes the items
  show wpAny _ _ (do let old ← Builtin.List.listItems (.ref s.heap.objs.size); Builtin.List.listUpdate (.ref s.heap.objs.size) (fun _ => #[]); letGo old.toList.reverse; Builtin.List.listExtendWith (.ref s.heap.objs.size) (.ref it) .none) _ _ s1
  refine wpAny_bind (wpAny_listItems made rfl ?_)
  refine wpAny_bind (show wpAny _ _ (updateSeq s.heap.objs.size fun _ => #[]) _ _ s1 from wpAny_updateSeq made rfl (wpAny_bind (wpAny_letGo ?_)))
  have room : RevRoom s1 it l s.heap.objs.size items := ⟨hit.at fun o e => up _ o e, hl.push _, hne, hn, hit.elim fun o h => lt h.1, hl.elim fun o h => lt h.1⟩
  have stay : ∀ b o, b ≠ s.heap.objs.size → s1.heap.get? b = some o → (s1.heap.update s.heap.objs.size (Obj.mapSeq fun _ => (#[] : Array Value))).get? b = some o := fun b o hb e => (Heap.get?_update_other _ _ hb.symm).trans e
  refine take_rev (A := A.in1) hh (room.on (t' := s1.toks) stay) (Heap.get?_update_self (Obj.mapSeq fun _ => (#[] : Array Value)) made rfl) ?_
  intro h' tk acc c keep got all
  exact ⟨rfl, hQ h' tk acc c (fun b o hb e => keep b o (lt e).symm hb (stay b o (lt e).symm (up b o e))) got all⟩
end
/-- list(reversed(x)), x a list: a new list -/
def tListRev (K : PySem.W.Frag) (te : TE) : TE := fun σ H Q => te σ H fun v H1 => ∃ (a : Addr) (xs : List V), v = .ref a ∧ SqL K H1 a xs ∧ ∀ q, H1 q = none → Q (.ref q) (upd H1 q (.lst xs.reverse))
section
variable {X : Cx}
theorem pe_listRev {e : Expr} {te : TE} {p p2 pos pos2 : Pos} (hc : X.calm = true) (hg : Gl X "list") (hm : X.mg "list" = none) (hg2 : Gl X "reversed") (hm2 : X.mg "reversed" = none) (he : PE X e te)
    (h1 : starEach [e] X.env = (false, eval e X.env) :: starEach [] X.env := by rfl)
    (h2 : starEach [Expr.Call (.Name "reversed" p2) [e] [] pos2] X.env = (false, eval (Expr.Call (.Name "reversed" p2) [e] [] pos2) X.env) :: starEach [] X.env := by rfl) :
    PE X (.Call (.Name "list" p) [.Call (.Name "reversed" p2) [e] [] pos2] [] pos) (tListRev X.K te) where
  run := by
    intro pins s σ H Q I h
    have inner : ∀ {R : Value → Shared → Prop}, (∀ (t : Shared) (a : Addr) (xs : List V) (its : List Value) (H1 : Hp), L2.Inv X pins σ H1 t → Vals xs its → t.heap.IsList a its.toArray → xs.length ≤ sizeLine → (∀ q, H1 q = none → Q (.ref q) (upd H1 q (.lst xs.reverse))) →
        R (.ref t.heap.objs.size) { t with heap := t.heap.push (revObj a ((its.toArray.size : Int) - 1)) }) → wpAny (model X.prog X.w) X.A (eval (.Call (.Name "reversed" p2) [e] [] pos2) X.env) R X.xe s := fun {R} k =>
      Call_ (ld_blt I hg2 hm2 PyProof.Rows.boot_reversed (PyProof.Rows.callWith_type1 (args_cons (thn (he.run pins s σ H _ I h) fun u t hu => by
        obtain ⟨_, H1, I1, r1, a, xs, rfl, seq, q⟩ := hu
        cases r1
        obtain ⟨its, rel, there, few⟩ := I1.list seq
        exact args_nil (call_reversed_list there.isList (k t a xs its H1 I1 rel there.isList few q))) h1) h1 rfl))
    refine Call_ (ld_blt I hg hm bt_list (PyProof.Rows.callWith_type1 (args_cons (inner fun t a xs its H1 I1 rel there few q => args_nil ?_) h2) h2 rfl))
    have lt : ∀ {b o}, t.heap.get? b = some o → b ≠ t.heap.objs.size := fun e => Nat.ne_of_lt (Heap.lt_size e)
    have few' : its.toArray.size ≤ sizeLine := by rw [List.size_toArray, ← rel.length]; exact few
    refine call_list_rev (s := { t with heap := t.heap.push (revObj a ((its.toArray.size : Int) - 1)) }) (I1.ok.hd hc) ⟨_, Heap.get?_push_size _ rfl, rfl, rfl⟩ (there.push _) (there.elim fun o h => lt h.1) few' ?_
    intro h' tk acc c keep got all
    have behind : t.heap.objs.size ≤ (t.heap.push (revObj a ((its.toArray.size : Int) - 1))).objs.size := by rw [Heap.size_push]; exact Nat.le_succ _
    have back : ObjOk X.prog X.w (upd H1 (t.heap.push (revObj a ((its.toArray.size : Int) - 1))).objs.size (.lst xs.reverse)) h' (t.heap.push (revObj a ((its.toArray.size : Int) - 1))).objs.size (.lst xs.reverse) :=
      ⟨by rw [List.length_reverse]; exact few, acc.toList, c, vals_rev rel all, by rw [Array.toArray_toList]; exact got⟩
    exact ⟨.ref _, _, I1.laid (t' := tk) (fun b o e => keep b o (lt e) (Heap.get?_push_of_some _ e)) behind back, rfl, q _ (I1.hok.fresh behind)⟩
end
end GL
/-! ### dicts of sums; a walk over a dict's keys -/
namespace GL
open PySem PySem.Spec L2
theorem upd_id {H : Hp} {a : Addr} {o : HO} (h : H a = some o) : upd H a o = H := by
  funext b
  by_cases e : b = a
  · rw [e, upd_same, h]
  · rw [upd_ne e]
theorem upd_unlock {H : Hp} {d t : Addr} {u f o : HO} (ne : t ≠ d) (h : H d = some u) : upd (upd (upd H d f) t o) d u = upd H t o := by
  funext b
  by_cases e : b = d
  · rw [e, upd_same, upd_ne ne.symm, h]
  · rw [upd_ne e]
    by_cases e2 : b = t
    · rw [e2, upd_same, upd_same]
    · rw [upd_ne e2, upd_ne e2, upd_ne e]
theorem for_keys {d : Addr} {od : Obj} {kvs : List (Key × V)} {g : TG} {tb : TS} {D : Ends} {σ : L2.St} {H : Hp} (Pv : Nat → L2.St → Hp → Prop) (h0 : Pv 0 σ H) (hq : ∀ i σ H, Pv i σ H → H d = some (.frz od (.dK kvs)))
    (hs : ∀ (i : Nat) (k : Key) (v : V) (σ : L2.St) (H : Hp), kvs[i]? = some (k, v) → Pv i σ H → g (kV k) σ H fun σ2 H2 => tb { D with nx := Pv (i + 1), ct := Pv (i + 1), bk := D.nx } σ2 H2) (hd : ∀ σ H, Pv kvs.length σ H → D.nx σ H) :
    ∃ W : Nat → Nat → L2.St → Hp → Prop, (∃ m, W 0 m σ H) ∧ ∀ i m σ H, W i m σ H →
      ((Itk d od kvs).stop i H ∧ D.nx σ H) ∨ ((Itk d od kvs).go i H ∧ ∃ N : L2.St → Hp → Prop, (∀ σ' H', N σ' H' → ∃ m', m' < m ∧ W (i + 1) m' σ' H') ∧ ∀ x H', (Itk d od kvs).yld i H x H' → g x σ H' fun σ2 H2 => tb { D with nx := N, ct := N, bk := D.nx } σ2 H2) := by
  refine ⟨fun i m σ H => m = kvs.length - i ∧ i ≤ kvs.length ∧ Pv i σ H, ⟨kvs.length, rfl, Nat.zero_le _, h0⟩, ?_⟩
  rintro i m σ H ⟨rfl, hi, p⟩
  have q := hq i σ H p
  by_cases hlt : i < kvs.length
  · refine .inr ⟨⟨q, hlt⟩, Pv (i + 1), fun σ' H' p' => ⟨kvs.length - (i + 1), by omega, rfl, hlt, p'⟩, fun x H' y => ?_⟩
    obtain ⟨rfl, k, v, e, rfl⟩ := y
    exact hs i k v σ _ e p
  · have e : i = kvs.length := by omega
    subst e
    exact .inl ⟨⟨q, Nat.le_refl _⟩, hd σ H p⟩
theorem mem_putK {kvs : List (Key × V)} {k : Key} {v : V} {p : Key × V} (h : p ∈ putK kvs k v) : p.1 = k ∨ ∃ q ∈ kvs, q.1 = p.1 := by
  unfold putK at h
  split at h
  · obtain ⟨q, hq, e⟩ := List.mem_map.mp h
    by_cases c : q.1 = k
    · rw [if_pos c] at e
      rw [← e]
      exact .inl c
    · rw [if_neg c] at e
      exact .inr ⟨q, hq, by rw [e]⟩
  · rcases List.mem_append.mp h with e | e
    · exact .inr ⟨p, e, rfl⟩
    · rw [List.mem_singleton.mp e]
      exact .inl rfl
theorem valV_at {kvs : List (Key × V)} {k : Key} {v : V} (h : valV kvs k = some v) : ∃ (j : Nat) (w : V), kvs[j]? = some (k, w) := by
  unfold valV at h
  cases e : kvs.find? fun kv => decide (kv.1 = k) with
  | none =>
    rw [e] at h
    cases h
  | some p =>
    have hm := List.mem_of_find?_eq_some e
    have hk := List.find?_some e
    obtain ⟨j, hj, ej⟩ := List.getElem_of_mem hm
    refine ⟨j, p.2, ?_⟩
    rw [List.getElem?_eq_getElem hj, ej, ← of_decide_eq_true hk]
structure SumD (ns : List Int) (k : Nat) (kvs : List (Key × V)) : Prop where
  all : ∀ p ∈ kvs, ∃ s, p.1 = Sum.inl s ∧ GR.SS ns k s
  has : ∀ s, GR.SS ns k s → ∃ v, valV kvs (Sum.inl s : Key) = some v
  len : kvs.length ≤ 2 ^ k
theorem SumD.zero (ns : List Int) : SumD ns 0 [(Sum.inl 0, .bl true)] := by
  refine ⟨fun p hp => ?_, fun s hs => ?_, Nat.le_refl _⟩
  · rw [List.mem_singleton.mp hp]
    exact ⟨0, rfl, rfl⟩
  · have e : s = 0 := hs
    rw [e]
    exact ⟨_, valV_pos rfl⟩
theorem SumD.iff {ns : List Int} {k : Nat} {kvs : List (Key × V)} (D : SumD ns k kvs) (s : Int) : (valV kvs (Sum.inl s : Key)).isSome = true ↔ GR.SS ns k s := by
  constructor
  · intro h
    obtain ⟨v, e⟩ := Option.isSome_iff_exists.mp h
    obtain ⟨j, w, ej⟩ := valV_at e
    obtain ⟨t, et, q⟩ := D.all _ (List.mem_of_getElem? ej)
    have : s = t := Sum.inl.inj et
    rw [this]
    exact q
  · intro h
    obtain ⟨v, e⟩ := D.has s h
    rw [e]
    rfl
/-- the next dict, behind i keys of the last one -/
structure Mid (ns : List Int) (k : Nat) (kvs : List (Key × V)) (i : Nat) (kt : List (Key × V)) : Prop where
  all : ∀ p ∈ kt, ∃ s, p.1 = Sum.inl s ∧ GR.SS ns (k + 1) s
  has : ∀ (j : Nat) s v, j < i → kvs[j]? = some (Sum.inl s, v) → (∃ w, valV kt (Sum.inl s : Key) = some w) ∧ ∃ w, valV kt (Sum.inl (s + ns.getD k 0) : Key) = some w
  len : kt.length ≤ 2 * i
theorem Mid.zero (ns : List Int) (k : Nat) (kvs : List (Key × V)) : Mid ns k kvs 0 [] := ⟨(fun p hp => nomatch hp), fun j s v h => absurd h (Nat.not_lt_zero _), Nat.le_refl _⟩
theorem put_keep {kt : List (Key × V)} {k k' : Key} {v : V} (h : ∃ w, valV kt k = some w) : ∃ w, valV (putK kt k' v) k = some w := by
  rw [valV_put]
  by_cases c : k = k'
  · rw [if_pos c]
    exact ⟨_, rfl⟩
  · rw [if_neg c]
    exact h
theorem put_has {kt : List (Key × V)} {k : Key} {v : V} : ∃ w, valV (putK kt k v) k = some w := ⟨v, by rw [valV_put, if_pos rfl]⟩
theorem Mid.step {ns : List Int} {k : Nat} {kvs kt : List (Key × V)} {i : Nat} {s : Int} {v v1 v2 : V} (M : Mid ns k kvs i kt) (hs : GR.SS ns k s) (e : kvs[i]? = some (Sum.inl s, v)) : Mid ns k kvs (i + 1) (putK (putK kt (Sum.inl s) v1) (Sum.inl (s + ns.getD k 0)) v2) := by
  have up : GR.SS ns (k + 1) s := .inl hs
  have up2 : GR.SS ns (k + 1) (s + ns.getD k 0) := .inr (by rw [Int.add_sub_cancel]; exact hs)
  refine ⟨fun p hp => ?_, fun j t w hj ej => ?_, ?_⟩
  · rcases mem_putK hp with h | ⟨q, hq, h⟩
    · exact ⟨_, h, up2⟩
    · rcases mem_putK hq with h2 | ⟨q2, hq2, h2⟩
      · exact ⟨_, by rw [← h, h2], up⟩
      · obtain ⟨t, et, qt⟩ := M.all q2 hq2
        exact ⟨t, by rw [← h, ← h2, et], qt⟩
  · by_cases c : j < i
    · obtain ⟨a, b⟩ := M.has j t w c ej
      exact ⟨put_keep (put_keep a), put_keep (put_keep b)⟩
    · have eji : j = i := by omega
      rw [eji, e] at ej
      have est : s = t := Sum.inl.inj (Prod.mk.inj (Option.some.inj ej)).1
      rw [← est]
      exact ⟨put_keep put_has, put_has⟩
  · have a := length_putK (putK kt (Sum.inl s) v1) (Sum.inl (s + ns.getD k 0) : Key) v2
    have b := length_putK kt (Sum.inl s : Key) v1
    have := M.len
    omega
theorem Mid.done {ns : List Int} {k : Nat} {kvs kt : List (Key × V)} (D : SumD ns k kvs) (M : Mid ns k kvs kvs.length kt) : SumD ns (k + 1) kt := by
  have ix : ∀ s, GR.SS ns k s → ∃ (j : Nat) (w : V), j < kvs.length ∧ kvs[j]? = some (Sum.inl s, w) := fun s hs => by
    obtain ⟨v, e⟩ := D.has s hs
    obtain ⟨j, w, ej⟩ := valV_at e
    exact ⟨j, w, (List.getElem?_eq_some_iff.mp ej).1, ej⟩
  refine ⟨M.all, fun t ht => ?_, ?_⟩
  · rcases ht with h | h
    · obtain ⟨j, w, hj, ej⟩ := ix t h
      exact (M.has j t w hj ej).1
    · obtain ⟨j, w, hj, ej⟩ := ix _ h
      have q := (M.has j _ w hj ej).2
      rw [Int.sub_add_cancel] at q
      exact q
  · have a := D.len
    have b := M.len
    rw [Nat.pow_succ]
    omega
/-- one dict, grown in place -/
structure Gro (ns : List Int) (k : Nat) (kvs : List (Key × V)) (i : Nat) (kt : List (Key × V)) : Prop where
  all : ∀ p ∈ kt, ∃ s, p.1 = Sum.inl s ∧ GR.SS ns (k + 1) s
  old : ∀ s, GR.SS ns k s → ∃ v, valV kt (Sum.inl s : Key) = some v
  has : ∀ (j : Nat) s v, j < i → kvs[j]? = some (Sum.inl s, v) → ∃ w, valV kt (Sum.inl (s + ns.getD k 0) : Key) = some w
  len : kt.length ≤ kvs.length + i
theorem Gro.zero {ns : List Int} {k : Nat} {kvs : List (Key × V)} (D : SumD ns k kvs) : Gro ns k kvs 0 kvs :=
  ⟨fun p hp => by obtain ⟨s, e, q⟩ := D.all p hp; exact ⟨s, e, .inl q⟩, D.has, fun j s v h => absurd h (Nat.not_lt_zero _), Nat.le_refl _⟩
theorem Gro.step {ns : List Int} {k : Nat} {kvs kt : List (Key × V)} {i : Nat} {s : Int} {v v2 : V} (M : Gro ns k kvs i kt) (hs : GR.SS ns k s) (e : kvs[i]? = some (Sum.inl s, v)) : Gro ns k kvs (i + 1) (putK kt (Sum.inl (s + ns.getD k 0)) v2) := by
  have up2 : GR.SS ns (k + 1) (s + ns.getD k 0) := .inr (by rw [Int.add_sub_cancel]; exact hs)
  refine ⟨fun p hp => ?_, fun t ht => put_keep (M.old t ht), fun j t w hj ej => ?_, ?_⟩
  · rcases mem_putK hp with h | ⟨q, hq, h⟩
    · exact ⟨_, h, up2⟩
    · obtain ⟨t, et, qt⟩ := M.all q hq
      exact ⟨t, by rw [← h, et], qt⟩
  · by_cases c : j < i
    · exact put_keep (M.has j t w c ej)
    · have eji : j = i := by omega
      rw [eji, e] at ej
      have est : s = t := Sum.inl.inj (Prod.mk.inj (Option.some.inj ej)).1
      rw [← est]
      exact put_has
  · have b := length_putK kt (Sum.inl (s + ns.getD k 0) : Key) v2
    have := M.len
    omega
theorem Gro.done {ns : List Int} {k : Nat} {kvs kt : List (Key × V)} (D : SumD ns k kvs) (M : Gro ns k kvs kvs.length kt) : SumD ns (k + 1) kt := by
  refine ⟨M.all, fun t ht => ?_, ?_⟩
  · rcases ht with h | h
    · exact M.old t h
    · obtain ⟨v, e⟩ := D.has _ h
      obtain ⟨j, w, ej⟩ := valV_at e
      have q := M.has j _ w (List.getElem?_eq_some_iff.mp ej).1 ej
      rw [Int.sub_add_cancel] at q
      exact q
  · have a := D.len
    have b := M.len
    rw [Nat.pow_succ]
    omega
end GL
/-! ### comprehensions over zip -/
namespace GL
open PySem PySem.Spec L2
section
variable {X : Cx}
theorem pgT (K : PySem.W.Frag) (hK : X.K = K) {es : List Expr} {k : Nat} {t : TGs} {n : Nat} {pos : Pos} (hc : X.calm = true) (h : PGs X es t)
    (hn : (assignEach es X.env).length = n := by rfl) (hst : (assignEach es X.env).findIdx? (·.1) = none := by rfl) : PG X (.Tuple es k pos) (gTup K n t) := hK ▸ pg_tup hc h hn hst
end
theorem wipe2 (σ : L2.St) {u v : Nat} (huv : u ≠ v) (x y : Option V) : wipe (((wipe σ [u, v]).set u x).set v y) [u, v] = wipe σ [u, v] := by
  show (((((σ.set v none).set u none).set u x).set v y).set v none).set u none = (σ.set v none).set u none
  rw [List.set_set, List.set_set, List.set_comm _ _ huv, List.set_set, List.set_set]
theorem lc_zip {K : PySem.W.Frag} {a b : Addr} {xs ys : List V} {te : TE} {u v : Nat} {σ : L2.St} {H1 : Hp} {D : Addr} {Qd : Hp → Prop} (huv : u ≠ v) (R : Nat → V → Prop) (hx : SqL K H1 a xs) (hy : SqL K H1 b ys) (hl : xs.length = ys.length) (nD : H1 D = none) (hn : xs.length ≤ 1000)
    (hs : ∀ i x y H', xs[i]? = some x → ys[i]? = some y → Same H1 H' → ∀ Q' : VK, (∀ z, R i z → Q' z H') → te (((wipe σ [u, v]).set u (some x)).set v (some y)) H' Q')
    (hd : ∀ H' zs, zs.length = xs.length → (∀ i z, zs[i]? = some z → R i z) → Same H1 H' → H' D = some (.lst zs) → Qd H') :
    ∃ W : Nat → Nat → Hp → Prop, (∃ m, W 0 m (upd H1 D (.lst []))) ∧ ∀ i m H, W i m H →
      ((Itz K a b).stop i H ∧ Qd H) ∨ ((Itz K a b).go i H ∧ ∃ Nx : Hp → Prop, (∀ H', Nx H' → ∃ m', m' < m ∧ W (i + 1) m' H') ∧ ∀ x H', (Itz K a b).yld i H x H' → gTup K 2 (gCons (gName u) (gCons (gName v) gNil)) x (wipe σ [u, v]) H' fun σ2 H2 => wipe σ2 [u, v] = wipe σ [u, v] ∧ tYes σ2 H2 fun c H3 =>
        if c = true then te σ2 H3 fun y H4 => ∃ acc, H4 D = some (.lst acc) ∧ acc.length < sizeLine ∧ Nx (upd H4 D (.lst (acc ++ [y]))) else Nx H3) := by
  refine ⟨fun i m H => m = xs.length - i ∧ i ≤ xs.length ∧ Same H1 H ∧ ∃ zs, H D = some (.lst zs) ∧ zs.length = i ∧ ∀ j z, zs[j]? = some z → R j z, ⟨xs.length, by omega, Nat.zero_le _, Same.new nD, [], upd_same, rfl, fun j z h => by simp at h⟩, ?_⟩
  rintro i m H ⟨rfl, hi, sm, zs, eD, hzl, hR⟩
  have hX := sm.seq hx
  have hY := sm.seq hy
  by_cases c : i < xs.length
  · have cy : i < ys.length := by omega
    have ex : xs[i]? = some xs[i] := List.getElem?_eq_getElem c
    have ey : ys[i]? = some ys[i] := List.getElem?_eq_getElem cy
    refine .inr ⟨⟨_, _, _, _, hX, hY, ex, ey⟩, fun H' => Same H1 H' ∧ ∃ zs, H' D = some (.lst zs) ∧ zs.length = i + 1 ∧ ∀ j z, zs[j]? = some z → R j z, fun H' h => ⟨xs.length - (i + 1), by omega, rfl, c, h⟩, ?_⟩
    rintro w H' ⟨T, x, y, rfl, nT, rfl, f1, f2⟩
    have e1 : x = xs[i] := Option.some.inj ((f1 _ hX).symm.trans ex)
    have e2 : y = ys[i] := Option.some.inj ((f2 _ hY).symm.trans ey)
    subst e1 e2
    have sT : Same H (upd H T (.tup [xs[i], ys[i]])) := Same.new nT
    refine ⟨T, _, rfl, SqT.of upd_same, rfl, _, _, rfl, _, _, rfl, rfl, wipe2 σ huv _ _, ?_⟩
    refine yes_of ?_
    refine iteT (hs i _ _ _ ex ey (sm.trans sT) _ fun z hz => ⟨zs, sT _ _ eD, line_lt (by omega), (sm.trans sT).put nD, zs ++ [z], upd_same, by rw [List.length_append, hzl]; rfl, fun j q hq => ?_⟩)
    by_cases cj : j < zs.length
    · rw [List.getElem?_append_left cj] at hq
      exact hR j q hq
    · rw [List.getElem?_append_right (by omega)] at hq
      have e0 : j - zs.length = 0 := by
        rcases Nat.eq_zero_or_pos (j - zs.length) with k | k
        · exact k
        · rw [List.getElem?_eq_none (by simp only [List.length_cons, List.length_nil]; omega)] at hq
          cases hq
      rw [e0] at hq
      have ez : z = q := Option.some.inj hq
      have ej : j = i := by omega
      rw [← ez, ej]
      exact hz
  · refine .inl ⟨⟨xs, ys, hX, hY, .inl (by omega)⟩, hd H zs (by omega) hR sm eD⟩
theorem lc_zipI {K : PySem.W.Frag} {a b : Addr} {ns ms : List Int} {te : TE} {u v : Nat} {σ : L2.St} {H1 : Hp} {D : Addr} {Qd : Hp → Prop} (huv : u ≠ v) (P : Nat → Int → Prop) (hx : SqL K H1 a (vi ns)) (hy : SqL K H1 b (vi ms)) (hl : ns.length = ms.length) (nD : H1 D = none) (hn : ns.length ≤ 1000)
    (hs : ∀ i H', i < ns.length → Same H1 H' → ∀ Q' : VK, (∀ z, P i z → Q' (.int z) H') → te (((wipe σ [u, v]).set u (some (.int (ns.getD i 0)))).set v (some (.int (ms.getD i 0)))) H' Q')
    (hd : ∀ H' zs, zs.length = ns.length → (∀ i, i < ns.length → P i (zs.getD i 0)) → Same H1 H' → H' D = some (.lst (vi zs)) → Qd H') :
    ∃ W : Nat → Nat → Hp → Prop, (∃ m, W 0 m (upd H1 D (.lst []))) ∧ ∀ i m H, W i m H →
      ((Itz K a b).stop i H ∧ Qd H) ∨ ((Itz K a b).go i H ∧ ∃ Nx : Hp → Prop, (∀ H', Nx H' → ∃ m', m' < m ∧ W (i + 1) m' H') ∧ ∀ x H', (Itz K a b).yld i H x H' → gTup K 2 (gCons (gName u) (gCons (gName v) gNil)) x (wipe σ [u, v]) H' fun σ2 H2 => wipe σ2 [u, v] = wipe σ [u, v] ∧ tYes σ2 H2 fun c H3 =>
        if c = true then te σ2 H3 fun y H4 => ∃ acc, H4 D = some (.lst acc) ∧ acc.length < sizeLine ∧ Nx (upd H4 D (.lst (acc ++ [y]))) else Nx H3) :=
  lc_zip huv (fun i y => ∃ z, y = .int z ∧ P i z) hx hy (by rw [vi_len, vi_len, hl]) nD (by rw [vi_len]; exact hn) (fun i x y H' ex ey sm Q' hQ => by
    have hi : i < ns.length := by
      have := (List.getElem?_eq_some_iff.mp ex).1
      rw [vi_len] at this
      exact this
    have e1 : x = .int (ns.getD i 0) := Option.some.inj (ex.symm.trans (vi_nth hi))
    have e2 : y = .int (ms.getD i 0) := Option.some.inj (ey.symm.trans (vi_nth (by omega)))
    subst e1 e2
    exact hs i H' hi sm Q' fun z hz => hQ _ ⟨z, rfl, hz⟩) fun H' ys hl2 hR sm e => by
    obtain ⟨zs, ez, l, q⟩ := all_ints hl2 hR
    rw [ez] at e
    rw [vi_len] at l q
    exact hd H' zs l q sm e
end GL
/-! ### the text by places -/
namespace GK
open PySem PySem.Spec PyProof.Rows L2 GL
def topS (i : Nat) : Stmt := PySem.Challenge.pw_gapring_k07_what_was_ahead.main.body.getD i (.Pass ⟨0, 0, 0, 0⟩)
abbrev s_asked : Stmt := topS 7
abbrev s_parting : Stmt := topS 9
abbrev s_ahead : Stmt := topS 10
abbrev s_l_cell_at : Stmt := topS 12
abbrev s_l_draw : Stmt := topS 13
abbrev s_l_whole : Stmt := topS 14
abbrev s_l_ring_by : Stmt := topS 15
abbrev s_l_gaps : Stmt := topS 16
abbrev s_l_is : Stmt := topS 17
abbrev s_l_halved : Stmt := topS 18
abbrev s_l_is_parting : Stmt := topS 19
abbrev s_l_is_ahead : Stmt := topS 20
abbrev s_law : Stmt := topS 21
abbrev N_asked : List Str := ["ring", "number"]
theorem sc_asked : FnScope N_asked ["ring"] (defScope s_asked) := ⟨rfl, rfl, rfl, by decide +kernel, rfl, by decide +kernel, by decide +kernel⟩
abbrev N_parting : List Str := ["ring", "total", "sums", "number", "then", "one", "left", "found", "k", "taken"]
theorem sc_parting : FnScope N_parting ["ring"] (defScope s_parting) := ⟨rfl, rfl, rfl, by decide +kernel, rfl, by decide +kernel, by decide +kernel⟩
abbrev N_ahead : List Str := ["ring", "sides", "row", "number", "up", "least"]
theorem sc_ahead : FnScope N_ahead ["ring"] (defScope s_ahead) := ⟨rfl, rfl, rfl, by decide +kernel, rfl, by decide +kernel, by decide +kernel⟩
abbrev N_l_cell_at : List Str := ["script", "k"]
theorem sc_l_cell_at : FnScope N_l_cell_at ["script", "k"] (defScope s_l_cell_at) := ⟨rfl, rfl, rfl, by decide +kernel, rfl, by decide +kernel, by decide +kernel⟩
abbrev N_l_draw : List Str := ["cell", "k", "bound", "stir"]
theorem sc_l_draw : FnScope N_l_draw ["cell", "k", "bound"] (defScope s_l_draw) := ⟨rfl, rfl, rfl, by decide +kernel, rfl, by decide +kernel, by decide +kernel⟩
abbrev N_l_whole : List Str := ["found"]
theorem sc_l_whole : FnScope N_l_whole ["found"] (defScope s_l_whole) := ⟨rfl, rfl, rfl, by decide +kernel, rfl, by decide +kernel, by decide +kernel⟩
abbrev N_l_ring_by : List Str := ["script", "first", "cell", "size", "bound", "ring", "k", "number"]
theorem sc_l_ring_by : FnScope N_l_ring_by ["script", "first"] (defScope s_l_ring_by) := ⟨rfl, rfl, rfl, by decide +kernel, rfl, by decide +kernel, by decide +kernel⟩
abbrev N_l_gaps : List Str := ["ring", "k"]
theorem sc_l_gaps : FnScope N_l_gaps ["ring"] (defScope s_l_gaps) := ⟨rfl, rfl, rfl, by decide +kernel, rfl, by decide +kernel, by decide +kernel⟩
abbrev N_l_is : List Str := ["found", "due", "number"]
theorem sc_l_is : FnScope N_l_is ["found", "due"] (defScope s_l_is) := ⟨rfl, rfl, rfl, by decide +kernel, rfl, by decide +kernel, by decide +kernel⟩
abbrev N_l_halved : List Str := ["ring", "sums", "number", "one"]
theorem sc_l_halved : FnScope N_l_halved ["ring"] (defScope s_l_halved) := ⟨rfl, rfl, rfl, by decide +kernel, rfl, by decide +kernel, by decide +kernel⟩
abbrev N_l_is_parting : List Str := ["found", "ring", "sums", "side", "number"]
theorem sc_l_is_parting : FnScope N_l_is_parting ["found", "ring"] (defScope s_l_is_parting) := ⟨rfl, rfl, rfl, by decide +kernel, rfl, by decide +kernel, by decide +kernel⟩
abbrev N_l_is_ahead : List Str := ["found", "ring", "number"]
theorem sc_l_is_ahead : FnScope N_l_is_ahead ["found", "ring"] (defScope s_l_is_ahead) := ⟨rfl, rfl, rfl, by decide +kernel, rfl, by decide +kernel, by decide +kernel⟩
abbrev N_law : List Str := ["script", "ring", "handed", "turn", "sides", "row"]
theorem sc_law : FnScope N_law ["script"] (defScope s_law) := ⟨rfl, rfl, rfl, by decide +kernel, rfl, by decide +kernel, by decide +kernel⟩
/-- what the top has left -/
structure Txt (K : PySem.W.Frag) (mg : Str → Option Value) where
  f_asked : Addr
  d_asked : FuncData
  F_asked : Fun K "asked" "asked" s_asked f_asked d_asked
  b_asked : Binds K d_asked ["ring"] []
  g_asked : mg "asked" = some (.ref f_asked)
  f_parting : Addr
  d_parting : FuncData
  F_parting : Fun K "parting" "parting" s_parting f_parting d_parting
  b_parting : Binds K d_parting ["ring"] []
  g_parting : mg "parting" = some (.ref f_parting)
  f_ahead : Addr
  d_ahead : FuncData
  F_ahead : Fun K "ahead" "ahead" s_ahead f_ahead d_ahead
  b_ahead : Binds K d_ahead ["ring"] []
  g_ahead : mg "ahead" = some (.ref f_ahead)
  f_l_cell_at : Addr
  d_l_cell_at : FuncData
  F_l_cell_at : Fun K "_law_cell_at" "_law_cell_at" s_l_cell_at f_l_cell_at d_l_cell_at
  b_l_cell_at : Binds K d_l_cell_at ["script", "k"] []
  g_l_cell_at : mg "_law_cell_at" = some (.ref f_l_cell_at)
  f_l_draw : Addr
  d_l_draw : FuncData
  F_l_draw : Fun K "_law_draw" "_law_draw" s_l_draw f_l_draw d_l_draw
  b_l_draw : Binds K d_l_draw ["cell", "k", "bound"] []
  g_l_draw : mg "_law_draw" = some (.ref f_l_draw)
  f_l_whole : Addr
  d_l_whole : FuncData
  F_l_whole : Fun K "_law_whole" "_law_whole" s_l_whole f_l_whole d_l_whole
  b_l_whole : Binds K d_l_whole ["found"] []
  g_l_whole : mg "_law_whole" = some (.ref f_l_whole)
  f_l_ring_by : Addr
  d_l_ring_by : FuncData
  F_l_ring_by : Fun K "_law_ring_by" "_law_ring_by" s_l_ring_by f_l_ring_by d_l_ring_by
  b_l_ring_by : Binds K d_l_ring_by ["script", "first"] []
  g_l_ring_by : mg "_law_ring_by" = some (.ref f_l_ring_by)
  f_l_gaps : Addr
  d_l_gaps : FuncData
  F_l_gaps : Fun K "_law_gaps" "_law_gaps" s_l_gaps f_l_gaps d_l_gaps
  b_l_gaps : Binds K d_l_gaps ["ring"] []
  g_l_gaps : mg "_law_gaps" = some (.ref f_l_gaps)
  f_l_is : Addr
  d_l_is : FuncData
  F_l_is : Fun K "_law_is" "_law_is" s_l_is f_l_is d_l_is
  b_l_is : Binds K d_l_is ["found", "due"] []
  g_l_is : mg "_law_is" = some (.ref f_l_is)
  f_l_halved : Addr
  d_l_halved : FuncData
  F_l_halved : Fun K "_law_halved" "_law_halved" s_l_halved f_l_halved d_l_halved
  b_l_halved : Binds K d_l_halved ["ring"] []
  g_l_halved : mg "_law_halved" = some (.ref f_l_halved)
  f_l_is_parting : Addr
  d_l_is_parting : FuncData
  F_l_is_parting : Fun K "_law_is_parting" "_law_is_parting" s_l_is_parting f_l_is_parting d_l_is_parting
  b_l_is_parting : Binds K d_l_is_parting ["found", "ring"] []
  g_l_is_parting : mg "_law_is_parting" = some (.ref f_l_is_parting)
  f_l_is_ahead : Addr
  d_l_is_ahead : FuncData
  F_l_is_ahead : Fun K "_law_is_ahead" "_law_is_ahead" s_l_is_ahead f_l_is_ahead d_l_is_ahead
  b_l_is_ahead : Binds K d_l_is_ahead ["found", "ring"] []
  g_l_is_ahead : mg "_law_is_ahead" = some (.ref f_l_is_ahead)
  f_law : Addr
  d_law : FuncData
  F_law : Fun K "law" "law" s_law f_law d_law
  b_law : Binds K d_law ["script"] []
  g_law : mg "law" = some (.ref f_law)
  c_FEWEST : ∃ t, mg "FEWEST" = some (.int 3 t)
  c_MOST : ∃ t, mg "MOST" = some (.int 16 t)
  c_GREATEST : ∃ t, mg "GREATEST" = some (.int 1000 t)
  z_abs : mg "abs" = none
  z_bool : mg "bool" = none
  z_int : mg "int" = none
  z_isinstance : mg "isinstance" = none
  z_len : mg "len" = none
  z_list : mg "list" = none
  z_min : mg "min" = none
  z_range : mg "range" = none
  z_reversed : mg "reversed" = none
  z_sum : mg "sum" = none
  z_zip : mg "zip" = none
section
variable {P : Program} {w : World} {K : PySem.W.Frag} {mg : Str → Option Value} {base : Heap}
/-! ### asked: a ring passes -/
def sp_asked (K : PySem.W.Frag) : Sp := fun vs H Q _ => ∃ (a : Addr) (ns : List Int), vs = [.ref a] ∧ SqL K H a (vi ns) ∧ GR.Ring ns ∧ Q .non H
theorem ok_asked (T : Txt K mg) : FnOk P w K mg base CX0 1 T.f_asked T.d_asked ["ring"] (sp_asked K) := by
  refine T.F_asked.ok sc_asked (fun vs H Q E h => ?_) (fun cdv A outer s H vs Q E hr h => ?_)
  · obtain ⟨a, ns, rfl, _⟩ := h
    rfl
  · obtain ⟨a, ns, rfl, hS, R, q⟩ := h
    refine ⟨_, pss_cons (ps_if (PW.pt (pw_or (pt_cmpR op_lt (pe_callB call_len_seq (by rfl) T.z_len bt_len (pa_cons (pv 0) pa_nil)) (pe_num T.c_FEWEST) (nomark _))
        (pw_or1 (pt_cmpR op_gt (pe_callB call_len_seq (by rfl) T.z_len bt_len (pa_cons (pv 0) pa_nil)) (pe_num T.c_MOST) (nomark _))))) pss_never pss_nil)
      (pss_one (ps_for PassesOwn.never rfl (pi_list (pv 0)) (pg_name (i := 1) sc_asked.nd rfl (.inl rfl))
        (pss_one (ps_if (PW.pt (pw_or (pt_cmpR op_lt (pv 1) pe_int (nomark _)) (pw_or1 (pt_cmpR op_gt (pv 1) (pe_num T.c_GREATEST) (nomark _))))) pss_never pss_nil)))), ?_⟩
    have h3 := R.lo
    have h16 := R.hi
    refine ⟨_, rfl, a, _, rfl, .inl hS, _, _, rfl, rfl, _, rfl, ifN (by rw [vi_len]; omega) ?_⟩
    refine ⟨_, rfl, a, _, rfl, .inl hS, _, _, rfl, rfl, _, rfl, ifN (by rw [vi_len]; omega) ?_⟩
    refine ⟨_, rfl, a, rfl, ⟨_, hS⟩, for_list (K := K) (a := a) (xs := vi ns) (fun i σ H' => ∃ v, σ = [some (.ref a), v] ∧ H' = H) ⟨none, rfl, rfl⟩ (fun i σ H' _ ⟨_, _, e⟩ => e ▸ hS) ?_ ?_⟩
    · rintro i x σ H' hi ⟨v, rfl, rfl⟩
      obtain ⟨z, hz, rfl⟩ := vi_at hi
      have b := R.bd z (List.mem_of_getElem? hz)
      refine ⟨_, rfl, _, _, rfl, rfl, _, rfl, ifN (by omega) ?_⟩
      exact ⟨_, rfl, _, _, rfl, rfl, _, rfl, ifN (by omega) ⟨_, rfl, rfl⟩⟩
    · rintro σ H' ⟨v, rfl, rfl⟩
      exact q
/-! ### parting -/
def Parted (ns : List Int) (g : List Bool) : Prop := g.length = ns.length ∧ 2 * GR.psum g ns = ns.sum
def sp_parting (K : PySem.W.Frag) : Sp := fun vs H Q _ => ∃ (a : Addr) (ns : List Int), vs = [.ref a] ∧ SqL K H a (vi ns) ∧ GR.Ring ns ∧
  ∀ H' v, Same H H' → ((v = .non ∧ ¬ GR.Half ns) ∨ ∃ (p : Addr) (g : List Bool), v = .ref p ∧ H p = none ∧ H' p = some (.lst (g.map V.bl)) ∧ Parted ns g) → Q v H'
theorem ok_parting (T : Txt K mg) : FnOk P w K mg base CX0 2 T.f_parting T.d_parting ["ring"] (sp_parting K) := by
  refine T.F_parting.ok sc_parting (fun vs H Q E h => ?_) (fun cdv A outer s H vs Q E hr h => ?_)
  · obtain ⟨a, ns, rfl, _⟩ := h
    rfl
  · obtain ⟨a, ns, rfl, hS, R, q⟩ := h
    have hu := hu_of hr
    have R3 := R.lo
    have R16 := R.hi
    refine ⟨_, (pss_cons (ps_expr (pe_call (ok_asked T) (hr.mono (by decide)) (by rfl) T.g_asked T.F_asked.kp T.b_asked .nil pass0 (pa_cons (pv 0) pa_nil)))
      (pss_cons (ps_set (i := 1) sc_parting.nd rfl (.inl rfl) (pe_callB (cr_sum rfl) (by rfl) T.z_sum bt_sum (pa_cons (pv 0) pa_nil)))
      (pss_cons (ps_if (pt_cmpR op_eq (pe_op op_mod (pv 1) pe_int) pe_int (nomark _)) (pss_one (ps_ret pe_non)) pss_nil)
      (pss_cons (ps_set (i := 2) sc_parting.nd rfl (.inl rfl) (pe_lst (pa_cons (pe_disp (pps_cons pe_int pe_bl pps_nil) (by rfl) (by rfl) (fun z => by cases z) (by decide)) pa_nil)))
      (pss_cons (ps_for PassesOwn.never rfl (pi_list (pv 0)) (pg_name (i := 3) sc_parting.nd rfl (.inl rfl)) (pss_cons (ps_set (i := 4) sc_parting.nd rfl (.inl rfl) pe_dnewK)
      (pss_cons (ps_lock (ps_for PassesOwn.never rfl (pi_keys (pe_ix (ixL K rfl) (pv 2) (pe_un un_neg pe_int) (fun _ _ => rfl))) (pg_name (i := 5) sc_parting.nd rfl (.inl rfl)) (pss_cons (ps_dput hu (pv 4) (pv 5) pe_bl rfl)
      (pss_one (ps_dput hu (pv 4) (pe_op op_add (pv 5) (pv 3)) pe_bl rfl)))))
      (pss_one (ps_expr (pe_bm PySem.F.plainAttrs_list PySem.F.slot_list_append PySem.F.type_list_append mt_append (pv 2) (pa_cons (pv 4) pa_nil)))))))
      (pss_cons (ps_set (i := 6) sc_parting.nd rfl (.inl rfl) (pe_op op_fdiv (pv 1) pe_int))
      (pss_cons (ps_if (pt_cmp (pc_dnotin hu (pv 6) (pe_ix (ixL K rfl) (pv 2) (pe_un un_neg pe_int) (fun _ _ => rfl)))) (pss_one (ps_ret pe_non)) pss_nil)
      (pss_cons (ps_set (i := 7) sc_parting.nd rfl (.inl rfl) (pe_lst pa_nil))
      (pss_cons (ps_for PassesOwn.never rfl (pi_revR (by rfl) T.z_reversed (prg_1 (by rfl) T.z_range (pe_callB (lenL K rfl) (by rfl) T.z_len bt_len (pa_cons (pv 0) pa_nil)))) (pg_name (i := 8) sc_parting.nd rfl (.inl rfl)) (pss_cons (ps_set (i := 9) sc_parting.nd rfl (.inl rfl) (pe_cmp (pc_dnotin hu (pv 6) (pe_ix (ixL K rfl) (pv 2) (pv 8) (fun _ _ => rfl)))))
      (pss_cons (ps_if (pt_val (pv 9)) (pss_one (ps_set (i := 6) sc_parting.nd rfl (.inl rfl) (pe_op op_sub (pv 6) (pe_ix (ixL K rfl) (pv 0) (pv 8) (fun _ _ => rfl))))) pss_nil)
      (pss_one (ps_expr (pe_bm PySem.F.plainAttrs_list PySem.F.slot_list_append PySem.F.type_list_append mt_append (pv 7) (pa_cons (pv 9) pa_nil)))))))
      (pss_one (ps_ret (pe_listRev rfl (by rfl) T.z_list (by rfl) T.z_reversed (pv 7))))))))))))), ?_⟩
    refine ⟨_, rfl, a, ns, rfl, hS, R, ?_⟩
    refine ⟨_, rfl, a, ns, rfl, hS, ?_⟩
    refine ⟨_, rfl, _, _, rfl, rfl, (by show (0 : Int) < 2; decide), rfl, _, rfl, if2 (fun c => ?_) (fun c => ?_)⟩
    · exact q H _ (Same.refl H) (.inl ⟨rfl, fun h => by have := V.int.inj c; have := h.1; omega⟩)
    have hev : ns.sum % 2 = 0 := by
      have c' : ¬ ns.sum % 2 = 1 := fun z => c (vint z)
      omega
    -- sums = [{0: True}]
    refine fun d0 nd0 => ?_
    refine ⟨upd_same, [(Sum.inl 0, .bl true)], rfl, by decide, by show 1 ≤ sizeLine; decide, fun sA nsA => ?_⟩
    rw [upd_upd] at nsA ⊢
    have s0 := Same.new (o := .dK (mergeK [] [(Sum.inl 0, .bl true)])) nd0
    have s1 := Same.new (o := .lst [.ref d0]) nsA
    have nsH := s0.free nsA
    have e0 := s1 _ _ (upd_same : upd H d0 (.dK (mergeK [] [(Sum.inl 0, .bl true)])) d0 = _)
    -- for number in ring
    refine ⟨_, rfl, a, rfl, ⟨_, (s0.trans s1).seq hS⟩, for_list (K := K) (a := a) (xs := vi ns) (fun i σ H' => ∃ (ds : List Addr) (y3 y4 y5 : Option V), σ = [some (.ref a), some (.int ns.sum), some (.ref sA), y3, y4, y5, none, none, none, none] ∧ Same H H' ∧ H' sA = some (.lst (ds.map V.ref)) ∧ ds.length = i + 1 ∧
        ∀ (j : Nat) d, ds[j]? = some d → ∃ kvs, H' d = some (.dK kvs) ∧ SumD ns j kvs)
      ⟨[d0], none, none, none, rfl, s0.trans s1, upd_same, rfl, fun j d hd => ?_⟩ (fun i σ H' _ ⟨_, _, _, _, _, sm, _⟩ => sm.seq hS) ?_ ?_⟩
    · cases j with
      | zero =>
        have ed : d0 = d := Option.some.inj hd
        rw [← ed]
        exact ⟨_, e0, SumD.zero ns⟩
      | succ j => simp at hd
    · rintro i x σ H1 hi ⟨ds, y3, y4, y5, rfl, sm, eA, hdl, hds⟩
      have hil : i < ns.length := by
        have := (List.getElem?_eq_some_iff.mp hi).1
        rw [vi_len] at this
        exact this
      have ex : x = .int (ns.getD i 0) := Option.some.inj (hi.symm.trans (vi_nth hil))
      subst ex
      have hdi : i < ds.length := by omega
      have edi : ds[i]? = some ds[i] := List.getElem?_eq_getElem hdi
      obtain ⟨kvs, ek, D⟩ := hds i _ edi
      have hk16 : kvs.length ≤ 65536 := Nat.le_trans D.len (Nat.le_trans (Nat.pow_le_pow_right (by decide) (show i ≤ 16 by omega)) (by decide))
      -- then = {}
      refine fun t nt => ?_
      have st := Same.new (o := .dK []) nt
      have ntd : t ≠ ds[i] := (ne_of_none ek nt).symm
      have ek2 := st _ _ ek
      have eA2 := st _ _ eA
      have nAd : sA ≠ ds[i] := ne_of eA ek (fun z => by cases z)
      have nAt : sA ≠ t := ne_of_none eA nt
      -- for one in sums[-1]
      refine ⟨ds[i], .dK kvs, ek2, True.intro, fun od => ?_⟩
      have hlast : (ds.map V.ref)[(ds.map V.ref).length - 1]? = some (.ref ds[i]) := by
        rw [List.length_map, hdl, Nat.add_sub_cancel, List.getElem?_map, edi]
        rfl
      refine ⟨_, rfl, _, rfl, sA, _, _, _, rfl, rfl, SqL.of (at_ne eA2 nAd), atI_neg hlast, ds[i], od, rfl, .inl ⟨kvs, upd_same, ?_⟩⟩
      refine for_keys (fun j σ G => ∃ (kt : List (Key × V)) (w : Option V), σ = [some (.ref a), some (.int ns.sum), some (.ref sA), some (.int (ns.getD i 0)), some (.ref t), w, none, none, none, none] ∧ Mid ns i kvs j kt ∧ j ≤ kvs.length ∧
          G = upd (upd (upd H1 t (.dK [])) ds[i] (.frz od (.dK kvs))) t (.dK kt))
        ⟨[], y5, rfl, Mid.zero ns i kvs, Nat.zero_le _, ?_⟩ ?_ ?_ ?_
      · exact (upd_id (by rw [upd_ne ntd, upd_same])).symm
      · rintro j σ G ⟨kt, w, rfl, M, hj, rfl⟩
        rw [upd_ne ntd.symm, upd_same]
      · rintro j k v σ G ej ⟨kt, w, rfl, M, hj, rfl⟩
        have hjl : j < kvs.length := (List.getElem?_eq_some_iff.mp ej).1
        obtain ⟨s, es, hs⟩ := D.all _ (List.mem_of_getElem? ej)
        have es : k = Sum.inl s := es
        subst es
        have hl := M.len
        refine ⟨_, rfl, _, rfl, t, _, rfl, DPut.k (k := Sum.inl s) upd_same (line_lt (by omega)), ?_⟩
        have hp1 := length_putK kt (Sum.inl s : Key) (V.bl true)
        refine ⟨_, rfl, _, rfl, _, rfl, _, _, rfl, rfl, t, _, rfl, DPut.k (k := Sum.inl (s + ns.getD i 0)) upd_same (line_lt (by omega)), ?_⟩
        exact ⟨_, _, rfl, M.step hs ej, hjl, by rw [upd_upd, upd_upd]⟩
      · rintro σ G ⟨kt, w, rfl, M, hj, rfl⟩
        refine ⟨by rw [upd_ne ntd.symm, upd_same], ?_⟩
        rw [upd_unlock ntd ek2, upd_upd]
        have st2 := Same.new (o := .dK kt) nt
        have eA3 := st2 _ _ eA
        -- sums.append(then)
        refine ⟨_, rfl, .inl ⟨rfl, _, SqL.of eA3⟩, _, rfl, sA, _, _, rfl, rfl, eA3, line_lt (by rw [List.length_map]; omega), ?_⟩
        refine ⟨ds ++ [t], _, _, _, rfl, (sm.trans st2).put nsH, by rw [upd_same, List.map_append]; rfl, by rw [List.length_append, hdl]; rfl, fun j d hd => ?_⟩
        by_cases cj : j < ds.length
        · rw [List.getElem?_append_left cj] at hd
          obtain ⟨kj, e1, e2⟩ := hds j d hd
          exact ⟨kj, by rw [upd_ne (ne_of e1 eA (fun z => by cases z))]; exact st2 _ _ e1, e2⟩
        · rw [List.getElem?_append_right (by omega)] at hd
          have ez : j - ds.length = 0 := by
            rcases Nat.eq_zero_or_pos (j - ds.length) with k | k
            · exact k
            · rw [List.getElem?_eq_none (by simp only [List.length_cons, List.length_nil]; omega)] at hd
              cases hd
          rw [ez] at hd
          have ed : t = d := Option.some.inj hd
          have ej : j = i + 1 := by omega
          rw [← ed, ej]
          exact ⟨kt, by rw [upd_ne nAt.symm, upd_same], M.done D⟩
    · rintro σ H1 ⟨ds, y3, y4, y5, rfl, sm, eA, hdl, hds⟩
      rw [vi_len] at hdl
      have dsk : ∀ k, k ≤ ns.length → ∃ (d : Addr) (kvs : List (Key × V)), (ds.map V.ref)[k]? = some (.ref d) ∧ H1 d = some (.dK kvs) ∧ SumD ns k kvs := fun k hk => by
        have hl : k < ds.length := by omega
        have e := List.getElem?_eq_getElem hl
        obtain ⟨kvs, e1, e2⟩ := hds k _ e
        exact ⟨ds[k], kvs, by rw [List.getElem?_map, e]; rfl, e1, e2⟩
      -- left = total // 2; if left not in sums[-1]
      refine ⟨_, rfl, _, _, rfl, rfl, ⟨by decide, by decide⟩, ?_⟩
      obtain ⟨dn, kn, en, eK, Dn⟩ := dsk ns.length (Nat.le_refl _)
      have hlast : (ds.map V.ref)[(ds.map V.ref).length - 1]? = some (.ref dn) := by
        rw [List.length_map, hdl, Nat.add_sub_cancel]
        exact en
      refine ⟨_, rfl, _, rfl, _, rfl, sA, _, _, _, rfl, rfl, SqL.of eA, atI_neg hlast, dn, _, rfl, DGet.k (k := Sum.inl (ns.sum / 2)) eK, _, rfl, ?_⟩
      cases hb : (valV kn (Sum.inl (ns.sum / 2) : Key)).isSome with
      | false =>
        refine iteT (q H1 _ sm (.inl ⟨rfl, fun h => ?_⟩))
        have := (Dn.iff _).mpr h.2
        rw [hb] at this
        cases this
      | true =>
        refine iteF ⟨Nat.zero_le _, fun f nf => ?_⟩
        have hss := (Dn.iff _).mp hb
        have sf := Same.new (o := .lst []) nf
        -- for k in reversed(range(len(ring)))
        refine ⟨_, rfl, a, _, rfl, .inl ((sm.trans sf).seq hS), _, rfl, by decide, by decide, by rw [vi_len]; omega, by rw [vi_len]; omega, for_rangeC (lo := _) (c := -1) (n := _) (fun i σ G => ∃ (l : Int) (g : List Bool) (y8 y9 : Option V), σ = [some (.ref a), some (.int ns.sum), some (.ref sA), y3, y4, y5, some (.int l), some (.ref f), y8, y9] ∧ Same H1 G ∧ G f = some (.lst (g.reverse.map V.bl)) ∧ g.length = i ∧ i ≤ ns.length ∧ GR.SS ns (ns.length - i) l ∧ GR.psum g (ns.drop (ns.length - i)) + l = ns.sum / 2)
          ⟨ns.sum / 2, [], none, none, rfl, sf, upd_same, rfl, Nat.zero_le _, hss, by show 0 + ns.sum / 2 = ns.sum / 2; omega⟩ ?_ ?_⟩
        · rintro i σ G hi ⟨l, g, y8, y9, rfl, sg, ef, hgl, hin, hsl, hps⟩
          rw [vi_len] at hi
          have hi : i < ns.length := by omega
          obtain ⟨j, hj⟩ : ∃ j, j + 1 = ns.length - i := ⟨ns.length - 1 - i, by omega⟩
          have hjn : j < ns.length := by omega
          have ejn : ns.length - (i + 1) = j := by omega
          obtain ⟨dj, kj, ej, eKj, Dj⟩ := dsk j (by omega)
          rw [← hj] at hsl hps
          have hdrop : ns.drop j = ns.getD j 0 :: ns.drop (j + 1) := by
            rw [List.drop_eq_getElem_cons hjn, List.getD_eq_getElem?_getD, List.getElem?_eq_getElem hjn]
            rfl
          have ix : (0 : Int) + ((((vi ns).length : Int) - 0).toNat : Int) - 1 + (i : Int) * -1 = (j : Int) := by rw [vi_len]; omega
          have sgH := sm.trans sg
          refine ⟨_, rfl, _, rfl, _, rfl, sA, _, _, _, rfl, rfl, SqL.of (sg _ _ eA), atI_of (j := j) ix ej, dj, _, rfl, DGet.k (k := Sum.inl l) (sg _ _ eKj), ?_⟩
          refine ⟨_, rfl, _, rfl, ?_⟩
          cases hb2 : (valV kj (Sum.inl l : Key)).isSome with
          | true =>
            have hs2 := (Dj.iff _).mp hb2
            refine iteF ?_
            refine ⟨_, rfl, .inl ⟨rfl, _, SqL.of ef⟩, _, rfl, f, _, _, rfl, rfl, ef, line_lt (by rw [List.length_map, List.length_reverse]; omega), ?_⟩
            refine ⟨l, false :: g, _, _, rfl, sg.put nf, ?_, by rw [List.length_cons, hgl], hi, by rw [ejn]; exact hs2, ?_⟩
            · rw [upd_same, List.reverse_cons, List.map_append]
              rfl
            · rw [ejn, hdrop]
              show (if false = true then ns.getD j 0 else 0) + GR.psum g (ns.drop (j + 1)) + l = ns.sum / 2
              rw [if_neg (by decide)]
              omega
          | false =>
            have hs2 : ¬ GR.SS ns j l := fun z => by
              have := (Dj.iff _).mpr z
              rw [hb2] at this
              cases this
            have hs3 : GR.SS ns j (l - ns.getD j 0) := hsl.resolve_left hs2
            refine iteT ?_
            refine ⟨_, rfl, _, rfl, _, rfl, a, _, _, _, rfl, rfl, sgH.seq hS, atI_of (j := j) ix (vi_nth hjn), _, _, rfl, rfl, ?_⟩
            refine ⟨_, rfl, .inl ⟨rfl, _, SqL.of ef⟩, _, rfl, f, _, _, rfl, rfl, ef, line_lt (by rw [List.length_map, List.length_reverse]; omega), ?_⟩
            refine ⟨l - ns.getD j 0, true :: g, _, _, rfl, sg.put nf, ?_, by rw [List.length_cons, hgl], hi, by rw [ejn]; exact hs3, ?_⟩
            · rw [upd_same, List.reverse_cons, List.map_append]
              rfl
            · rw [ejn, hdrop]
              show (if true = true then ns.getD j 0 else 0) + GR.psum g (ns.drop (j + 1)) + (l - ns.getD j 0) = ns.sum / 2
              rw [if_pos rfl]
              omega
        · rintro σ G ⟨l, g, y8, y9, rfl, sg, ef, hgl, hin, hsl, hps⟩
          have en : (((vi ns).length : Int) - 0).toNat = ns.length := by rw [vi_len]; omega
          rw [en] at hgl hsl hps
          rw [Nat.sub_self] at hsl hps
          have hl0 : l = 0 := hsl
          rw [List.drop_zero, hl0] at hps
          refine ⟨_, rfl, f, _, rfl, SqL.of ef, fun p np => ?_⟩
          have sgH := sm.trans sg
          refine q _ _ (sgH.put (sgH.free np)) (.inr ⟨p, g, rfl, sgH.free np, ?_, hgl, by omega⟩)
          rw [upd_same, ← List.map_reverse, List.reverse_reverse]
/-! ### ahead -/
theorem cut_last (xs : List V) : cutV xs none (some (-1)) = xs.take (xs.length - 1) := by
  unfold cutV
  have e : HT.sIx xs.length xs.length (some (-1)) = xs.length - 1 := by
    show (if (-1 : Int) < 0 then (-1 + (xs.length : Int)).toNat else min (-1 : Int).toNat xs.length) = _
    rw [if_pos (by decide)]
    omega
  rw [e, HT.sIx_none, List.drop_zero, Nat.sub_zero]
def rowR (g : List Bool) (ns : List Int) (n : Nat) : List Int := (List.range n).map (GR.rw1 g ns)
theorem rowR_len (g : List Bool) (ns : List Int) (n : Nat) : (rowR g ns n).length = n := by
  unfold rowR
  rw [List.length_map, List.length_range]
theorem rowR_succ (g : List Bool) (ns : List Int) (n : Nat) : rowR g ns (n + 1) = rowR g ns n ++ [GR.rw1 g ns n] := by
  unfold rowR
  rw [List.range_succ, List.map_append]
  rfl
theorem rowR_get {g : List Bool} {ns : List Int} {n k : Nat} (h : k < n) : (rowR g ns n).getD k 0 = GR.rw1 g ns k := by
  unfold rowR
  rw [List.getD_eq_getElem?_getD, List.getElem?_map, List.getElem?_range h]
  rfl
theorem vi_snoc (l : List Int) (x : Int) : vi l ++ [V.int x] = vi (l ++ [x]) := by
  show List.map V.int l ++ [V.int x] = List.map V.int (l ++ [x])
  rw [List.map_append]
  rfl
/-- a row of numbers with a nought of which ns is the gap ring -/
structure Ahead (ns xs : List Int) : Prop where
  len : xs.length = ns.length
  gaps : GR.gp xs = ns
  low : ∀ x ∈ xs, 0 ≤ x
  nought : (0 : Int) ∈ xs
def sp_ahead (K : PySem.W.Frag) : Sp := fun vs H Q _ => ∃ (a : Addr) (ns : List Int), vs = [.ref a] ∧ SqL K H a (vi ns) ∧ GR.Ring ns ∧
  ∀ H' v, Same H H' → ((v = .non ∧ ¬ GR.Half ns) ∨ ∃ (p : Addr) (xs : List Int), v = .ref p ∧ H p = none ∧ H' p = some (.lst (vi xs)) ∧ Ahead ns xs ∧ GR.Half ns) → Q v H'
theorem ok_ahead (T : Txt K mg) : FnOk P w K mg base CX0 3 T.f_ahead T.d_ahead ["ring"] (sp_ahead K) := by
  refine T.F_ahead.ok sc_ahead (fun vs H Q E h => ?_) (fun cdv A outer s H vs Q E hr h => ?_)
  · obtain ⟨a, ns, rfl, _⟩ := h
    rfl
  · obtain ⟨a, ns, rfl, hS, R, q⟩ := h
    have R3 := R.lo
    have R16 := R.hi
    refine ⟨_, (pss_cons (ps_set (i := 1) sc_ahead.nd rfl (.inl rfl) (pe_call (ok_parting T) (hr.mono (by decide)) (by rfl) T.g_parting T.F_parting.kp T.b_parting .nil pass0 (pa_cons (pv 0) pa_nil)))
      (pss_cons (ps_if (pt_cmpR op_isN (pv 1) pe_non (nomark _)) (pss_one (ps_ret pe_non)) pss_nil)
      (pss_cons (ps_set (i := 2) sc_ahead.nd rfl (.inl rfl) (pe_lst (pa_cons pe_int pa_nil)))
      (pss_cons (ps_for PassesOwn.never rfl (pi_zip (by rfl) T.z_zip (pa_cons (pe_slice sl_list (pv 0) po_none (po_some (pe_un un_neg pe_int))) (pa_cons (pe_slice sl_list (pv 1) po_none (po_some (pe_un un_neg pe_int))) pa_nil))) (pg_tup rfl (pgs_cons (pg_name (i := 3) sc_ahead.nd rfl (.inl rfl)) (pgs_cons (pg_name (i := 4) sc_ahead.nd rfl (.inl rfl)) pgs_nil))) (pss_one (ps_if (pt_val (pv 4)) (pss_one (ps_expr (pe_bm PySem.F.plainAttrs_list PySem.F.slot_list_append PySem.F.type_list_append mt_append (pv 2) (pa_cons (pe_op op_add (pe_ix (ixL K rfl) (pv 2) (pe_un un_neg pe_int) (fun _ _ => rfl)) (pv 3)) pa_nil)))) (pss_one (ps_expr (pe_bm PySem.F.plainAttrs_list PySem.F.slot_list_append PySem.F.type_list_append mt_append (pv 2) (pa_cons (pe_op op_sub (pe_ix (ixL K rfl) (pv 2) (pe_un un_neg pe_int) (fun _ _ => rfl)) (pv 3)) pa_nil)))))))
      (pss_cons (ps_set (i := 5) sc_ahead.nd rfl (.inr rfl) (pe_callB (cr_min rfl) (by rfl) T.z_min bt_min (pa_cons (pv 2) pa_nil)))
      (pss_one (ps_ret (pe_lc (own := [("number", 3)]) (g := gName 3) (tt := tYes) rfl sc_ahead.nd (pi_list (pv 2)) (blkOk_by (own := [("number", 3)]) (N := N_ahead) (sc := defScope s_ahead) (by decide +kernel)) (fun _ _ _ _ _ => (pg_name (i := 3) sc_ahead.nd rfl (Or.inl rfl))) (fun _ _ _ _ _ => pts_nil) (fun _ _ _ _ _ => (pe_op op_sub (pv 3) (pv 5))))))))))), ?_⟩
    refine ⟨_, rfl, a, ns, rfl, hS, R, fun H1 v s1 hv => ?_⟩
    rcases hv with ⟨rfl, hno⟩ | ⟨p, g, rfl, np, ep, hgl, hgs⟩
    · exact ⟨_, rfl, rfl, _, rfl, ifY rfl (q H1 _ s1 (.inl ⟨rfl, hno⟩))⟩
    refine ⟨_, rfl, rfl, _, rfl, ifN (fun z => by cases z) ?_⟩
    -- row = [0]
    refine ⟨by show 1 ≤ sizeLine; decide, fun r nr => ?_⟩
    have sr := Same.new (o := .lst [.int 0]) nr
    -- zip(ring[:-1], sides[:-1])
    refine ⟨_, rfl, _, rfl, _, rfl, a, _, rfl, (s1.trans sr).seq hS, fun z1 nz1 => ?_⟩
    have sz1 := Same.new (o := .lst (cutV (vi ns) none (some (-1)))) nz1
    refine ⟨_, rfl, _, rfl, _, rfl, p, _, rfl, SqL.of (sz1 _ _ (sr _ _ ep)), fun z2 nz2 => ?_⟩
    have sz2 := Same.new (o := .lst (cutV (g.map V.bl) none (some (-1)))) nz2
    have c1 : cutV (vi ns) none (some (-1)) = (vi ns).take (ns.length - 1) := by rw [cut_last, vi_len]
    have c2 : cutV (g.map V.bl) none (some (-1)) = (g.map V.bl).take (ns.length - 1) := by rw [cut_last, List.length_map, hgl]
    have e1 := sz2 _ _ (upd_same : upd (upd H1 r (.lst [.int 0])) z1 (.lst (cutV (vi ns) none (some (-1)))) z1 = _)
    have e2 : (upd (upd (upd H1 r (.lst [.int 0])) z1 (.lst (cutV (vi ns) none (some (-1))))) z2 (.lst (cutV (g.map V.bl) none (some (-1))))) z2 = _ := upd_same
    have er := sz2 _ _ (sz1 _ _ (upd_same : upd H1 r (.lst [.int 0]) r = _))
    have s13 : Same H1 _ := (sr.trans sz1).trans sz2
    have nrH := s1.free nr
    have l1 : ((vi ns).take (ns.length - 1)).length = ns.length - 1 := by rw [List.length_take, vi_len]; omega
    have l2 : ((g.map V.bl).take (ns.length - 1)).length = ns.length - 1 := by rw [List.length_take, List.length_map, hgl]; omega
    have n1r : z1 ≠ r := (new_ne nz1).symm
    have n2r : z2 ≠ r := (ne_of_none (sz1 _ _ (upd_same : upd H1 r (.lst [.int 0]) r = _)) nz2).symm
    refine ⟨z1, z2, (vi ns).take (ns.length - 1), (g.map V.bl).take (ns.length - 1), rfl, SqL.of (by rw [e1, c1]), SqL.of (by rw [e2, c2]), RZ.for_zipL (by rw [l1, l2]) (fun i σ G => ∃ y3 y4, σ = [some (.ref a), some (.ref p), some (.ref r), y3, y4, none] ∧ i ≤ ns.length - 1 ∧ Same H G ∧ G z1 = some (.lst ((vi ns).take (ns.length - 1))) ∧ G z2 = some (.lst ((g.map V.bl).take (ns.length - 1))) ∧ G r = some (.lst (vi (rowR g ns (i + 1)))))
      ⟨none, none, rfl, Nat.zero_le _, s1.trans s13, by rw [e1, c1], by rw [e2, c2], er⟩ (fun i σ G ⟨_, _, _, _, _, h1, h2, _⟩ => ⟨SqL.of h1, SqL.of h2⟩) ?_ ?_⟩
    · rintro i x y T σ G hx hy ⟨y3, y4, rfl, hin, sg, g1, g2, gr⟩ nT
      have hil : i < ns.length - 1 := by
        have := (List.getElem?_eq_some_iff.mp hx).1
        omega
      have ex : x = .int (ns.getD i 0) := by
        rw [List.getElem?_take_of_lt hil] at hx
        exact Option.some.inj (hx.symm.trans (vi_nth (by omega)))
      have ey : y = .bl (g.getD i false) := by
        rw [List.getElem?_take_of_lt hil, List.getElem?_map] at hy
        rw [List.getD_eq_getElem?_getD, List.getElem?_eq_getElem (show i < g.length by omega)]
        rw [List.getElem?_eq_getElem (show i < g.length by omega)] at hy
        exact (Option.some.inj hy).symm
      subst ex ey
      have sT := Same.new (o := .tup [.int (ns.getD i 0), .bl (g.getD i false)]) nT
      have grT := sT _ _ gr
      have hlast : (vi (rowR g ns (i + 1)))[(vi (rowR g ns (i + 1))).length - 1]? = some (.int (GR.rw1 g ns i)) := by
        rw [vi_len, rowR_len, Nat.add_sub_cancel, vi_nth (by rw [rowR_len]; omega), rowR_get (by omega)]
      have fin : ∀ z : Int, z = GR.rw1 g ns (i + 1) → ∀ y3 y4, ∃ y3' y4', ([some (.ref a), some (.ref p), some (.ref r), y3, y4, none] : L2.St) = [some (.ref a), some (.ref p), some (.ref r), y3', y4', none] ∧ i + 1 ≤ ns.length - 1 ∧
          Same H (upd (upd G T (.tup [.int (ns.getD i 0), .bl (g.getD i false)])) r (.lst (vi (rowR g ns (i + 1)) ++ [.int z]))) ∧ (upd (upd G T (.tup [.int (ns.getD i 0), .bl (g.getD i false)])) r (.lst (vi (rowR g ns (i + 1)) ++ [.int z]))) z1 = some (.lst ((vi ns).take (ns.length - 1))) ∧
          (upd (upd G T (.tup [.int (ns.getD i 0), .bl (g.getD i false)])) r (.lst (vi (rowR g ns (i + 1)) ++ [.int z]))) z2 = some (.lst ((g.map V.bl).take (ns.length - 1))) ∧ (upd (upd G T (.tup [.int (ns.getD i 0), .bl (g.getD i false)])) r (.lst (vi (rowR g ns (i + 1)) ++ [.int z]))) r = some (.lst (vi (rowR g ns (i + 1 + 1)))) := fun z ez y3 y4 =>
        ⟨y3, y4, rfl, hil, (sg.trans sT).put nrH, by rw [upd_ne n1r]; exact sT _ _ g1, by rw [upd_ne n2r]; exact sT _ _ g2, by rw [upd_same, vi_snoc, ez, ← rowR_succ]⟩
      refine ⟨T, _, rfl, SqT.of upd_same, rfl, _, _, rfl, _, _, rfl, rfl, ?_⟩
      refine ⟨_, rfl, _, rfl, ?_⟩
      have hl1 : (vi (rowR g ns (i + 1))).length < sizeLine := line_lt (by rw [vi_len, rowR_len]; omega)
      cases hg : g.getD i false with
      | true =>
        rw [hg] at fin grT
        refine iteT ?_
        refine ⟨_, rfl, .inl ⟨rfl, _, SqL.of grT⟩, _, rfl, _, rfl, r, _, _, _, rfl, rfl, SqL.of grT, atI_neg hlast, _, rfl, _, _, rfl, rfl, r, _, _, rfl, rfl, grT, hl1, ?_⟩
        refine fin _ ?_ _ _
        show GR.rw1 g ns i + ns.getD i 0 = GR.rw1 g ns i + (if g.getD i false then ns.getD i 0 else - ns.getD i 0)
        rw [hg, if_pos rfl]
      | false =>
        rw [hg] at fin grT
        refine iteF ?_
        refine ⟨_, rfl, .inl ⟨rfl, _, SqL.of grT⟩, _, rfl, _, rfl, r, _, _, _, rfl, rfl, SqL.of grT, atI_neg hlast, _, rfl, _, _, rfl, rfl, r, _, _, rfl, rfl, grT, hl1, ?_⟩
        refine fin _ ?_ _ _
        show GR.rw1 g ns i - ns.getD i 0 = GR.rw1 g ns i + (if g.getD i false then ns.getD i 0 else - ns.getD i 0)
        rw [hg, if_neg (by decide)]
        omega
    · rintro σ G ⟨y3, y4, rfl, hin, sg, g1, g2, gr⟩
      rw [l1, show ns.length - 1 + 1 = ns.length by omega] at gr
      -- least = min(row)
      refine ⟨_, rfl, r, _, rfl, SqL.of gr, by rw [rowR_len]; omega, fun m hm hle => ?_⟩
      refine ⟨_, rfl, r, rfl, ⟨_, SqL.of gr⟩, fun D nD => ?_⟩
      refine lc_intsL (a := r) (xs := vi (rowR g ns ns.length)) (fun i z => z = (GR.rowL g ns m).getD i 0) (SqL.of gr) nD (by rw [vi_len, rowR_len]; omega) (fun i x H' hi sm Q' hQ => ?_) (fun H2 zs hl hR sm e => ?_)
      · obtain ⟨z, hz, rfl⟩ := vi_at hi
        have hil : i < ns.length := by
          have := (List.getElem?_eq_some_iff.mp hz).1
          rw [rowR_len] at this
          exact this
        have ez : z = GR.rw1 g ns i := by
          rw [getD_some (by rw [rowR_len]; exact hil), rowR_get hil] at hz
          exact (Option.some.inj hz).symm
        refine ⟨_, rfl, _, rfl, _, _, rfl, rfl, hQ _ ?_⟩
        rw [GR.rowL_get hil, ez]
      · rw [vi_len, rowR_len] at hl hR
        have ezs : zs = GR.rowL g ns m := GR.list_ext' (by rw [hl, GR.rowL_length]) fun k hk => hR k (by omega)
        rw [ezs] at e
        refine q H2 _ (sg.trans sm) (.inr ⟨D, _, rfl, sg.free nD, e, ⟨GR.rowL_length _ _ _, GR.rowL_gp m hgl hgs (fun x hx => (R.bd x hx).1), fun x hx => ?_, ?_⟩, GR.half_of hgl hgs⟩)
        · obtain ⟨k, hk, ek⟩ := GR.mem_getD hx
          rw [GR.rowL_length] at hk
          rw [GR.rowL_get hk] at ek
          have hmem : GR.rw1 g ns k ∈ rowR g ns ns.length := by
            rw [← rowR_get hk]
            exact GR.getD_mem (by rw [rowR_len]; exact hk)
          have := hle _ hmem
          omega
        · obtain ⟨k, hk, ek⟩ := GR.mem_getD hm
          rw [rowR_len] at hk
          rw [rowR_get hk] at ek
          have h0 : (GR.rowL g ns m).getD k 0 = 0 := by
            rw [GR.rowL_get hk, ek]
            omega
          rw [← h0]
          exact GR.getD_mem (by rw [GR.rowL_length]; exact hk)
/-! ### _law_cell_at -/
def cell (ns : List Int) (k : Int) : Int := ns.getD k.toNat 0
def sp_l_cell_at (K : PySem.W.Frag) : Sp := fun vs H Q _ => ∃ (a : Addr) (ns : List Int) (k : Int), vs = [.ref a, .int k] ∧ SqL K H a (vi ns) ∧ 0 ≤ k ∧ Q (.int (cell ns k)) H
theorem ok_l_cell_at (T : Txt K mg) : FnOk P w K mg base CX0 1 T.f_l_cell_at T.d_l_cell_at ["script", "k"] (sp_l_cell_at K) := by
  refine T.F_l_cell_at.ok sc_l_cell_at (fun vs H Q E h => ?_) (fun cdv A outer s H vs Q E hr h => ?_)
  · obtain ⟨a, ns, k, rfl, _⟩ := h
    rfl
  · obtain ⟨a, ns, k, rfl, hS, hk, q⟩ := h
    refine ⟨_, pss_cons (ps_if (pt_cmpR op_lt (pv 1) (pe_callB call_len_seq (by rfl) T.z_len bt_len (pa_cons (pv 0) pa_nil)) (nomark _)) (pss_one (ps_ret (pe_ix ix_list (pv 0) (pv 1) (fun _ _ => rfl)))) pss_nil)
      (pss_one (ps_ret pe_int)), ?_⟩
    refine ⟨_, rfl, _, rfl, a, _, rfl, .inl hS, _, _, rfl, rfl, _, rfl, if2 (fun c => ?_) (fun c => ?_)⟩
    · rw [vi_len] at c
      have h1 : k.toNat < ns.length := by omega
      exact ⟨_, rfl, _, rfl, a, _, _, _, rfl, rfl, hS, atI_of (j := k.toNat) (by omega) (vi_nth h1), q⟩
    · rw [vi_len] at c
      have e : cell ns k = 0 := by
        unfold cell
        rw [List.getD_eq_getElem?_getD, List.getElem?_eq_none (by omega)]
        rfl
      rw [e] at q
      exact q
/-! ### _law_draw -/
def sp_l_draw : Sp := fun vs H Q _ => ∃ (c k b : Int), vs = [.int c, .int k, .int b] ∧ 0 < b ∧ ∀ x : Int, 0 ≤ x → x < b → Q (.int x) H
theorem ok_l_draw (T : Txt K mg) : FnOk P w K mg base CX0 1 T.f_l_draw T.d_l_draw ["cell", "k", "bound"] sp_l_draw := by
  refine T.F_l_draw.ok sc_l_draw (fun vs H Q E h => ?_) (fun cdv A outer s H vs Q E hr h => ?_)
  · obtain ⟨c, k, b, rfl, _⟩ := h
    rfl
  · obtain ⟨c, k, b, rfl, hb, q⟩ := h
    refine ⟨_, pss_cons (ps_set (i := 3) sc_l_draw.nd rfl (.inl rfl) (pe_op op_mod (pe_op op_mul (pe_op op_add (pe_op op_add (pe_op op_mod (pv 0) pe_int) (pe_op op_mul pe_int (pv 1))) pe_int) pe_int) pe_int))
      (pss_cons (ps_set (i := 3) sc_l_draw.nd rfl (.inl rfl) (pe_op op_mod (pe_op op_mul (pv 3) (pv 3)) pe_int))
      (pss_cons (ps_set (i := 3) sc_l_draw.nd rfl (.inl rfl) (pe_op op_mod (pe_op op_mul (pe_op op_add (pv 3) (pe_op op_mul pe_int (pe_op op_add (pv 1) pe_int))) pe_int) pe_int))
      (pss_one (ps_ret (pe_op op_mod (pe_op op_fdiv (pv 3) pe_int) (pv 2)))))), ?_⟩
    refine ⟨_, rfl, _, _, rfl, rfl, (by show (0 : Int) < 2147483647; decide), _, rfl, _, _, rfl, rfl, .inl ⟨by decide, by decide⟩, _, _, rfl, rfl, _, _, rfl, rfl, _, _, rfl, rfl, .inr ⟨by decide, by decide⟩, _, _, rfl, rfl, (by show (0 : Int) < 2147483647; decide), ?_⟩
    generalize hs1 : ((c % 2147483647 + 977 * k + 1) * 48271 % 2147483647 : Int) = s1
    have a1 : 0 ≤ s1 := by rw [← hs1]; exact Int.emod_nonneg _ (by decide)
    have a2 : s1 < 2147483647 := by rw [← hs1]; exact Int.emod_lt_of_pos _ (by decide)
    refine ⟨_, rfl, _, rfl, _, _, rfl, rfl, .inl ⟨by omega, by omega⟩, _, _, rfl, rfl, (by show (0 : Int) < 2147483629; decide), ?_⟩
    refine ⟨_, rfl, _, rfl, _, _, rfl, rfl, _, _, rfl, rfl, .inl ⟨by decide, by decide⟩, _, _, rfl, rfl, _, _, rfl, rfl, .inr ⟨by decide, by decide⟩, _, _, rfl, rfl, (by show (0 : Int) < 2147483647; decide), ?_⟩
    refine ⟨_, rfl, _, _, rfl, rfl, ⟨by decide, by decide⟩, _, rfl, _, _, rfl, rfl, hb, ?_⟩
    exact q _ (Int.emod_nonneg _ (by omega)) (Int.emod_lt_of_pos _ hb)
/-! ### _law_whole -/
def sp_l_whole : Sp := fun vs H Q _ => ∃ i : Int, vs = [.int i] ∧ Q (.bl true) H
theorem ok_l_whole (T : Txt K mg) : FnOk P w K mg base CX0 1 T.f_l_whole T.d_l_whole ["found"] sp_l_whole := by
  refine T.F_l_whole.ok sc_l_whole (fun vs H Q E h => ?_) (fun cdv A outer s H vs Q E hr h => ?_)
  · obtain ⟨i, rfl, _⟩ := h
    rfl
  · obtain ⟨i, rfl, q⟩ := h
    refine ⟨_, pss_one (ps_ret (pe_and (pe_callB call_isi (by rfl) T.z_isinstance bt_isinstance (pa_cons (pv 0) (pa_cons (pe_cls T.z_int bt_int) pa_nil))) (pe_one (pe_not (pe_callB call_isi (by rfl) T.z_isinstance bt_isinstance (pa_cons (pv 0) (pa_cons (pe_cls T.z_bool bt_bool) pa_nil))))))), ?_⟩
    refine ⟨_, rfl, _, _, _, _, true, rfl, .ty "int", .base (.int i), kit_ty (by decide +kernel), _, rfl, iteT ?_⟩
    exact ⟨_, rfl, _, _, _, _, false, rfl, .ty "bool", .base (.int i), kit_ty (by decide +kernel), _, rfl, q⟩
/-! ### _law_ring_by: some ring -/
theorem ring_of {zs : List Int} {n : Nat} (hl : zs.length = n) (h3 : 3 ≤ n) (h16 : n ≤ 16) (h : ∀ i, i < n → 0 ≤ zs.getD i 0 ∧ zs.getD i 0 ≤ 1000) : GR.Ring zs :=
  ⟨by omega, by omega, fun x hx => by
    obtain ⟨k, hk, e⟩ := GR.mem_getD hx
    have q := h k (by omega)
    rw [e] at q
    exact q⟩
theorem cut_to (ns : List Int) (n : Nat) : cutV (vi ns) none (some (n : Int)) = vi (ns.take n) := by
  unfold cutV
  rw [show HT.sIx (vi ns).length (vi ns).length (some (n : Int)) = min n (vi ns).length from HT.sIx_nat _ _ n, HT.sIx_none]
  rw [List.drop_zero, Nat.sub_zero, vi_len]
  show (List.map V.int ns).take (min n ns.length) = List.map V.int (ns.take n)
  rw [← List.map_take]
  congr 1
  rw [List.take_eq_take_iff]
  omega
theorem cut_from (ns : List Int) (n : Nat) : cutV (vi ns) (some (n : Int)) none = vi (ns.drop n) := by
  unfold cutV
  rw [show HT.sIx (vi ns).length 0 (some (n : Int)) = min n (vi ns).length from HT.sIx_nat _ _ n, HT.sIx_none, vi_len]
  show ((List.map V.int ns).drop (min n ns.length)).take (ns.length - min n ns.length) = List.map V.int (ns.drop n)
  rw [← List.map_drop, ← List.map_take]
  congr 1
  by_cases c : n ≤ ns.length
  · rw [Nat.min_eq_left c]
    exact List.take_of_length_le (by rw [List.length_drop]; omega)
  · rw [List.drop_eq_nil_of_le (by omega), List.drop_eq_nil_of_le (by omega)]
    exact List.take_nil
def sp_l_ring_by (K : PySem.W.Frag) : Sp := fun vs H Q _ => ∃ (a : Addr) (ns : List Int) (f : Int), vs = [.ref a, .int f] ∧ SqL K H a (vi ns) ∧ 0 ≤ f ∧
  ∀ H' p rs, Same H H' → H p = none → H' p = some (.lst (vi rs)) → GR.Ring rs → Q (.ref p) H'
theorem ok_l_ring_by (T : Txt K mg) : FnOk P w K mg base CX0 2 T.f_l_ring_by T.d_l_ring_by ["script", "first"] (sp_l_ring_by K) := by
  refine T.F_l_ring_by.ok sc_l_ring_by (fun vs H Q E h => ?_) (fun cdv A outer s H vs Q E hr h => ?_)
  · obtain ⟨a, ns, f, rfl, _⟩ := h
    rfl
  · obtain ⟨a, ns, f, rfl, hS, hf, q⟩ := h
    have hrc : ∀ {X : Cx}, X.A = A.deeper (envOfC "_law_ring_by" (defScope s_l_ring_by) s.heap.objs.size T.f_l_ring_by cdv) → Room 1 X.A := fun e => e ▸ hr
    refine ⟨_, pss_cons (ps_set (i := 2) sc_l_ring_by.nd rfl (.inl rfl) (pe_call (ok_l_cell_at T) hr (by rfl) T.g_l_cell_at T.F_l_cell_at.kp T.b_l_cell_at .nil pass0 (pa_cons (pv 0) (pa_cons (pv 1) pa_nil))))
      (pss_cons (ps_set (i := 3) sc_l_ring_by.nd rfl (.inl rfl) (pe_op op_add pe_int (pe_op op_mod (pv 2) pe_int)))
      (pss_cons (ps_if (pt_cmpR op_eq (pe_op op_mod (pe_op op_fdiv (pv 2) pe_int) pe_int) pe_int (nomark _))
        (pss_one (ps_ret (pe_lc (own := [("k", 6)]) (g := gName 6) (tt := tYes) rfl sc_l_ring_by.nd (pi_range1 (by rfl) T.z_range (pa_cons (pe_op op_add pe_int (pe_op op_mod (pv 2) pe_int)) pa_nil))
          (blkOk_by (own := [("k", 6)]) (N := N_l_ring_by) (sc := defScope s_l_ring_by) (by decide +kernel)) (fun _ _ _ _ _ => pg_name (i := 6) sc_l_ring_by.nd rfl (Or.inl rfl)) (fun _ _ _ _ _ => pts_nil)
          (fun _ _ _ _ _ => pe_call (ok_l_draw T) hr (by rfl) T.g_l_draw T.F_l_draw.kp T.b_l_draw .nil pass0 (pa_cons (pe_call (ok_l_cell_at T) hr (by rfl) T.g_l_cell_at T.F_l_cell_at.kp T.b_l_cell_at .nil pass0 (pa_cons (pv 0) (pa_cons (pe_op op_add (pv 1) pe_int) pa_nil))) (pa_cons (pv 6) (pa_cons pe_int pa_nil))))))) pss_nil)
      (pss_cons (ps_if (pt_cmpR op_eq (pe_op op_mod (pe_op op_fdiv (pv 2) pe_int) pe_int) pe_int (nomark _))
        (pss_one (ps_ret (pe_lc (own := [("k", 6)]) (g := gName 6) (tt := tYes) rfl sc_l_ring_by.nd (pi_range1 (by rfl) T.z_range (pa_cons (pe_op op_add pe_int (pe_op op_mod (pv 2) pe_int)) pa_nil))
          (blkOk_by (own := [("k", 6)]) (N := N_l_ring_by) (sc := defScope s_l_ring_by) (by decide +kernel)) (fun _ _ _ _ _ => pg_name (i := 6) sc_l_ring_by.nd rfl (Or.inl rfl)) (fun _ _ _ _ _ => pts_nil)
          (fun _ _ _ _ _ => pe_op op_mod (pe_call (ok_l_cell_at T) hr (by rfl) T.g_l_cell_at T.F_l_cell_at.kp T.b_l_cell_at .nil pass0 (pa_cons (pv 0) (pa_cons (pe_op op_add (pe_op op_add (pv 1) pe_int) (pv 6)) pa_nil))) pe_int)))) pss_nil)
      (pss_cons (ps_set (i := 4) sc_l_ring_by.nd rfl (.inr rfl) (pe_ix ix_list (pe_lst (pa_cons pe_int (pa_cons pe_int (pa_cons pe_int (pa_cons pe_int (pa_cons pe_int pa_nil)))))) (pe_op op_mod (pe_op op_fdiv (pv 2) pe_int) pe_int) (fun _ _ => rfl)))
      (pss_cons (ps_setLc (i := 5) (own := [("k", 6)]) (g := gName 6) (tt := tYes) rfl sc_l_ring_by.nd rfl rfl (sw_true rfl rfl rfl (by decide +kernel)) (pi_range1 (by rfl) T.z_range (pa_cons (pv 3) pa_nil))
          (blkOk_by (own := [("k", 6)]) (N := N_l_ring_by) (sc := defScope s_l_ring_by) (by decide +kernel)) (fun _ _ _ _ _ => pg_name (i := 6) sc_l_ring_by.nd rfl (Or.inl rfl)) (fun _ _ _ _ _ => pts_nil)
          (fun _ _ _ _ _ => pe_call (ok_l_draw T) hr (by rfl) T.g_l_draw T.F_l_draw.kp T.b_l_draw .nil pass0 (pa_cons (pe_call (ok_l_cell_at T) hr (by rfl) T.g_l_cell_at T.F_l_cell_at.kp T.b_l_cell_at .nil pass0 (pa_cons (pv 0) (pa_cons (pe_op op_add (pv 1) pe_int) pa_nil))) (pa_cons (pv 6) (pa_cons (pv 4) pa_nil)))))
      (pss_cons (ps_if (pt_cmpR op_eq (pv 4) pe_int (nomark _))
        (pss_one (ps_setLc (i := 5) (own := [("number", 7)]) (g := gName 7) (tt := tYes) rfl sc_l_ring_by.nd rfl rfl (sw_true rfl rfl rfl (by decide +kernel)) (pi_list (pv 5))
          (blkOk_by (own := [("number", 7)]) (N := N_l_ring_by) (sc := defScope s_l_ring_by) (by decide +kernel)) (fun _ _ _ _ _ => pg_name (i := 7) sc_l_ring_by.nd rfl (Or.inl rfl)) (fun _ _ _ _ _ => pts_nil)
          (fun _ _ _ _ _ => pe_op op_mul (pv 7) (pe_op op_mod (pv 7) pe_int)))) pss_nil)
      (pss_cons (ps_if (pt_cmpR op_eq (pe_op op_mod (pe_op op_fdiv (pv 2) pe_int) pe_int) pe_int (nomark _))
        (pss_one (ps_ret (pe_op op_cat (pe_slice sl_list (pv 5) po_none (po_some pe_int)) (pe_slice sl_list (pv 5) po_none (po_some pe_int))))) pss_nil)
      (pss_one (ps_ret (pv 5)))))))))), ?_⟩
    refine ⟨_, rfl, _, rfl, a, ns, f, rfl, hS, hf, ?_⟩
    generalize cell ns f = c
    refine ⟨_, rfl, _, _, rfl, rfl, (by show (0 : Int) < 14; decide), _, _, rfl, rfl, ?_⟩
    have z14 := Int.emod_nonneg c (b := 14) (by decide)
    have y14 := Int.emod_lt_of_pos c (b := 14) (by decide)
    have z3 := Int.emod_nonneg c (b := 3) (by decide)
    have y3 := Int.emod_lt_of_pos c (b := 3) (by decide)
    have z5 := Int.emod_nonneg c (b := 5) (by decide)
    have y5 := Int.emod_lt_of_pos c (b := 5) (by decide)
    refine ⟨_, rfl, _, _, rfl, rfl, ⟨by decide, by decide⟩, _, _, rfl, rfl, (by show (0 : Int) < 4; decide), rfl, _, rfl, if2 (fun _ => ?_) (fun _ => ?_)⟩
    · refine ⟨_, rfl, _, _, rfl, rfl, (by show (0 : Int) < 3; decide), _, _, rfl, rfl, _, rfl, by omega, by omega, fun D nD => ?_⟩
      refine lc_ints (fun i z => 0 ≤ z ∧ z ≤ 1000) nD (by omega) (fun i H' hi sm Q' hQ => ?_) (fun H' zs hl hR sm e => ?_)
      · refine ⟨_, rfl, _, rfl, _, _, rfl, rfl, a, ns, f + 1, rfl, sm.seq hS, by omega, _, rfl, _, _, _, rfl, by decide, fun x h0 h1 => hQ x ⟨h0, by omega⟩⟩
      · exact q H' D zs sm nD e (ring_of hl (by omega) (by omega) hR)
    refine ⟨_, rfl, _, _, rfl, rfl, ⟨by decide, by decide⟩, _, _, rfl, rfl, (by show (0 : Int) < 4; decide), rfl, _, rfl, if2 (fun _ => ?_) (fun _ => ?_)⟩
    · refine ⟨_, rfl, _, _, rfl, rfl, (by show (0 : Int) < 5; decide), _, _, rfl, rfl, _, rfl, by omega, by omega, fun D nD => ?_⟩
      refine lc_ints (fun i z => 0 ≤ z ∧ z ≤ 1000) nD (by omega) (fun i H' hi sm Q' hQ => ?_) (fun H' zs hl hR sm e => ?_)
      · refine ⟨_, rfl, _, rfl, _, _, rfl, rfl, _, rfl, _, _, rfl, rfl, a, ns, f + 10 + (0 + i), rfl, sm.seq hS, by omega, _, _, rfl, rfl, (by show (0 : Int) < 1001; decide), hQ _ ?_⟩
        have z1 := Int.emod_nonneg (cell ns (f + 10 + (0 + i))) (b := 1001) (by decide)
        have y1 := Int.emod_lt_of_pos (cell ns (f + 10 + (0 + i))) (b := 1001) (by decide)
        exact ⟨z1, by omega⟩
      · exact q H' D zs sm nD e (ring_of hl (by omega) (by omega) hR)
    refine ⟨by decide, fun B nB => ?_⟩
    have zb := Int.emod_nonneg (c / 14) (b := 5) (by decide)
    have yb := Int.emod_lt_of_pos (c / 14) (b := 5) (by decide)
    refine ⟨_, rfl, _, _, rfl, rfl, ⟨by decide, by decide⟩, _, _, rfl, rfl, (by show (0 : Int) < 5; decide), ?_⟩
    obtain ⟨bd, hb, b0, b1⟩ : ∃ bd : Int, ([.int 2, .int 3, .int 10, .int 41, .int 7] : List V)[(c / 14 % 5).toNat]? = some (.int bd) ∧ 0 < bd ∧ bd ≤ 41 := by
      have hc : c / 14 % 5 = 0 ∨ c / 14 % 5 = 1 ∨ c / 14 % 5 = 2 ∨ c / 14 % 5 = 3 ∨ c / 14 % 5 = 4 := by omega
      rcases hc with e | e | e | e | e <;> rw [e]
      · exact ⟨2, rfl, by decide, by decide⟩
      · exact ⟨3, rfl, by decide, by decide⟩
      · exact ⟨10, rfl, by decide, by decide⟩
      · exact ⟨41, rfl, by decide, by decide⟩
      · exact ⟨7, rfl, by decide, by decide⟩
    refine ⟨B, _, _, _, rfl, rfl, SqL.of upd_same, atI_of (j := (c / 14 % 5).toNat) (by omega) hb, ?_⟩
    have sB : Same H (upd H B (.lst [.int 2, .int 3, .int 10, .int 41, .int 7])) := Same.new nB
    refine ⟨_, rfl, _, rfl, by omega, by omega, fun D nD => ?_⟩
    have nD0 := sB.free nD
    refine lc_ints (fun i z => 0 ≤ z ∧ z ≤ 40) nD (by omega) (fun i H' hi sm Q' hQ => ?_) (fun H1 zs hl hR sm eD => ?_)
    · exact ⟨_, rfl, _, rfl, _, _, rfl, rfl, a, ns, f + 1, rfl, sm.seq (sB.seq hS), by omega, _, rfl, _, rfl, _, _, _, rfl, b0, fun x h0 h1 => hQ x ⟨h0, by omega⟩⟩
    have s1 : Same H H1 := sB.trans sm
    -- what follows the drawing: a ring r at some place of its own
    have tail : ∀ (H2 : Hp) (p : Addr) (rs : List Int) (y6 y7 : Option V), Same H H2 → H p = none → H2 p = some (.lst (vi rs)) → GR.Ring rs →
        tSeq (tIfS (tTest (tOp rEq (tOp (rI (fun _ j => 0 < j) fun i j => .int (i % j)) (tOp (rI CDiv fun i j => .int (i / j)) (tVar 2) (tC (.int 70))) (tC (.int 4))) (tC (.int 3))))
          (tRet (tOp rCat (tSl (rSlL K) (tVar 5) tNoPart (tPart (tC (.int 8)))) (tSl (rSlL K) (tVar 5) tNoPart (tPart (tC (.int 8)))))) tNext) (tRet (tVar 5)) { nx := fun _ H' => Q .non H', rt := Q }
          [some (.ref a), some (.int f), some (.int c), some (.int (3 + c % 14)), some (.int bd), some (.ref p), y6, y7] H2 := by
      intro H2 p rs y6 y7 sm2 np ep R
      have hP : SqL K H2 p (vi rs) := SqL.of ep
      refine ⟨_, rfl, _, _, rfl, rfl, ⟨by decide, by decide⟩, _, _, rfl, rfl, (by show (0 : Int) < 4; decide), rfl, _, rfl, if2 (fun _ => ?_) (fun _ => ?_)⟩
      · refine ⟨_, rfl, _, rfl, p, _, rfl, hP, fun u nu => ?_⟩
        have su := Same.new (o := .lst (cutV (vi rs) none (some 8))) nu
        refine ⟨_, rfl, _, rfl, p, _, rfl, su.seq hP, fun v nv => ?_⟩
        have nuv : u ≠ v := new_ne nv
        have e8 : cutV (vi rs) none (some 8) = vi (rs.take 8) := cut_to rs 8
        have l3 := R.lo
        refine ⟨u, v, _, _, rfl, rfl, by rw [upd_ne nuv]; exact upd_same, upd_same, ?_, fun x nx => ?_⟩
        · rw [e8, vi_len, List.length_take]
          exact line_le (by omega)
        · have nxv : H2 x = none := (su.trans (Same.new nv)).free nx
          refine q _ x (rs.take 8 ++ rs.take 8) (((sm2.put (sm2.free nu)).put (sm2.free (su.free nv))).put (sm2.free nxv)) (sm2.free nxv) ?_ ⟨?_, ?_, ?_⟩
          · rw [upd_same, e8, ← List.map_append]
          · rw [List.length_append, List.length_take]
            omega
          · rw [List.length_append, List.length_take]
            omega
          · intro z hz
            rcases List.mem_append.mp hz with h | h
            · exact R.bd z (List.mem_of_mem_take h)
            · exact R.bd z (List.mem_of_mem_take h)
      · exact ⟨_, rfl, q H2 p rs sm2 np ep R⟩
    refine ⟨_, rfl, rfl, _, rfl, if2 (fun _ => ?_) (fun _ => ?_)⟩
    · -- ring = [number * (number % 3) ..]
      have hD : SqL K H1 D (vi zs) := SqL.of eD
      refine ⟨_, rfl, D, rfl, ⟨_, hD⟩, fun C nC => ?_⟩
      have lz : (vi zs).length ≤ 1000 := by rw [vi_len]; omega
      refine lc_intsL (a := D) (xs := vi zs) (fun i z => 0 ≤ z ∧ z ≤ 1000) hD nC lz (fun i x H' hi sm' Q' hQ => ?_) (fun H2 ws hl2 hR2 sm2 e2 => ?_)
      · obtain ⟨z, hz, rfl⟩ := vi_at hi
        have hi2 : i < zs.length := (List.getElem?_eq_some_iff.mp hz).1
        have b := hR i (by omega)
        rw [getD_some hi2] at hz
        have ez := Option.some.inj hz
        rw [ez] at b
        have m0 := Int.emod_nonneg z (b := 3) (by decide)
        have m1 := Int.emod_lt_of_pos z (b := 3) (by decide)
        refine ⟨_, rfl, _, rfl, _, _, rfl, rfl, (by show (0 : Int) < 3; decide), _, _, rfl, rfl, .inl ⟨by omega, by omega⟩, hQ _ ⟨Int.mul_nonneg b.1 m0, ?_⟩⟩
        exact Int.le_trans (Int.mul_le_mul b.2 (show z % 3 ≤ 2 by omega) m0 (by decide)) (by decide)
      · rw [vi_len] at hl2 hR2
        exact tail H2 C ws _ _ (s1.trans sm2) (s1.free nC) e2 (ring_of hl2 (by omega) (by omega) hR2)
    · exact tail H1 D zs _ _ s1 nD0 eD (ring_of hl (by omega) (by omega) fun i hi => by have := hR i hi; omega)
/-! ### gaps, the promise -/
theorem gapE {ns : List Int} {j k : Nat} {i : Int} (hk : k < ns.length) (hj : j = (k + 1) % ns.length) (e : i = ns.getD k 0 - ns.getD j 0) : V.int (if i < 0 then -i else i) = V.int ((GR.gp ns).getD k 0) := by
  subst e hj
  rw [abs_eq, GR.gp_get hk]
theorem gp_take {ns : List Int} {k : Nat} (h : k < ns.length) : vi ((GR.gp ns).take k) ++ [V.int ((GR.gp ns).getD k 0)] = vi ((GR.gp ns).take (k + 1)) := by
  have h' : k < (GR.gp ns).length := by rw [GR.gp_length]; exact h
  show List.map V.int _ ++ _ = List.map V.int _
  rw [List.take_add_one, getD_some h', List.map_append]
  rfl
theorem gp_all (ns : List Int) : (GR.gp ns).take ns.length = GR.gp ns := List.take_of_length_le (Nat.le_of_eq (GR.gp_length ns))
def sp_gapsL (K : PySem.W.Frag) (lo : Nat) : Sp := fun vs H Q _ => ∃ (a : Addr) (ns : List Int), vs = [.ref a] ∧ SqL K H a (vi ns) ∧ lo ≤ ns.length ∧ ns.length ≤ 1000 ∧
  ∀ H' p, Same H H' → H p = none → H' p = some (.lst (vi (GR.gp ns))) → Q (.ref p) H'
/-! ### _law_gaps -/
theorem ok_l_gaps (T : Txt K mg) : FnOk P w K mg base CX0 1 T.f_l_gaps T.d_l_gaps ["ring"] (sp_gapsL K 0) := by
  refine T.F_l_gaps.ok sc_l_gaps (fun vs H Q E h => ?_) (fun cdv A outer s H vs Q E hr h => ?_)
  · obtain ⟨a, ns, rfl, _⟩ := h
    rfl
  · obtain ⟨a, ns, rfl, hS, h1, h16, q⟩ := h
    refine ⟨_, pss_one (ps_ret
      (pe_lc (own := [("k", 1)]) (g := gName 1) (tt := tYes) rfl sc_l_gaps.nd (pi_range1 (by rfl) T.z_range (pa_cons (pe_callB call_len_seq (by rfl) T.z_len bt_len (pa_cons (pv 0) pa_nil)) pa_nil))
        (blkOk_by (own := [("k", 1)]) (N := N_l_gaps) (sc := defScope s_l_gaps) (by decide +kernel)) (fun _ _ _ _ _ => pg_name (i := 1) sc_l_gaps.nd rfl (Or.inl rfl)) (fun _ _ _ _ _ => pts_nil)
        (fun _ _ _ _ _ => pe_callB call_abs (by rfl) T.z_abs bt_abs (pa_cons (pe_op op_sub (pe_ix (ixL K rfl) (pv 0) (pv 1) (fun _ _ => rfl)) (pe_ix (ixL K rfl) (pv 0) (pe_op op_mod (pe_op op_add (pv 1) pe_int) (pe_callB (lenL K rfl) (by rfl) T.z_len bt_len (pa_cons (pv 0) pa_nil))) (fun _ _ => rfl))) pa_nil)))), ?_⟩
    refine ⟨_, rfl, a, _, rfl, .inl hS, _, rfl, by rw [vi_len]; omega, by rw [vi_len]; omega, fun D nD => ?_⟩
    refine lc_ints (fun i z => z = (GR.gp ns).getD i 0) nD (by rw [vi_len]; omega) (fun i H' hi sm Q' hQ => ?_) (fun H' zs hl hR sm e => ?_)
    · rw [vi_len] at hi
      have hi : i < ns.length := by omega
      have hA := sm.seq hS
      have hm : (i + 1) % ns.length < ns.length := Nat.mod_lt _ (by omega)
      have em : ((0 : Int) + (i : Int) + 1) % ((vi ns).length : Int) = (((i + 1) % ns.length : Nat) : Int) := by
        rw [vi_len, Int.natCast_emod]
        congr 1
        omega
      refine ⟨_, rfl, _, rfl, a, _, _, _, rfl, rfl, hA, atI_of (j := i) (by omega) (vi_nth hi), _, rfl, _, rfl, _, _, rfl, rfl, _, rfl, a, _, rfl, .inl hA, _, _, rfl, rfl, (by rw [vi_len]; omega), a, _, _, _, rfl, rfl, hA, atI_of em (vi_nth hm), _, _, rfl, rfl, _, rfl, ?_⟩
      refine hQ _ ?_
      rw [abs_eq, GR.gp_get hi]
    · rw [vi_len] at hl hR
      have ez : zs = GR.gp ns := GR.list_ext' (by rw [hl, GR.gp_length]; omega) fun k hk => hR k (by omega)
      rw [ez] at e
      exact q H' D sm nD e
/-! ### _law_halved -/
def sp_l_halved (K : PySem.W.Frag) : Sp := fun vs H Q _ => ∃ (a : Addr) (ns : List Int), vs = [.ref a] ∧ SqL K H a (vi ns) ∧ ns.length ≤ 16 ∧
  ∀ H' c, Same H H' → (c = true ↔ GR.Half ns) → Q (.bl c) H'
theorem ok_l_halved (T : Txt K mg) : FnOk P w K mg base CX0 1 T.f_l_halved T.d_l_halved ["ring"] (sp_l_halved K) := by
  refine T.F_l_halved.ok sc_l_halved (fun vs H Q E h => ?_) (fun cdv A outer s H vs Q E hr h => ?_)
  · obtain ⟨a, ns, rfl, _⟩ := h
    rfl
  · obtain ⟨a, ns, rfl, hS, R16, q⟩ := h
    have hu := hu_of hr
    refine ⟨_, (pss_cons (ps_set (i := 1) sc_l_halved.nd rfl (.inl rfl) (pe_disp (pps_cons pe_int pe_bl pps_nil) (by rfl) (by rfl) (fun z => by cases z) (by decide)))
      (pss_cons (ps_for PassesOwn.never rfl (pi_list (pv 0)) (pg_name (i := 2) sc_l_halved.nd rfl (.inl rfl)) (pss_one (ps_for PassesOwn.never rfl (pi_list (pe_callTy (call_list_dK rfl) (by rfl) T.z_list bt_list (pa_cons (pv 1) pa_nil))) (pg_name (i := 3) sc_l_halved.nd rfl (.inl rfl)) (pss_one (ps_dput hu (pv 1) (pe_op op_add (pv 3) (pv 2)) pe_bl rfl)))))
      (pss_one (ps_ret (pe_and (pe_cmpR op_eq (pe_op op_mod (pe_callB (cr_sum rfl) (by rfl) T.z_sum bt_sum (pa_cons (pv 0) pa_nil)) pe_int) pe_int (nomark _)) (pe_one (pe_cmp (pc_din hu (pe_op op_fdiv (pe_callB (cr_sum rfl) (by rfl) T.z_sum bt_sum (pa_cons (pv 0) pa_nil)) pe_int) (pv 1))))))))), ?_⟩
    refine fun d nd => ⟨upd_same, [(Sum.inl 0, .bl true)], rfl, by decide, ?_⟩
    rw [upd_upd]
    have s0 := Same.new (o := .dK (mergeK [] [(Sum.inl 0, .bl true)])) nd
    refine ⟨_, rfl, a, rfl, ⟨_, s0.seq hS⟩, for_list (K := K) (a := a) (xs := vi ns) (fun i σ G => ∃ (kvs : List (Key × V)) (y2 y3 : Option V), σ = [some (.ref a), some (.ref d), y2, y3] ∧ Same H G ∧ G d = some (.dK kvs) ∧ SumD ns i kvs)
      ⟨_, none, none, rfl, s0, upd_same, SumD.zero ns⟩ (fun i σ G _ ⟨_, _, _, _, sm, _⟩ => sm.seq hS) ?_ ?_⟩
    · rintro i x σ G hi ⟨kvs, y2, y3, rfl, sm, ed, D⟩
      have hil : i < ns.length := by
        have := (List.getElem?_eq_some_iff.mp hi).1
        rw [vi_len] at this
        exact this
      have ex : x = .int (ns.getD i 0) := Option.some.inj (hi.symm.trans (vi_nth hil))
      subst ex
      have hk16 : kvs.length ≤ 65536 := Nat.le_trans D.len (Nat.le_trans (Nat.pow_le_pow_right (by decide) (show i ≤ 16 by omega)) (by decide))
      refine ⟨_, rfl, d, kvs, rfl, ed, fun p np => ?_⟩
      have sp := Same.new (o := .lst (kvs.map fun kv => kV kv.1)) np
      have npd : p ≠ d := (ne_of_none ed np).symm
      refine ⟨p, rfl, ⟨_, SqL.of upd_same⟩, for_list (K := K) (a := p) (xs := kvs.map fun kv => kV kv.1) (fun j σ G' => ∃ (kt : List (Key × V)) (y3 : Option V), σ = [some (.ref a), some (.ref d), some (.int (ns.getD i 0)), y3] ∧ Same H G' ∧ G' d = some (.dK kt) ∧ Gro ns i kvs j kt ∧ j ≤ kvs.length ∧ G' p = some (.lst (kvs.map fun kv => kV kv.1)))
        ⟨kvs, y3, rfl, sm.trans sp, sp _ _ ed, Gro.zero D, Nat.zero_le _, upd_same⟩ (fun j σ G' _ ⟨_, _, _, _, _, _, _, h⟩ => SqL.of h) ?_ ?_⟩
      · rintro j x σ G' hj ⟨kt, y3, rfl, sm', ed', M, hjl, ep⟩
        have hjl2 : j < kvs.length := by
          have := (List.getElem?_eq_some_iff.mp hj).1
          rw [List.length_map] at this
          exact this
        have ej : kvs[j]? = some kvs[j] := List.getElem?_eq_getElem hjl2
        obtain ⟨t, et, ht⟩ := D.all _ (List.mem_of_getElem? ej)
        have ex : x = .int t := by
          rw [List.getElem?_map, ej] at hj
          have e : kV kvs[j].1 = x := Option.some.inj hj
          rw [← e, et]
          rfl
        subst ex
        have ej2 : kvs[j]? = some (Sum.inl t, kvs[j].2) := by
          rw [ej]
          congr 1
          exact Prod.ext et rfl
        have hml := M.len
        refine ⟨_, rfl, _, rfl, _, rfl, _, _, rfl, rfl, d, _, rfl, DPut.k (k := Sum.inl (t + ns.getD i 0)) ed' (line_lt (by omega)), ?_⟩
        exact ⟨_, _, rfl, sm'.put nd, upd_same, M.step ht ej2, hjl2, by rw [upd_ne npd]; exact ep⟩
      · rintro σ G' ⟨kt, y3, rfl, sm', ed', M, hjl, ep⟩
        rw [List.length_map] at M
        exact ⟨kt, _, _, rfl, sm', ed', M.done D⟩
    · rintro σ G ⟨kvs, y2, y3, rfl, sm, ed, D⟩
      rw [vi_len] at D
      refine ⟨_, rfl, a, ns, rfl, sm.seq hS, _, _, rfl, rfl, (by show (0 : Int) < 2; decide), rfl, _, rfl, if2 (fun c => ?_) (fun c => ?_)⟩
      · refine ⟨_, rfl, a, ns, rfl, sm.seq hS, _, _, rfl, rfl, ⟨by decide, by decide⟩, _, rfl, d, _, rfl, DGet.k (k := Sum.inl (ns.sum / 2)) ed, ?_⟩
        refine q G _ sm ?_
        rw [D.iff]
        exact ⟨fun h => ⟨V.int.inj c, h⟩, fun h => h.2⟩
      · exact q G false sm ⟨fun h => (by cases h), fun h => absurd (vint h.1) c⟩
/-! ### _law_is_parting -/
def sp_l_is_parting (K : PySem.W.Frag) : Sp := fun vs H Q _ => ∃ (a b : Addr) (g : List Bool) (ns : List Int), vs = [.ref a, .ref b] ∧ H a = some (.lst (g.map V.bl)) ∧ SqL K H b (vi ns) ∧ Parted ns g ∧
  ∀ H', Same H H' → Q (.bl true) H'
theorem two_eq {a b c d : Int} (h1 : a = c) (h2 : b = d) : some (HO.lst [V.int a, V.int b]) = some (HO.lst [V.int c, V.int d]) := by rw [h1, h2]
theorem sums_at {x y : Int} {c : Bool} : ([.int x, .int y] : List V)[(if c then 1 else 0 : Nat)]? = some (.int (if c then y else x)) := by
  cases c <;> rfl
theorem ok_l_is_parting (T : Txt K mg) : FnOk P w K mg base CX0 1 T.f_l_is_parting T.d_l_is_parting ["found", "ring"] (sp_l_is_parting K) := by
  refine T.F_l_is_parting.ok sc_l_is_parting (fun vs H Q E h => ?_) (fun cdv A outer s H vs Q E hr h => ?_)
  · obtain ⟨a, b, g, ns, rfl, _⟩ := h
    rfl
  · obtain ⟨a, b, g, ns, rfl, hA, hB, ⟨hl, hs⟩, q⟩ := h
    refine ⟨_, (pss_cons (ps_if (PW.pt (pw_or (pt_not (pt_val (pe_callB (isiL K rfl) (by rfl) T.z_isinstance bt_isinstance (pa_cons (pv 0) (pa_cons (pe_cls T.z_list bt_list) pa_nil))))) (pw_or1 (pt_cmpR op_ne (pe_callB (lenL K rfl) (by rfl) T.z_len bt_len (pa_cons (pv 0) pa_nil)) (pe_callB (lenL K rfl) (by rfl) T.z_len bt_len (pa_cons (pv 1) pa_nil)) (nomark _))))) (pss_one (ps_ret pe_bl)) pss_nil)
      (pss_cons (ps_set (i := 2) sc_l_is_parting.nd rfl (.inl rfl) (pe_lst (pa_cons pe_int (pa_cons pe_int pa_nil))))
      (pss_cons (ps_for PassesOwn.never rfl (pi_zip (by rfl) T.z_zip (pa_cons (pv 0) (pa_cons (pv 1) pa_nil))) (pg_tup rfl (pgs_cons (pg_name (i := 3) sc_l_is_parting.nd rfl (.inl rfl)) (pgs_cons (pg_name (i := 4) sc_l_is_parting.nd rfl (.inl rfl)) pgs_nil))) (pss_cons (ps_if (pt_not (pt_val (pe_callB (isiL K rfl) (by rfl) T.z_isinstance bt_isinstance (pa_cons (pv 3) (pa_cons (pe_cls T.z_bool bt_bool) pa_nil))))) (pss_one (ps_ret pe_bl)) pss_nil)
      (pss_one (ps_asg (pe_op op_add (pe_ix (ixL K rfl) (pv 2) (pe_callTy call_int1 (by rfl) T.z_int bt_int (pa_cons (pv 3) pa_nil)) (fun _ _ => rfl)) (pv 4)) (pg_sub (pv 2) (pe_callTy call_int1 (by rfl) T.z_int bt_int (pa_cons (pv 3) pa_nil)) set_list)))))
      (pss_one (ps_ret (pe_cmpR op_eq (pe_ix (ixL K rfl) (pv 2) pe_int (fun _ _ => rfl)) (pe_ix (ixL K rfl) (pv 2) pe_int (fun _ _ => rfl)) (nomark _))))))), ?_⟩
    refine ⟨_, rfl, _, _, _, _, true, rfl, .ty "list", .base (.lst hA), kit_ty (by decide +kernel), _, rfl, iteF ?_⟩
    refine ⟨_, rfl, a, _, rfl, .inl (SqL.of hA), _, rfl, b, _, rfl, .inl hB, rfl, _, rfl, ifnN (by rw [vi_len, List.length_map, hl]) ?_⟩
    refine ⟨by show 2 ≤ sizeLine; decide, fun p np => ?_⟩
    have sp := Same.new (o := .lst [.int 0, .int 0]) np
    refine ⟨_, rfl, _, rfl, a, b, _, _, rfl, SqL.of (sp _ _ hA), sp.seq hB, RZ.for_zipL (by rw [List.length_map, vi_len, hl]) (fun i σ G => ∃ y3 y4, σ = [some (.ref a), some (.ref b), some (.ref p), y3, y4] ∧ i ≤ ns.length ∧ Same H G ∧ G p = some (.lst [.int ((ns.take i).sum - GR.psum (g.take i) (ns.take i)), .int (GR.psum (g.take i) (ns.take i))]))
      ⟨none, none, rfl, Nat.zero_le _, sp, upd_same⟩ (fun i σ G ⟨_, _, _, _, sg, _⟩ => ⟨SqL.of (sg _ _ hA), sg.seq hB⟩) ?_ ?_⟩
    · rintro i x y Ta σ G hx hy ⟨y3, y4, rfl, hin, sg, gp⟩ nT
      have hil : i < ns.length := by
        have := (List.getElem?_eq_some_iff.mp hy).1
        rw [vi_len] at this
        exact this
      have ey : y = .int (ns.getD i 0) := Option.some.inj (hy.symm.trans (vi_nth hil))
      have ex : x = .bl (g.getD i false) := by
        rw [List.getElem?_map, List.getElem?_eq_getElem (show i < g.length by omega)] at hx
        rw [List.getD_eq_getElem?_getD, List.getElem?_eq_getElem (show i < g.length by omega)]
        exact (Option.some.inj hx).symm
      subst ex ey
      have sT := Same.new (o := .tup [.bl (g.getD i false), .int (ns.getD i 0)]) nT
      have gpT := sT _ _ gp
      refine ⟨Ta, _, rfl, SqT.of upd_same, rfl, _, _, rfl, _, _, rfl, rfl, ?_⟩
      refine ⟨_, rfl, _, _, _, _, true, rfl, .ty "bool", .base (.bl _), kit_ty (by decide +kernel), _, rfl, iteF ?_⟩
      have ps := GR.psum_take hl hil
      have ss : (ns.take (i + 1)).sum = (ns.take i).sum + ns.getD i 0 := by
        rw [GR.take_snoc (GR.getD_get hil), GR.sum_snoc]
      cases hg : g.getD i false with
      | true =>
        rw [hg] at gpT sT
        rw [hg, if_pos rfl] at ps
        refine ⟨_, rfl, _, rfl, .inr ⟨true, rfl, p, _, _, _, rfl, rfl, SqL.of gpT, atI_of (j := 1) rfl rfl, _, rfl, _, _, rfl, rfl, _, rfl, _, rfl, .inr ⟨true, rfl, p, _, _, 1, rfl, rfl, gpT, rfl, ?_⟩⟩⟩
        refine ⟨_, _, rfl, hil, (sg.trans sT).put np, ?_⟩
        rw [upd_same, ps, ss]
        exact two_eq (show (ns.take i).sum - GR.psum (g.take i) (ns.take i) = _ by omega) (show GR.psum (g.take i) (ns.take i) + ns.getD i 0 = _ by rfl)
      | false =>
        rw [hg] at gpT sT
        rw [hg, if_neg (by decide)] at ps
        refine ⟨_, rfl, _, rfl, .inr ⟨false, rfl, p, _, _, _, rfl, rfl, SqL.of gpT, atI_of (j := 0) rfl rfl, _, rfl, _, _, rfl, rfl, _, rfl, _, rfl, .inr ⟨false, rfl, p, _, _, 0, rfl, rfl, gpT, rfl, ?_⟩⟩⟩
        refine ⟨_, _, rfl, hil, (sg.trans sT).put np, ?_⟩
        rw [upd_same, ps, ss]
        exact two_eq (show (ns.take i).sum - GR.psum (g.take i) (ns.take i) + ns.getD i 0 = _ by omega) (show GR.psum (g.take i) (ns.take i) = _ by omega)
    · rintro σ G ⟨y3, y4, rfl, hin, sg, gp⟩
      rw [List.length_map, hl, List.take_length, ← hl, List.take_length] at gp
      refine ⟨_, rfl, p, _, _, _, rfl, rfl, SqL.of gp, atI_of (j := 0) rfl rfl, _, rfl, p, _, _, _, rfl, rfl, SqL.of gp, atI_of (j := 1) rfl rfl, rfl, ?_⟩
      rw [decide_eq_true (vint (show ns.sum - GR.psum g ns = GR.psum g ns by omega))]
      exact q G sg
/-! ### _law_is_ahead -/
def sp_l_is_ahead (K : PySem.W.Frag) : Sp := fun vs H Q _ => ∃ (a b : Addr) (xs ns : List Int), vs = [.ref a, .ref b] ∧ H a = some (.lst (vi xs)) ∧ SqL K H b (vi ns) ∧ Ahead ns xs ∧ ns.length ≤ 16 ∧
  ∀ H', Same H H' → Q (.bl true) H'
theorem ok_l_is_ahead (T : Txt K mg) : FnOk P w K mg base CX0 2 T.f_l_is_ahead T.d_l_is_ahead ["found", "ring"] (sp_l_is_ahead K) := by
  refine T.F_l_is_ahead.ok sc_l_is_ahead (fun vs H Q E h => ?_) (fun cdv A outer s H vs Q E hr h => ?_)
  · obtain ⟨a, b, xs, ns, rfl, _⟩ := h
    rfl
  · obtain ⟨a, b, xs, ns, rfl, hA, hB, W, h16, q⟩ := h
    have hl := W.len
    refine ⟨_, (pss_cons (ps_if (PW.pt (pw_or (pt_not (pt_val (pe_callB (isiL K rfl) (by rfl) T.z_isinstance bt_isinstance (pa_cons (pv 0) (pa_cons (pe_cls T.z_list bt_list) pa_nil))))) (pw_or1 (pt_cmpR op_ne (pe_callB (lenL K rfl) (by rfl) T.z_len bt_len (pa_cons (pv 0) pa_nil)) (pe_callB (lenL K rfl) (by rfl) T.z_len bt_len (pa_cons (pv 1) pa_nil)) (nomark _))))) (pss_one (ps_ret pe_bl)) pss_nil)
      (pss_cons (ps_for PassesOwn.never rfl (pi_list (pv 0)) (pg_name (i := 2) sc_l_is_ahead.nd rfl (.inl rfl)) (pss_one (ps_if (pt_not (pt_val (pe_call (ok_l_whole T) (hr.mono (by decide)) (by rfl) T.g_l_whole T.F_l_whole.kp T.b_l_whole .nil pass0 (pa_cons (pv 2) pa_nil)))) (pss_one (ps_ret pe_bl)) pss_nil)))
      (pss_one (ps_ret (pe_and (pe_cmpR op_eq (pe_callB (cr_min rfl) (by rfl) T.z_min bt_min (pa_cons (pv 0) pa_nil)) pe_int (nomark _)) (pe_one (pe_cmpR (op_eqD hr.units) (pe_call (ok_l_gaps T) (hr.mono (by decide)) (by rfl) T.g_l_gaps T.F_l_gaps.kp T.b_l_gaps .nil pass0 (pa_cons (pv 0) pa_nil)) (pv 1) (nomark _)))))))), ?_⟩
    refine ⟨_, rfl, _, _, _, _, true, rfl, .ty "list", .base (.lst hA), kit_ty (by decide +kernel), _, rfl, iteF ?_⟩
    refine ⟨_, rfl, a, _, rfl, .inl (SqL.of hA), _, rfl, b, _, rfl, .inl hB, rfl, _, rfl, ifnN (by rw [vi_len, vi_len, hl]) ?_⟩
    refine ⟨_, rfl, a, rfl, ⟨_, SqL.of hA⟩, for_list (K := K) (a := a) (xs := vi xs) (fun i σ H' => ∃ v, σ = [some (.ref a), some (.ref b), v] ∧ H = H') ⟨none, rfl, rfl⟩ (fun i σ H' _ ⟨_, _, e⟩ => e ▸ SqL.of hA) ?_ ?_⟩
    · rintro i x σ H' hi ⟨v, rfl, rfl⟩
      obtain ⟨z, hz, rfl⟩ := vi_at hi
      exact ⟨_, rfl, z, rfl, _, rfl, iteF ⟨_, rfl, rfl⟩⟩
    · rintro σ H' ⟨v, rfl, rfl⟩
      have hpos : 0 < xs.length := List.length_pos_of_mem W.nought
      refine ⟨_, rfl, a, _, rfl, SqL.of hA, hpos, fun m hm hle => ⟨rfl, _, rfl, ?_⟩⟩
      have hm0 : m = 0 := by
        have := W.low m hm
        have := hle 0 W.nought
        omega
      refine ifY (vint hm0) ?_
      refine ⟨_, rfl, a, xs, rfl, SqL.of hA, Nat.zero_le _, by omega, fun H' p sm np ep => ⟨_, rfl, eqL (SqL.of ep) (sm.seq hB) ?_⟩⟩
      rw [decide_eq_true W.gaps]
      exact q H' sm
/-! ### the law -/
def sp_law (K : PySem.W.Frag) : Sp := fun vs H Q _ => ∃ (a : Addr) (ns : List Int), vs = [.ref a] ∧ SqL K H a (ns.map V.int) ∧ ns.length ≤ 63 ∧ ∀ H', Q (.bl true) H'
theorem ok_law (T : Txt K mg) : FnOk P w K mg base CX0 4 T.f_law T.d_law ["script"] (sp_law K) := by
  refine T.F_law.ok sc_law (fun vs H Q E h => ?_) (fun cdv A outer s H vs Q E hr h => ?_)
  · obtain ⟨a, ns, rfl, _⟩ := h
    rfl
  · obtain ⟨a, ns, rfl, hS, hlen, q⟩ := h
    refine ⟨_, (pss_cons (ps_set (i := 1) sc_law.nd rfl (.inl rfl) (pe_call (ok_l_ring_by T) (hr.mono (by decide)) (by rfl) T.g_l_ring_by T.F_l_ring_by.kp T.b_l_ring_by .nil pass0 (pa_cons (pv 0) (pa_cons pe_int pa_nil))))
      (pss_cons (ps_if (pt_cmpR op_eq (pe_op op_mod (pe_call (ok_l_cell_at T) (hr.mono (by decide)) (by rfl) T.g_l_cell_at T.F_l_cell_at.kp T.b_l_cell_at .nil pass0 (pa_cons (pv 0) (pa_cons pe_int pa_nil))) pe_int) pe_int (nomark _)) (pss_one (ps_set (i := 1) sc_law.nd rfl (.inl rfl) (pe_call (ok_l_gaps T) (hr.mono (by decide)) (by rfl) T.g_l_gaps T.F_l_gaps.kp T.b_l_gaps .nil pass0 (pa_cons (pv 1) pa_nil)))) pss_nil)
      (pss_cons (ps_set (i := 2) sc_law.nd rfl (.inl rfl) (pe_callTy (listL K rfl) (by rfl) T.z_list bt_list (pa_cons (pv 1) pa_nil)))
      (pss_cons (ps_for PassesOwn.never rfl (pi_range1 (by rfl) T.z_range (pa_cons pe_int pa_nil)) (pg_name (i := 3) sc_law.nd rfl (.inl rfl)) (pss_cons (ps_set (i := 4) sc_law.nd rfl (.inl rfl) (pe_call (ok_parting T) (hr.mono (by decide)) (by rfl) T.g_parting T.F_parting.kp T.b_parting .nil pass0 (pa_cons (pv 2) pa_nil)))
      (pss_cons (ps_set (i := 5) sc_law.nd rfl (.inl rfl) (pe_call (ok_ahead T) (hr.mono (by decide)) (by rfl) T.g_ahead T.F_ahead.kp T.b_ahead .nil pass0 (pa_cons (pv 2) pa_nil)))
      (pss_cons (ps_if (pt_cmpR (op_neD hr.units) (pv 2) (pv 1) (nomark _)) (pss_one (ps_ret pe_bl)) pss_nil)
      (pss_one (ps_if (pt_not (pt_val (pe_call (ok_l_halved T) (hr.mono (by decide)) (by rfl) T.g_l_halved T.F_l_halved.kp T.b_l_halved .nil pass0 (pa_cons (pv 1) pa_nil)))) (pss_one (ps_if (PW.pt (pw_or (pt_cmpR op_notN (pv 4) pe_non (nomark _)) (pw_or1 (pt_cmpR op_notN (pv 5) pe_non (nomark _))))) (pss_one (ps_ret pe_bl)) pss_nil)) (pss_one (ps_if (PW.pt (pw_or (pt_not (pt_val (pe_call (ok_l_is_parting T) (hr.mono (by decide)) (by rfl) T.g_l_is_parting T.F_l_is_parting.kp T.b_l_is_parting .nil pass0 (pa_cons (pv 4) (pa_cons (pv 1) pa_nil))))) (pw_or1 (pt_not (pt_val (pe_call (ok_l_is_ahead T) (hr.mono (by decide)) (by rfl) T.g_l_is_ahead T.F_l_is_ahead.kp T.b_l_is_ahead .nil pass0 (pa_cons (pv 5) (pa_cons (pv 1) pa_nil)))))))) (pss_one (ps_ret pe_bl)) (pss_cons (ps_expr (pe_bm0 PySem.F.plainAttrs_list PySem.F.slot_list_clear PySem.F.type_list_clear mt_clear (pv 4)))
      (pss_one (ps_expr (pe_bm PySem.F.plainAttrs_list PySem.F.slot_list_append PySem.F.type_list_append mt_append (pv 5) (pa_cons pe_int pa_nil)))))))))))))
      (pss_one (ps_ret pe_bl)))))), ?_⟩
    refine ⟨_, rfl, a, ns, 0, rfl, hS, by decide, fun H0 r0 rs0 s0 nr0 er0 R0 => ?_⟩
    dsimp only [gName]
    refine cut (fun σ' H' => ∃ (r : Addr) (rs : List Int), σ' = [some (.ref a), some (.ref r), none, none, none, none] ∧ H' r = some (.lst (vi rs)) ∧ GR.Ring rs) (fun N hN => ?_) ?_
    · refine ⟨_, rfl, a, ns, 2, rfl, s0.seq hS, by decide, _, _, rfl, rfl, (by show (0 : Int) < 2; decide), rfl, _, rfl, if2 (fun _ => ?_) (fun _ => ?_)⟩
      · have := R0.hi
        exact ⟨_, rfl, r0, rs0, rfl, SqL.of er0, Nat.zero_le _, by omega, fun H1 r1 _ _ e1 => hN _ _ ⟨r1, _, rfl, e1, R0.gpR⟩⟩
      · exact hN _ _ ⟨r0, rs0, rfl, er0, R0⟩
    rintro σ' H1 ⟨r, rs, rfl, er, R⟩
    have R16 := R.hi
    refine ⟨_, rfl, r, _, rfl, .inl (SqL.of er), fun h nh => ?_⟩
    have sh := Same.new (o := .lst (vi rs)) nh
    have er1 := sh _ _ er
    have eh1 : (upd H1 h (.lst (vi rs))) h = some (.lst (vi rs)) := upd_same
    refine ⟨2, rfl, by decide, by decide, for_range (lo := 0) (n := 2) (fun i σ G => ∃ y3 y4 y5, σ = [some (.ref a), some (.ref r), some (.ref h), y3, y4, y5] ∧ Same (upd H1 h (.lst (vi rs))) G) ⟨none, none, none, rfl, Same.refl _⟩ ?_ ?_⟩
    · rintro i σ G hi ⟨y3, y4, y5, rfl, sg⟩
      have er2 := sg _ _ er1
      have eh2 := sg _ _ eh1
      refine ⟨_, rfl, h, rs, rfl, SqL.of eh2, R, fun G1 v1 s1 hv1 => ?_⟩
      have er3 := s1 _ _ er2
      have eh3 := s1 _ _ eh2
      refine ⟨_, rfl, h, rs, rfl, SqL.of eh3, R, fun G2 v2 s2 hv2 => ?_⟩
      have er4 := s2 _ _ er3
      have eh4 := s2 _ _ eh3
      refine ⟨_, rfl, _, rfl, neL (SqL.of eh4) (SqL.of er4) ⟨_, rfl, ifnN rfl ?_⟩⟩
      refine ⟨_, rfl, r, rs, rfl, SqL.of er4, R16, fun G3 c s3 hc => ⟨_, rfl, ?_⟩⟩
      have sg3 := ((sg.trans s1).trans s2).trans s3
      rcases hv1 with ⟨rfl, hno⟩ | ⟨p, g, rfl, np, ep, hpg⟩
      · have ec : c = false := by
          cases c with
          | false => rfl
          | true => exact absurd (hc.mp rfl) hno
        subst ec
        have e2 : v2 = .non := by
          rcases hv2 with ⟨e, _⟩ | ⟨_, _, _, _, _, _, hh⟩
          · exact e
          · exact absurd hh hno
        subst e2
        refine iteT ⟨_, rfl, rfl, _, rfl, ifnN rfl ?_⟩
        exact ⟨_, rfl, rfl, _, rfl, ifnN rfl ⟨_, _, _, rfl, sg3⟩⟩
      · have hh : GR.Half rs := GR.half_of hpg.1 hpg.2
        have ec : c = true := hc.mpr hh
        subst ec
        rcases hv2 with ⟨_, hno⟩ | ⟨x, xs, rfl, nx, ex, W, _⟩
        · exact absurd hh hno
        refine iteF ?_
        have ep3 := s3 _ _ (s2 _ _ ep)
        have ex3 := s3 _ _ ex
        have er5 := s3 _ _ er4
        refine ⟨_, rfl, _, rfl, p, r, g, rs, rfl, ep3, SqL.of er5, hpg, fun G4 s4 => ⟨_, rfl, iteF ?_⟩⟩
        have ex4 := s4 _ _ ex3
        have er6 := s4 _ _ er5
        refine ⟨_, rfl, _, rfl, x, r, xs, rs, rfl, ex4, SqL.of er6, W, R16, fun G5 s5 => ⟨_, rfl, iteF ?_⟩⟩
        have ep5 := s5 _ _ (s4 _ _ ep3)
        have ex5 := s5 _ _ ex4
        have npx : x ≠ p := (ne_of_none ep nx).symm
        have np0 : (upd H1 h (.lst (vi rs))) p = none := sg.free np
        have nx0 : (upd H1 h (.lst (vi rs))) x = none := (sg.trans s1).free nx
        -- sides.clear(); row.append(0)
        refine ⟨_, rfl, .inl ⟨rfl, _, SqL.of ep5⟩, p, _, rfl, rfl, ep5, ?_⟩
        have ex6 := at_ne (o := .lst []) ex5 npx
        refine ⟨_, rfl, .inl ⟨rfl, _, SqL.of ex6⟩, x, _, _, rfl, rfl, ex6, line_lt (by rw [vi_len, W.len]; omega), ?_⟩
        exact ⟨_, _, _, rfl, (((sg3.trans s4).trans s5).put np0).put nx0⟩
    · rintro σ G ⟨y3, y4, y5, rfl, sg⟩
      exact q G
end
/-! ### what the top has written; the law's own head -/
theorem all_mk {l : PySem.W.OpenLaw} {w : World} {K : PySem.W.Frag} {h : Heap} {mg : Str → Option Value} {fa : Addr} (X : K.In h) (G : h.Ns mainGlobals mg) (hfa : mg "law" = some (.ref fa))
    {f_asked : Addr} {od_asked an_asked : Option Addr} {sl_asked : Array (Option Value)} {oc_asked kV_asked dc_asked pm_asked cd_asked ct_asked : Value}
    (a_asked : PySem.W.nsIn K mainGlobals "asked" = some (some (.ref f_asked))) (l_asked : K.lookup f_asked = some ⟨oc_asked, od_asked, .func (PySem.W.fnOf "asked" "asked" (defArgs s_asked) (defBody s_asked) (defScope s_asked) .none kV_asked dc_asked pm_asked an_asked cd_asked ct_asked), sl_asked⟩) (co_asked : PySem.W.codeIn K cd_asked "asked" = true) (k_asked : PySem.W.keepIn K (.ref f_asked) = true)
    {f_parting : Addr} {od_parting an_parting : Option Addr} {sl_parting : Array (Option Value)} {oc_parting kV_parting dc_parting pm_parting cd_parting ct_parting : Value}
    (a_parting : PySem.W.nsIn K mainGlobals "parting" = some (some (.ref f_parting))) (l_parting : K.lookup f_parting = some ⟨oc_parting, od_parting, .func (PySem.W.fnOf "parting" "parting" (defArgs s_parting) (defBody s_parting) (defScope s_parting) .none kV_parting dc_parting pm_parting an_parting cd_parting ct_parting), sl_parting⟩) (co_parting : PySem.W.codeIn K cd_parting "parting" = true) (k_parting : PySem.W.keepIn K (.ref f_parting) = true)
    {f_ahead : Addr} {od_ahead an_ahead : Option Addr} {sl_ahead : Array (Option Value)} {oc_ahead kV_ahead dc_ahead pm_ahead cd_ahead ct_ahead : Value}
    (a_ahead : PySem.W.nsIn K mainGlobals "ahead" = some (some (.ref f_ahead))) (l_ahead : K.lookup f_ahead = some ⟨oc_ahead, od_ahead, .func (PySem.W.fnOf "ahead" "ahead" (defArgs s_ahead) (defBody s_ahead) (defScope s_ahead) .none kV_ahead dc_ahead pm_ahead an_ahead cd_ahead ct_ahead), sl_ahead⟩) (co_ahead : PySem.W.codeIn K cd_ahead "ahead" = true) (k_ahead : PySem.W.keepIn K (.ref f_ahead) = true)
    {f_l_cell_at : Addr} {od_l_cell_at an_l_cell_at : Option Addr} {sl_l_cell_at : Array (Option Value)} {oc_l_cell_at kV_l_cell_at dc_l_cell_at pm_l_cell_at cd_l_cell_at ct_l_cell_at : Value}
    (a_l_cell_at : PySem.W.nsIn K mainGlobals "_law_cell_at" = some (some (.ref f_l_cell_at))) (l_l_cell_at : K.lookup f_l_cell_at = some ⟨oc_l_cell_at, od_l_cell_at, .func (PySem.W.fnOf "_law_cell_at" "_law_cell_at" (defArgs s_l_cell_at) (defBody s_l_cell_at) (defScope s_l_cell_at) .none kV_l_cell_at dc_l_cell_at pm_l_cell_at an_l_cell_at cd_l_cell_at ct_l_cell_at), sl_l_cell_at⟩) (co_l_cell_at : PySem.W.codeIn K cd_l_cell_at "_law_cell_at" = true) (k_l_cell_at : PySem.W.keepIn K (.ref f_l_cell_at) = true)
    {f_l_draw : Addr} {od_l_draw an_l_draw : Option Addr} {sl_l_draw : Array (Option Value)} {oc_l_draw kV_l_draw dc_l_draw pm_l_draw cd_l_draw ct_l_draw : Value}
    (a_l_draw : PySem.W.nsIn K mainGlobals "_law_draw" = some (some (.ref f_l_draw))) (l_l_draw : K.lookup f_l_draw = some ⟨oc_l_draw, od_l_draw, .func (PySem.W.fnOf "_law_draw" "_law_draw" (defArgs s_l_draw) (defBody s_l_draw) (defScope s_l_draw) .none kV_l_draw dc_l_draw pm_l_draw an_l_draw cd_l_draw ct_l_draw), sl_l_draw⟩) (co_l_draw : PySem.W.codeIn K cd_l_draw "_law_draw" = true) (k_l_draw : PySem.W.keepIn K (.ref f_l_draw) = true)
    {f_l_whole : Addr} {od_l_whole an_l_whole : Option Addr} {sl_l_whole : Array (Option Value)} {oc_l_whole kV_l_whole dc_l_whole pm_l_whole cd_l_whole ct_l_whole : Value}
    (a_l_whole : PySem.W.nsIn K mainGlobals "_law_whole" = some (some (.ref f_l_whole))) (l_l_whole : K.lookup f_l_whole = some ⟨oc_l_whole, od_l_whole, .func (PySem.W.fnOf "_law_whole" "_law_whole" (defArgs s_l_whole) (defBody s_l_whole) (defScope s_l_whole) .none kV_l_whole dc_l_whole pm_l_whole an_l_whole cd_l_whole ct_l_whole), sl_l_whole⟩) (co_l_whole : PySem.W.codeIn K cd_l_whole "_law_whole" = true) (k_l_whole : PySem.W.keepIn K (.ref f_l_whole) = true)
    {f_l_ring_by : Addr} {od_l_ring_by an_l_ring_by : Option Addr} {sl_l_ring_by : Array (Option Value)} {oc_l_ring_by kV_l_ring_by dc_l_ring_by pm_l_ring_by cd_l_ring_by ct_l_ring_by : Value}
    (a_l_ring_by : PySem.W.nsIn K mainGlobals "_law_ring_by" = some (some (.ref f_l_ring_by))) (l_l_ring_by : K.lookup f_l_ring_by = some ⟨oc_l_ring_by, od_l_ring_by, .func (PySem.W.fnOf "_law_ring_by" "_law_ring_by" (defArgs s_l_ring_by) (defBody s_l_ring_by) (defScope s_l_ring_by) .none kV_l_ring_by dc_l_ring_by pm_l_ring_by an_l_ring_by cd_l_ring_by ct_l_ring_by), sl_l_ring_by⟩) (co_l_ring_by : PySem.W.codeIn K cd_l_ring_by "_law_ring_by" = true) (k_l_ring_by : PySem.W.keepIn K (.ref f_l_ring_by) = true)
    {f_l_gaps : Addr} {od_l_gaps an_l_gaps : Option Addr} {sl_l_gaps : Array (Option Value)} {oc_l_gaps kV_l_gaps dc_l_gaps pm_l_gaps cd_l_gaps ct_l_gaps : Value}
    (a_l_gaps : PySem.W.nsIn K mainGlobals "_law_gaps" = some (some (.ref f_l_gaps))) (l_l_gaps : K.lookup f_l_gaps = some ⟨oc_l_gaps, od_l_gaps, .func (PySem.W.fnOf "_law_gaps" "_law_gaps" (defArgs s_l_gaps) (defBody s_l_gaps) (defScope s_l_gaps) .none kV_l_gaps dc_l_gaps pm_l_gaps an_l_gaps cd_l_gaps ct_l_gaps), sl_l_gaps⟩) (co_l_gaps : PySem.W.codeIn K cd_l_gaps "_law_gaps" = true) (k_l_gaps : PySem.W.keepIn K (.ref f_l_gaps) = true)
    {f_l_is : Addr} {od_l_is an_l_is : Option Addr} {sl_l_is : Array (Option Value)} {oc_l_is kV_l_is dc_l_is pm_l_is cd_l_is ct_l_is : Value}
    (a_l_is : PySem.W.nsIn K mainGlobals "_law_is" = some (some (.ref f_l_is))) (l_l_is : K.lookup f_l_is = some ⟨oc_l_is, od_l_is, .func (PySem.W.fnOf "_law_is" "_law_is" (defArgs s_l_is) (defBody s_l_is) (defScope s_l_is) .none kV_l_is dc_l_is pm_l_is an_l_is cd_l_is ct_l_is), sl_l_is⟩) (co_l_is : PySem.W.codeIn K cd_l_is "_law_is" = true) (k_l_is : PySem.W.keepIn K (.ref f_l_is) = true)
    {f_l_halved : Addr} {od_l_halved an_l_halved : Option Addr} {sl_l_halved : Array (Option Value)} {oc_l_halved kV_l_halved dc_l_halved pm_l_halved cd_l_halved ct_l_halved : Value}
    (a_l_halved : PySem.W.nsIn K mainGlobals "_law_halved" = some (some (.ref f_l_halved))) (l_l_halved : K.lookup f_l_halved = some ⟨oc_l_halved, od_l_halved, .func (PySem.W.fnOf "_law_halved" "_law_halved" (defArgs s_l_halved) (defBody s_l_halved) (defScope s_l_halved) .none kV_l_halved dc_l_halved pm_l_halved an_l_halved cd_l_halved ct_l_halved), sl_l_halved⟩) (co_l_halved : PySem.W.codeIn K cd_l_halved "_law_halved" = true) (k_l_halved : PySem.W.keepIn K (.ref f_l_halved) = true)
    {f_l_is_parting : Addr} {od_l_is_parting an_l_is_parting : Option Addr} {sl_l_is_parting : Array (Option Value)} {oc_l_is_parting kV_l_is_parting dc_l_is_parting pm_l_is_parting cd_l_is_parting ct_l_is_parting : Value}
    (a_l_is_parting : PySem.W.nsIn K mainGlobals "_law_is_parting" = some (some (.ref f_l_is_parting))) (l_l_is_parting : K.lookup f_l_is_parting = some ⟨oc_l_is_parting, od_l_is_parting, .func (PySem.W.fnOf "_law_is_parting" "_law_is_parting" (defArgs s_l_is_parting) (defBody s_l_is_parting) (defScope s_l_is_parting) .none kV_l_is_parting dc_l_is_parting pm_l_is_parting an_l_is_parting cd_l_is_parting ct_l_is_parting), sl_l_is_parting⟩) (co_l_is_parting : PySem.W.codeIn K cd_l_is_parting "_law_is_parting" = true) (k_l_is_parting : PySem.W.keepIn K (.ref f_l_is_parting) = true)
    {f_l_is_ahead : Addr} {od_l_is_ahead an_l_is_ahead : Option Addr} {sl_l_is_ahead : Array (Option Value)} {oc_l_is_ahead kV_l_is_ahead dc_l_is_ahead pm_l_is_ahead cd_l_is_ahead ct_l_is_ahead : Value}
    (a_l_is_ahead : PySem.W.nsIn K mainGlobals "_law_is_ahead" = some (some (.ref f_l_is_ahead))) (l_l_is_ahead : K.lookup f_l_is_ahead = some ⟨oc_l_is_ahead, od_l_is_ahead, .func (PySem.W.fnOf "_law_is_ahead" "_law_is_ahead" (defArgs s_l_is_ahead) (defBody s_l_is_ahead) (defScope s_l_is_ahead) .none kV_l_is_ahead dc_l_is_ahead pm_l_is_ahead an_l_is_ahead cd_l_is_ahead ct_l_is_ahead), sl_l_is_ahead⟩) (co_l_is_ahead : PySem.W.codeIn K cd_l_is_ahead "_law_is_ahead" = true) (k_l_is_ahead : PySem.W.keepIn K (.ref f_l_is_ahead) = true)
    {f_law : Addr} {od_law an_law : Option Addr} {sl_law : Array (Option Value)} {oc_law kV_law dc_law pm_law cd_law ct_law : Value}
    (a_law : PySem.W.nsIn K mainGlobals "law" = some (some (.ref f_law))) (l_law : K.lookup f_law = some ⟨oc_law, od_law, .func (PySem.W.fnOf "law" "law" (defArgs s_law) (defBody s_law) (defScope s_law) .none kV_law dc_law pm_law an_law cd_law ct_law), sl_law⟩) (co_law : PySem.W.codeIn K cd_law "law" = true) (k_law : PySem.W.keepIn K (.ref f_law) = true)
    {t_FEWEST : Tok} (c_FEWEST : PySem.W.nsIn K mainGlobals "FEWEST" = some (some (.int 3 t_FEWEST)))
    {t_MOST : Tok} (c_MOST : PySem.W.nsIn K mainGlobals "MOST" = some (some (.int 16 t_MOST)))
    {t_GREATEST : Tok} (c_GREATEST : PySem.W.nsIn K mainGlobals "GREATEST" = some (some (.int 1000 t_GREATEST)))
    (z_abs : PySem.W.nsIn K mainGlobals "abs" = some none)
    (z_bool : PySem.W.nsIn K mainGlobals "bool" = some none)
    (z_int : PySem.W.nsIn K mainGlobals "int" = some none)
    (z_isinstance : PySem.W.nsIn K mainGlobals "isinstance" = some none)
    (z_len : PySem.W.nsIn K mainGlobals "len" = some none)
    (z_list : PySem.W.nsIn K mainGlobals "list" = some none)
    (z_min : PySem.W.nsIn K mainGlobals "min" = some none)
    (z_range : PySem.W.nsIn K mainGlobals "range" = some none)
    (z_reversed : PySem.W.nsIn K mainGlobals "reversed" = some none)
    (z_sum : PySem.W.nsIn K mainGlobals "sum" = some none)
    (z_zip : PySem.W.nsIn K mainGlobals "zip" = some none)
    : ∃ fd : FuncData, (∀ (s : Shared) (v : Value), BindsTo s fd ⟨[v], []⟩ [("script", v)]) ∧ ∀ base : Heap, K.In base → base.Ns mainGlobals mg → FnOk l.prog w K mg base CX0 4 fa fd ["script"] (sp_law K) := by
  have e := hfa.symm.trans (PySem.W.mg_of X G a_law)
  cases e
  have F_asked := fun_mk (st := s_asked) l_asked co_asked k_asked
  have b_asked := F_asked.binds (ps := ["ring"]) fun _ _ _ _ _ _ us hl => match us, hl with | [_], _ => rfl
  have F_parting := fun_mk (st := s_parting) l_parting co_parting k_parting
  have b_parting := F_parting.binds (ps := ["ring"]) fun _ _ _ _ _ _ us hl => match us, hl with | [_], _ => rfl
  have F_ahead := fun_mk (st := s_ahead) l_ahead co_ahead k_ahead
  have b_ahead := F_ahead.binds (ps := ["ring"]) fun _ _ _ _ _ _ us hl => match us, hl with | [_], _ => rfl
  have F_l_cell_at := fun_mk (st := s_l_cell_at) l_l_cell_at co_l_cell_at k_l_cell_at
  have b_l_cell_at := F_l_cell_at.binds (ps := ["script", "k"]) fun _ _ _ _ _ _ us hl => match us, hl with | [_, _], _ => rfl
  have F_l_draw := fun_mk (st := s_l_draw) l_l_draw co_l_draw k_l_draw
  have b_l_draw := F_l_draw.binds (ps := ["cell", "k", "bound"]) fun _ _ _ _ _ _ us hl => match us, hl with | [_, _, _], _ => rfl
  have F_l_whole := fun_mk (st := s_l_whole) l_l_whole co_l_whole k_l_whole
  have b_l_whole := F_l_whole.binds (ps := ["found"]) fun _ _ _ _ _ _ us hl => match us, hl with | [_], _ => rfl
  have F_l_ring_by := fun_mk (st := s_l_ring_by) l_l_ring_by co_l_ring_by k_l_ring_by
  have b_l_ring_by := F_l_ring_by.binds (ps := ["script", "first"]) fun _ _ _ _ _ _ us hl => match us, hl with | [_, _], _ => rfl
  have F_l_gaps := fun_mk (st := s_l_gaps) l_l_gaps co_l_gaps k_l_gaps
  have b_l_gaps := F_l_gaps.binds (ps := ["ring"]) fun _ _ _ _ _ _ us hl => match us, hl with | [_], _ => rfl
  have F_l_is := fun_mk (st := s_l_is) l_l_is co_l_is k_l_is
  have b_l_is := F_l_is.binds (ps := ["found", "due"]) fun _ _ _ _ _ _ us hl => match us, hl with | [_, _], _ => rfl
  have F_l_halved := fun_mk (st := s_l_halved) l_l_halved co_l_halved k_l_halved
  have b_l_halved := F_l_halved.binds (ps := ["ring"]) fun _ _ _ _ _ _ us hl => match us, hl with | [_], _ => rfl
  have F_l_is_parting := fun_mk (st := s_l_is_parting) l_l_is_parting co_l_is_parting k_l_is_parting
  have b_l_is_parting := F_l_is_parting.binds (ps := ["found", "ring"]) fun _ _ _ _ _ _ us hl => match us, hl with | [_, _], _ => rfl
  have F_l_is_ahead := fun_mk (st := s_l_is_ahead) l_l_is_ahead co_l_is_ahead k_l_is_ahead
  have b_l_is_ahead := F_l_is_ahead.binds (ps := ["found", "ring"]) fun _ _ _ _ _ _ us hl => match us, hl with | [_, _], _ => rfl
  have F_law := fun_mk (st := s_law) l_law co_law k_law
  have b_law := F_law.binds (ps := ["script"]) fun _ _ _ _ _ _ us hl => match us, hl with | [_], _ => rfl
  let T : Txt K mg := {
    f_asked := _, d_asked := _, F_asked := F_asked, b_asked := b_asked, g_asked := PySem.W.mg_of X G a_asked,
    f_parting := _, d_parting := _, F_parting := F_parting, b_parting := b_parting, g_parting := PySem.W.mg_of X G a_parting,
    f_ahead := _, d_ahead := _, F_ahead := F_ahead, b_ahead := b_ahead, g_ahead := PySem.W.mg_of X G a_ahead,
    f_l_cell_at := _, d_l_cell_at := _, F_l_cell_at := F_l_cell_at, b_l_cell_at := b_l_cell_at, g_l_cell_at := PySem.W.mg_of X G a_l_cell_at,
    f_l_draw := _, d_l_draw := _, F_l_draw := F_l_draw, b_l_draw := b_l_draw, g_l_draw := PySem.W.mg_of X G a_l_draw,
    f_l_whole := _, d_l_whole := _, F_l_whole := F_l_whole, b_l_whole := b_l_whole, g_l_whole := PySem.W.mg_of X G a_l_whole,
    f_l_ring_by := _, d_l_ring_by := _, F_l_ring_by := F_l_ring_by, b_l_ring_by := b_l_ring_by, g_l_ring_by := PySem.W.mg_of X G a_l_ring_by,
    f_l_gaps := _, d_l_gaps := _, F_l_gaps := F_l_gaps, b_l_gaps := b_l_gaps, g_l_gaps := PySem.W.mg_of X G a_l_gaps,
    f_l_is := _, d_l_is := _, F_l_is := F_l_is, b_l_is := b_l_is, g_l_is := PySem.W.mg_of X G a_l_is,
    f_l_halved := _, d_l_halved := _, F_l_halved := F_l_halved, b_l_halved := b_l_halved, g_l_halved := PySem.W.mg_of X G a_l_halved,
    f_l_is_parting := _, d_l_is_parting := _, F_l_is_parting := F_l_is_parting, b_l_is_parting := b_l_is_parting, g_l_is_parting := PySem.W.mg_of X G a_l_is_parting,
    f_l_is_ahead := _, d_l_is_ahead := _, F_l_is_ahead := F_l_is_ahead, b_l_is_ahead := b_l_is_ahead, g_l_is_ahead := PySem.W.mg_of X G a_l_is_ahead,
    f_law := _, d_law := _, F_law := F_law, b_law := b_law, g_law := PySem.W.mg_of X G a_law,
    c_FEWEST := ⟨_, PySem.W.mg_of X G c_FEWEST⟩,
    c_MOST := ⟨_, PySem.W.mg_of X G c_MOST⟩,
    c_GREATEST := ⟨_, PySem.W.mg_of X G c_GREATEST⟩,
    z_abs := PySem.W.mg_none_of X G z_abs,
    z_bool := PySem.W.mg_none_of X G z_bool,
    z_int := PySem.W.mg_none_of X G z_int,
    z_isinstance := PySem.W.mg_none_of X G z_isinstance,
    z_len := PySem.W.mg_none_of X G z_len,
    z_list := PySem.W.mg_none_of X G z_list,
    z_min := PySem.W.mg_none_of X G z_min,
    z_range := PySem.W.mg_none_of X G z_range,
    z_reversed := PySem.W.mg_none_of X G z_reversed,
    z_sum := PySem.W.mg_none_of X G z_sum,
    z_zip := PySem.W.mg_none_of X G z_zip }
  exact ⟨PySem.W.fnOf "law" "law" (defArgs s_law) (defBody s_law) (defScope s_law) .none kV_law dc_law pm_law an_law cd_law ct_law, fun s v => .of_eq rfl, fun base _ _ => ok_law T⟩
end GK
open PySem PySem.W PyProof.Rows
set_option maxHeartbeats 0 in
theorem PySem.Challenge.cw_gapring_k07_what_was_ahead_holds : PySem.Challenge.rw_gapring_k07_what_was_ahead.Holds := by
  w_on; o_law; k_head; (case hw => w_witness2)
  k_fill
  refine L2.walk_of (l := PySem.Challenge.rw_gapring_k07_what_was_ahead) (n := 63) (k := 4) (x := "script") (CX := fun _ => L2.CX0) (sp := fun w => GK.sp_law _) rfl (by decide) rfl ⟨rfl, by decide, by decide⟩ (fun w h Y => PySem.W.kIn_of Y) ?F (fun _ _ a ns hl _ hS => ⟨a, ns, rfl, hS, hl, fun _ => rfl⟩) (fun _ _ _ _ _ h => h)
  case F =>
    intro w mg fa h KX G hmg
    refine' GK.all_mk KX G hmg ?a_asked ?l_asked ?co_asked ?k_asked ?a_parting ?l_parting ?co_parting ?k_parting ?a_ahead ?l_ahead ?co_ahead ?k_ahead ?a_l_cell_at ?l_l_cell_at ?co_l_cell_at ?k_l_cell_at ?a_l_draw ?l_l_draw ?co_l_draw ?k_l_draw ?a_l_whole ?l_l_whole ?co_l_whole ?k_l_whole ?a_l_ring_by ?l_l_ring_by ?co_l_ring_by ?k_l_ring_by ?a_l_gaps ?l_l_gaps ?co_l_gaps ?k_l_gaps ?a_l_is ?l_l_is ?co_l_is ?k_l_is ?a_l_halved ?l_l_halved ?co_l_halved ?k_l_halved ?a_l_is_parting ?l_l_is_parting ?co_l_is_parting ?k_l_is_parting ?a_l_is_ahead ?l_l_is_ahead ?co_l_is_ahead ?k_l_is_ahead ?a_law ?l_law ?co_law ?k_law ?c_FEWEST ?c_MOST ?c_GREATEST ?z_abs ?z_bool ?z_int ?z_isinstance ?z_len ?z_list ?z_min ?z_range ?z_reversed ?z_sum ?z_zip
    (case a_asked => k_is)
    (case l_asked => k_is)
    (case co_asked => k_is)
    (case k_asked => k_is)
    (case a_parting => k_is)
    (case l_parting => k_is)
    (case co_parting => k_is)
    (case k_parting => k_is)
    (case a_ahead => k_is)
    (case l_ahead => k_is)
    (case co_ahead => k_is)
    (case k_ahead => k_is)
    (case a_l_cell_at => k_is)
    (case l_l_cell_at => k_is)
    (case co_l_cell_at => k_is)
    (case k_l_cell_at => k_is)
    (case a_l_draw => k_is)
    (case l_l_draw => k_is)
    (case co_l_draw => k_is)
    (case k_l_draw => k_is)
    (case a_l_whole => k_is)
    (case l_l_whole => k_is)
    (case co_l_whole => k_is)
    (case k_l_whole => k_is)
    (case a_l_ring_by => k_is)
    (case l_l_ring_by => k_is)
    (case co_l_ring_by => k_is)
    (case k_l_ring_by => k_is)
    (case a_l_gaps => k_is)
    (case l_l_gaps => k_is)
    (case co_l_gaps => k_is)
    (case k_l_gaps => k_is)
    (case a_l_is => k_is)
    (case l_l_is => k_is)
    (case co_l_is => k_is)
    (case k_l_is => k_is)
    (case a_l_halved => k_is)
    (case l_l_halved => k_is)
    (case co_l_halved => k_is)
    (case k_l_halved => k_is)
    (case a_l_is_parting => k_is)
    (case l_l_is_parting => k_is)
    (case co_l_is_parting => k_is)
    (case k_l_is_parting => k_is)
    (case a_l_is_ahead => k_is)
    (case l_l_is_ahead => k_is)
    (case co_l_is_ahead => k_is)
    (case k_l_is_ahead => k_is)
    (case a_law => k_is)
    (case l_law => k_is)
    (case co_law => k_is)
    (case k_law => k_is)
    (case c_FEWEST => k_is)
    (case c_MOST => k_is)
    (case c_GREATEST => k_is)
    (case z_abs => k_is)
    (case z_bool => k_is)
    (case z_int => k_is)
    (case z_isinstance => k_is)
    (case z_len => k_is)
    (case z_list => k_is)
    (case z_min => k_is)
    (case z_range => k_is)
    (case z_reversed => k_is)
    (case z_sum => k_is)
    (case z_zip => k_is)
