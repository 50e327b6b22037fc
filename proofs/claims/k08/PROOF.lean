import PyProof.Rows.All
import Wide.All
import OpenK.AllK
import Wide.FinOn
import PySem.Challenge.RW_gapring_k08_whole_each_gap_ring_has_one
import HandS.ForMost
import HandS.IsInst
import KE.KDictDisplayH
import HandS.Rev
import HandS.RevRange
import HandS.Zip
import HandS.Conv
set_option Elab.async false
set_option linter.all false
set_option maxRecDepth 100000
set_option maxHeartbeats 8000000
/-! Rings of numbers and their gaps: plain mathematics. -/
namespace GR
abbrev Fn := Int → Int
def D (r : Fn) : Fn := fun i => ((r i - r (i + 1)).natAbs : Int)
def itD : Nat → Fn → Fn
  | 0, r => r
  | t + 1, r => itD t (D r)
theorem itD_add (t u : Nat) (r : Fn) : itD (t + u) r = itD u (itD t r) := by
  induction t generalizing r with
  | zero => rw [Nat.zero_add]; rfl
  | succ t ih => rw [Nat.succ_add]; exact ih (D r)
theorem itD_succ (t : Nat) (r : Fn) : itD (t + 1) r = D (itD t r) := itD_add t 1 r
/-! ### lists -/
def gp (ns : List Int) : List Int := (List.range ns.length).map fun k => ((ns.getD k 0 - ns.getD ((k + 1) % ns.length) 0).natAbs : Int)
def it : Nat → List Int → List Int
  | 0, l => l
  | t + 1, l => it t (gp l)
theorem it_add (t u : Nat) (r : List Int) : it (t + u) r = it u (it t r) := by
  induction t generalizing r with
  | zero => rw [Nat.zero_add]; rfl
  | succ t ih => rw [Nat.succ_add]; exact ih (gp r)
theorem it_succ (t : Nat) (r : List Int) : it (t + 1) r = gp (it t r) := it_add t 1 r
theorem gp_length (ns : List Int) : (gp ns).length = ns.length := by
  unfold gp
  rw [List.length_map, List.length_range]
theorem it_length (t : Nat) (ns : List Int) : (it t ns).length = ns.length := by
  induction t generalizing ns with
  | zero => rfl
  | succ t ih => exact (ih (gp ns)).trans (gp_length ns)
theorem gp_get {ns : List Int} {k : Nat} (h : k < ns.length) : (gp ns).getD k 0 = ((ns.getD k 0 - ns.getD ((k + 1) % ns.length) 0).natAbs : Int) := by
  unfold gp
  rw [List.getD_eq_getElem?_getD, List.getElem?_map, List.getElem?_range h]
  rfl
/-- a list, round and round -/
def fn (ns : List Int) : Fn := fun i => ns.getD (i % (ns.length : Int)).toNat 0
theorem fn_nat {ns : List Int} {k : Nat} (h : k < ns.length) : fn ns (k : Int) = ns.getD k 0 := by
  unfold fn
  have e : ((k : Int) % (ns.length : Int)).toNat = k := by
    rw [← Int.natCast_emod, Int.toNat_natCast]
    exact Nat.mod_eq_of_lt h
  rw [e]
theorem fn_per (ns : List Int) (i : Int) : fn ns (i + ns.length) = fn ns i := by
  unfold fn
  rw [Int.add_emod_right]
theorem fn_mod (ns : List Int) (i : Int) : fn ns (i % (ns.length : Int)) = fn ns i := by
  unfold fn
  rw [Int.emod_emod]
theorem fn_at {ns : List Int} (h : 0 < ns.length) (i : Int) : ∃ k, k < ns.length ∧ ((k : Int) = i % (ns.length : Int)) ∧ fn ns i = ns.getD k 0 := by
  have h0 : (0 : Int) ≤ i % (ns.length : Int) := Int.emod_nonneg _ (by omega)
  have h1 : i % (ns.length : Int) < (ns.length : Int) := Int.emod_lt_of_pos _ (by omega)
  refine ⟨(i % (ns.length : Int)).toNat, by omega, by omega, rfl⟩
theorem list_ext {ns ms : List Int} (hl : ns.length = ms.length) (h : fn ns = fn ms) : ns = ms := by
  apply List.ext_getElem hl
  intro k h1 h2
  have e := congrFun h (k : Int)
  rw [fn_nat h1, fn_nat h2] at e
  rw [List.getD_eq_getElem?_getD, List.getD_eq_getElem?_getD, List.getElem?_eq_getElem h1, List.getElem?_eq_getElem h2] at e
  exact e
theorem list_ext' {ns ms : List Int} (hl : ns.length = ms.length) (h : ∀ k, k < ns.length → ns.getD k 0 = ms.getD k 0) : ns = ms := by
  apply List.ext_getElem hl
  intro k h1 h2
  have e := h k h1
  rw [List.getD_eq_getElem?_getD, List.getD_eq_getElem?_getD, List.getElem?_eq_getElem h1, List.getElem?_eq_getElem h2] at e
  exact e
theorem fn_gp (ns : List Int) : fn (gp ns) = D (fn ns) := by
  by_cases h : 0 < ns.length
  · funext i
    obtain ⟨k, hk, ek, e⟩ := fn_at (ns := gp ns) (by rw [gp_length]; exact h) i
    rw [gp_length] at hk ek
    rw [e, gp_get hk]
    unfold D
    have e1 : fn ns i = ns.getD k 0 := by
      rw [← fn_mod, ← ek, fn_nat hk]
    have hm : (k + 1) % ns.length < ns.length := Nat.mod_lt _ h
    have e2 : fn ns (i + 1) = ns.getD ((k + 1) % ns.length) 0 := by
      rw [← fn_nat hm, Int.natCast_emod, fn_mod, ← fn_mod ns (i + 1), ← fn_mod ns (((k + 1 : Nat) : Int))]
      congr 1
      rw [Int.natCast_add, ek]
      exact (Int.emod_add_emod i (ns.length : Int) 1).symm
    rw [e1, e2]
  · have e : ns = [] := List.length_eq_zero_iff.mp (by omega)
    subst e
    funext i
    show fn [] i = D (fn []) i
    unfold D fn
    simp
theorem fn_it (t : Nat) (ns : List Int) : fn (it t ns) = itD t (fn ns) := by
  induction t generalizing ns with
  | zero => rfl
  | succ t ih =>
    show fn (it t (gp ns)) = itD t (D (fn ns))
    rw [ih, fn_gp]
/-! ### bounds -/
def Bd (m : Int) (r : Fn) : Prop := ∀ i, 0 ≤ r i ∧ r i ≤ m
theorem Bd.D {m : Int} {r : Fn} (h : Bd m r) : Bd m (D r) := fun i => by
  have h1 := h i
  have h2 := h (i + 1)
  unfold GR.D
  omega
theorem Bd.itD {m : Int} {r : Fn} (h : Bd m r) (t : Nat) : Bd m (itD t r) := by
  induction t generalizing r with
  | zero => exact h
  | succ t ih => exact ih h.D
def Bl (m : Int) (ns : List Int) : Prop := ∀ x ∈ ns, 0 ≤ x ∧ x ≤ m
theorem Bl.get {m : Int} {ns : List Int} (h : Bl m ns) {k : Nat} (hk : k < ns.length) : 0 ≤ ns.getD k 0 ∧ ns.getD k 0 ≤ m := by
  rw [List.getD_eq_getElem?_getD, List.getElem?_eq_getElem hk]
  exact h _ (List.getElem_mem hk)
theorem Bl.fn {m : Int} {ns : List Int} (h : Bl m ns) (hp : 0 < ns.length) : Bd m (fn ns) := fun i => by
  obtain ⟨k, hk, _, e⟩ := fn_at hp i
  rw [e]
  exact h.get hk
theorem mem_getD {ns : List Int} {x : Int} (h : x ∈ ns) : ∃ k, k < ns.length ∧ ns.getD k 0 = x := by
  obtain ⟨k, hk, e⟩ := List.getElem_of_mem h
  refine ⟨k, hk, ?_⟩
  rw [List.getD_eq_getElem?_getD, List.getElem?_eq_getElem hk]
  exact e
theorem getD_mem {ns : List Int} {k : Nat} (hk : k < ns.length) : ns.getD k 0 ∈ ns := by
  rw [List.getD_eq_getElem?_getD, List.getElem?_eq_getElem hk]
  exact List.getElem_mem hk
theorem Bl.of_fn {m : Int} {ns : List Int} (h : Bd m (GR.fn ns)) : Bl m ns := fun x hx => by
  obtain ⟨k, hk, e⟩ := mem_getD hx
  have q := h (k : Int)
  rw [fn_nat hk, e] at q
  exact q
theorem Bl.gp {m : Int} {ns : List Int} (h : Bl m ns) : Bl m (gp ns) := by
  by_cases hp : 0 < ns.length
  · refine Bl.of_fn ?_
    rw [fn_gp]
    exact (h.fn hp).D
  · have e : ns = [] := List.length_eq_zero_iff.mp (by omega)
    subst e
    exact fun x hx => nomatch hx
theorem Bl.it {m : Int} {ns : List Int} (h : Bl m ns) (t : Nat) : Bl m (it t ns) := by
  induction t generalizing ns with
  | zero => exact h
  | succ t ih => exact ih h.gp
structure Ring (ns : List Int) : Prop where
  lo : 3 ≤ ns.length
  hi : ns.length ≤ 16
  bd : Bl 1000 ns
theorem Ring.gpR {ns : List Int} (R : Ring ns) : Ring (gp ns) := ⟨by rw [gp_length]; exact R.lo, by rw [gp_length]; exact R.hi, R.bd.gp⟩
theorem Ring.itR {ns : List Int} (R : Ring ns) (t : Nat) : Ring (it t ns) := ⟨by rw [it_length]; exact R.lo, by rw [it_length]; exact R.hi, R.bd.it t⟩
theorem Ring.pos {ns : List Int} (R : Ring ns) : 0 < ns.length := Nat.lt_of_lt_of_le (by decide) R.lo
/-! ### every ring comes to a flat one -/
theorem itD_le {m : Int} {r : Fn} (h : Bd m r) (k : Nat) (i : Int) : ∃ j : Int, i ≤ j ∧ j ≤ i + k ∧ itD k r i ≤ r j := by
  induction k generalizing r with
  | zero => exact ⟨i, Int.le_refl _, by omega, Int.le_refl _⟩
  | succ k ih =>
    obtain ⟨j, h1, h2, h3⟩ := ih h.D
    have a := h j
    have b := h (j + 1)
    have e : D r j = ((r j - r (j + 1)).natAbs : Int) := rfl
    by_cases c : r j ≤ r (j + 1)
    · exact ⟨j + 1, by omega, by omega, by show itD k (D r) i ≤ r (j + 1); omega⟩
    · exact ⟨j, by omega, by omega, by show itD k (D r) i ≤ r j; omega⟩
def Two (m : Int) (r : Fn) (i j : Int) : Prop := ∀ l, i ≤ l → l ≤ j → r l = 0 ∨ r l = m
theorem two_up {m : Int} {r : Fn} (h : Bd m r) {i : Int} {k : Nat} (hd : Two m (D r) i (i + k)) {j : Int} (h1 : i ≤ j) (hj : r j = 0 ∨ r j = m) (n : Nat) (h2 : j + n ≤ i + k + 1) : r (j + n) = 0 ∨ r (j + n) = m := by
  induction n with
  | zero => simpa using hj
  | succ n ih =>
    have q := ih (by omega)
    have d := hd (j + n) (by omega) (by omega)
    have e : D r (j + n) = ((r (j + n) - r (j + n + 1)).natAbs : Int) := rfl
    have b := h (j + n + 1)
    have b0 := h (j + n)
    have e1 : j + ((n + 1 : Nat) : Int) = j + n + 1 := by omega
    rw [e1]
    omega
theorem two_down {m : Int} {r : Fn} (h : Bd m r) {i : Int} {k : Nat} (hd : Two m (D r) i (i + k)) {j : Int} (hj : r j = 0 ∨ r j = m) (h2 : j ≤ i + k + 1) (n : Nat) (h1 : i ≤ j - n) : r (j - n) = 0 ∨ r (j - n) = m := by
  induction n with
  | zero => simpa using hj
  | succ n ih =>
    have q := ih (by omega)
    have d := hd (j - n - 1) (by omega) (by omega)
    have e : D r (j - n - 1) = ((r (j - n - 1) - r (j - n - 1 + 1)).natAbs : Int) := rfl
    have e0 : j - n - 1 + 1 = j - n := by omega
    rw [e0] at e
    have b := h (j - n - 1)
    have b0 := h (j - n)
    have e1 : j - ((n + 1 : Nat) : Int) = j - n - 1 := by omega
    rw [e1]
    omega
theorem two_of {m : Int} {r : Fn} (h : Bd m r) (hm : 0 < m) (k : Nat) (i : Int) (e : itD k r i = m) : Two m r i (i + k) := by
  induction k generalizing r with
  | zero =>
    intro l h1 h2
    have z : l = i := by omega
    subst z
    exact .inr e
  | succ k ih =>
    have hd : Two m (D r) i (i + k) := ih h.D e
    obtain ⟨j, h1, h2, h3⟩ := itD_le h.D k i
    have e' : itD k (D r) i = m := e
    have b := h.D j
    have ej : D r j = m := by omega
    have ej' : D r j = ((r j - r (j + 1)).natAbs : Int) := rfl
    have b1 := h j
    have b2 := h (j + 1)
    have z : r j = 0 ∨ r j = m := by omega
    intro l hl1 hl2
    by_cases c : j ≤ l
    · have q := two_up h hd h1 z (l - j).toNat (by omega)
      have e1 : j + ((l - j).toNat : Int) = l := by omega
      rw [e1] at q
      exact q
    · have q := two_down h hd z (by omega) (j - l).toNat (by omega)
      have e1 : j - ((j - l).toNat : Int) = l := by omega
      rw [e1] at q
      exact q
def Flat (m : Int) (r : Fn) : Prop := ∀ i, r i = 0 ∨ r i = m
theorem Flat.D {m : Int} {r : Fn} (hm : 0 ≤ m) (h : Flat m r) : Flat m (D r) := fun i => by
  have h1 := h i
  have h2 := h (i + 1)
  unfold GR.D
  omega
theorem Flat.itD {m : Int} {r : Fn} (hm : 0 ≤ m) (h : Flat m r) (t : Nat) : Flat m (itD t r) := by
  induction t generalizing r with
  | zero => exact h
  | succ t ih => exact ih (h.D hm)
def Per (n : Nat) (r : Fn) : Prop := ∀ i, r (i + n) = r i
theorem Per.D {n : Nat} {r : Fn} (h : Per n r) : Per n (D r) := fun i => by
  unfold GR.D
  rw [h i, show i + (n : Int) + 1 = (i + 1) + n by omega, h (i + 1)]
theorem Per.itD {n : Nat} {r : Fn} (h : Per n r) (t : Nat) : Per n (itD t r) := by
  induction t generalizing r with
  | zero => exact h
  | succ t ih => exact ih h.D
theorem Per.mul {n : Nat} {r : Fn} (h : Per n r) (k : Nat) (i : Int) : r (i + k * n) = r i := by
  induction k with
  | zero => simp
  | succ k ih =>
    rw [show i + ((k + 1 : Nat) : Int) * n = (i + k * n) + n by rw [Int.natCast_add, Int.add_mul]; omega, h, ih]
theorem Per.mod {n : Nat} {r : Fn} (h : Per n r) (i : Int) : r (i % n) = r i := by
  have e := Int.emod_add_mul_ediv i n
  by_cases c : 0 ≤ i / n
  · have q := h.mul (i / n).toNat (i % n)
    rw [Int.toNat_of_nonneg c, Int.mul_comm (i / (n : Int)) (n : Int), e] at q
    exact q.symm
  · have q := h.mul (-(i / n)).toNat i
    rw [Int.toNat_of_nonneg (by omega), Int.neg_mul, Int.mul_comm (i / (n : Int)) (n : Int)] at q
    rw [← q]
    congr 1
    omega
theorem Per.win {n : Nat} {r : Fn} (h : Per n r) (hn : 0 < n) (i l : Int) : ∃ j, i ≤ j ∧ j < i + n ∧ r l = r j := by
  refine ⟨i + (l - i) % n, ?_, ?_, ?_⟩
  · have := Int.emod_nonneg (l - i) (b := (n : Int)) (by omega)
    omega
  · have := Int.emod_lt_of_pos (l - i) (b := (n : Int)) (by omega)
    omega
  · have s : Per n (fun x => r (i + x)) := fun x => by
      show r (i + (x + n)) = r (i + x)
      rw [← Int.add_assoc]
      exact h _
    have q := s.mod (l - i)
    have e : i + (l - i) = l := by omega
    simp only [e] at q
    exact q.symm
theorem flat_step {m : Int} {n : Nat} {r : Fn} (h : Bd (m + 1) r) (hm : 0 ≤ m) (hp : Per n r) (hn : 0 < n) (k : Nat) (hk : n ≤ k + 1) : Flat (m + 1) r ∨ Bd m (itD k r) := by
  by_cases c : ∃ i, itD k r i = m + 1
  · obtain ⟨i, e⟩ := c
    refine .inl fun l => ?_
    obtain ⟨j, h1, h2, h3⟩ := hp.win hn i l
    rw [h3]
    exact two_of h (by omega) k i e j h1 (by omega)
  · refine .inr fun i => ?_
    have b := h.itD k i
    have q : itD k r i ≠ m + 1 := fun z => c ⟨i, z⟩
    omega
theorem flat_by {n : Nat} {r : Fn} (hp : Per n r) (hn : 0 < n) (hn16 : n ≤ 16) (m : Nat) (h : Bd m r) : ∃ c : Int, 0 ≤ c ∧ c ≤ m ∧ Flat c (itD (15 * m) r) := by
  induction m generalizing r with
  | zero =>
    refine ⟨0, Int.le_refl _, by simp, fun i => ?_⟩
    have q := h i
    show r i = 0 ∨ r i = 0
    have z : ((0 : Nat) : Int) = 0 := rfl
    omega
  | succ m ih =>
    rcases flat_step (m := m) (k := 15) h (by omega) hp hn (by omega) with f | b
    · exact ⟨(m : Int) + 1, by omega, by omega, f.itD (by omega) _⟩
    · obtain ⟨c, h1, h2, h3⟩ := ih (hp.itD 15) b
      refine ⟨c, h1, by omega, ?_⟩
      rw [show 15 * (m + 1) = 15 + 15 * m by omega, itD_add]
      exact h3
/-! ### drawers -/
theorem drawers : ∀ (N n : Nat) (f : Nat → Nat), (∀ i, i < n → f i < N) → (∀ i j, i < j → j < n → f i ≠ f j) → n ≤ N
  | 0, n, f, h, _ => by
    cases n with
    | zero => exact Nat.le_refl _
    | succ n => exact absurd (h 0 (by omega)) (by omega)
  | N + 1, n, f, h, q => by
    cases n with
    | zero => exact Nat.zero_le _
    | succ n =>
      have r := drawers N n (fun i => if f i > f n then f i - 1 else f i) (fun i hi => by
          have a := h i (by omega)
          have b := h n (by omega)
          have c := q i n hi (by omega)
          show (if f i > f n then f i - 1 else f i) < N
          split <;> omega) (fun i j hij hj => by
          have a := q i j hij (by omega)
          have b := q i n (by omega) (by omega)
          have c := q j n (by omega) (by omega)
          show (if f i > f n then f i - 1 else f i) ≠ (if f j > f n then f j - 1 else f j)
          split <;> split <;> omega)
      omega
def code : List Int → Nat
  | [] => 0
  | x :: r => (if x = 0 then 0 else 1) + 2 * code r
theorem code_lt (l : List Int) : code l < 2 ^ l.length := by
  induction l with
  | nil => decide
  | cons x r ih =>
    show (if x = 0 then 0 else 1) + 2 * code r < 2 ^ (r.length + 1)
    rw [Nat.pow_succ]
    split <;> omega
theorem code_inj {c : Int} : ∀ {l m : List Int}, l.length = m.length → (∀ x ∈ l, x = 0 ∨ x = c) → (∀ x ∈ m, x = 0 ∨ x = c) → code l = code m → l = m
  | [], [], _, _, _, _ => rfl
  | x :: l, y :: m, hl, h1, h2, e => by
    have e : (if x = 0 then 0 else 1) + 2 * code l = (if y = 0 then 0 else 1) + 2 * code m := e
    have hx := h1 x (by simp)
    have hy := h2 y (by simp)
    have ec : code l = code m := by
      split at e <;> split at e <;> omega
    have exy : x = y := by
      rw [ec] at e
      split at e <;> split at e <;> omega
    rw [exy, code_inj (by simpa using hl) (fun z hz => h1 z (by simp [hz])) (fun z hz => h2 z (by simp [hz])) ec]
/-! ### the walk: how far all rings are unlike, and the place of the one that comes again -/
structure Wk (ns : List Int) (L T : Nat) : Prop where
  inj : ∀ i j, i < j → j < L → it i ns ≠ it j ns
  lt : T < L
  eq : it L ns = it T ns
theorem wk_or (ns : List Int) (n : Nat) : (∀ i j, i < j → j < n → it i ns ≠ it j ns) ∨ ∃ L T, L < n ∧ Wk ns L T := by
  induction n with
  | zero => exact .inl fun i j _ h => absurd h (Nat.not_lt_zero _)
  | succ n ih =>
    rcases ih with h | ⟨L, T, a, b⟩
    · by_cases c : ∃ i, i < n ∧ it n ns = it i ns
      · obtain ⟨i, hi, e⟩ := c
        exact .inr ⟨n, i, Nat.lt_succ_self n, h, hi, e⟩
      · refine .inl fun i j hij hj => ?_
        by_cases z : j = n
        · subst z
          exact fun e => c ⟨i, hij, e.symm⟩
        · exact h i j hij (by omega)
    · exact .inr ⟨L, T, by omega, b⟩
theorem Ring.flat {ns : List Int} (R : Ring ns) : ∃ c : Int, 0 ≤ c ∧ c ≤ 1000 ∧ ∀ t, 15000 ≤ t → Flat c (fn (it t ns)) := by
  obtain ⟨c, h1, h2, h3⟩ := flat_by (n := ns.length) (r := fn ns) (fn_per ns) R.pos R.hi 1000 (R.bd.fn R.pos)
  refine ⟨c, h1, by omega, fun t ht => ?_⟩
  rw [fn_it, show t = 15 * 1000 + (t - 15000) by omega, itD_add]
  exact h3.itD h1 _
theorem Flat.mem {c : Int} {ns : List Int} (h : Flat c (fn ns)) : ∀ x ∈ ns, x = 0 ∨ x = c := fun x hx => by
  obtain ⟨k, hk, e⟩ := mem_getD hx
  have q := h (k : Int)
  rw [fn_nat hk, e] at q
  exact q
theorem Ring.bound {ns : List Int} (R : Ring ns) {n : Nat} (h : ∀ i j, i < j → j < n → it i ns ≠ it j ns) : n ≤ 80536 := by
  obtain ⟨c, h1, h2, h3⟩ := R.flat
  have q := drawers 65536 (n - 15000) (fun i => code (it (15000 + i) ns)) (fun i hi => by
      have a := code_lt (it (15000 + i) ns)
      rw [it_length] at a
      exact Nat.lt_of_lt_of_le a (Nat.pow_le_pow_right (by decide) R.hi)) (fun i j hij hj e => by
      refine h (15000 + i) (15000 + j) (by omega) (by omega) (code_inj (c := c) (by rw [it_length, it_length]) (h3 _ (by omega)).mem (h3 _ (by omega)).mem e))
  omega
theorem Ring.walk {ns : List Int} (R : Ring ns) : ∃ L T, L ≤ 80536 ∧ Wk ns L T := by
  rcases wk_or ns 80537 with h | ⟨L, T, a, b⟩
  · have := R.bound h
    omega
  · exact ⟨L, T, by omega, b⟩
theorem Wk.unique {ns : List Int} {L T L' T' : Nat} (w : Wk ns L T) (w' : Wk ns L' T') : L = L' ∧ T = T' := by
  have e : L = L' := by
    rcases Nat.lt_trichotomy L L' with h | h | h
    · exact absurd w.eq.symm (w'.inj T L w.lt h)
    · exact h
    · exact absurd w'.eq.symm (w.inj T' L' w'.lt h)
  subst e
  refine ⟨rfl, ?_⟩
  have e2 : it T ns = it T' ns := w.eq.symm.trans w'.eq
  rcases Nat.lt_trichotomy T T' with h | h | h
  · exact absurd e2 (w.inj T T' h w'.lt)
  · exact h
  · exact absurd e2.symm (w.inj T' T h w.lt)
theorem Wk.le {ns : List Int} {L T : Nat} (w : Wk ns L T) (R : Ring ns) : L ≤ 80536 := R.bound w.inj
theorem it_shift {ns : List Int} {t p : Nat} (h : it (t + p) ns = it t ns) (u : Nat) (hu : t ≤ u) : it (u + p) ns = it u ns := by
  rw [show u + p = (t + p) + (u - t) by omega, it_add, h, ← it_add]
  congr 1
  omega
theorem it_shift_mul {ns : List Int} {t p : Nat} (h : it (t + p) ns = it t ns) (k : Nat) (u : Nat) (hu : t ≤ u) : it (u + k * p) ns = it u ns := by
  induction k with
  | zero => simp
  | succ k ih =>
    rw [show u + (k + 1) * p = (u + k * p) + p by rw [Nat.succ_mul]; omega, it_shift h _ (by omega), ih]
theorem Wk.per {ns : List Int} {L T : Nat} (w : Wk ns L T) : it (T + (L - T)) ns = it T ns := by
  have h := w.lt
  rw [show T + (L - T) = L by omega]
  exact w.eq
theorem Wk.red {ns : List Int} {L T t : Nat} (w : Wk ns L T) (h : T ≤ t) : it (T + (t - T) % (L - T)) ns = it t ns := by
  have e := Nat.mod_add_div (t - T) (L - T)
  have q := it_shift_mul w.per ((t - T) / (L - T)) (T + (t - T) % (L - T)) (by omega)
  rw [← q]
  congr 1
  rw [Nat.mul_comm]
  omega
/-- every ring behind some turns stands in the walk -/
theorem Wk.all {ns : List Int} {L T : Nat} (w : Wk ns L T) (t : Nat) : ∃ i, i < L ∧ it i ns = it t ns := by
  by_cases h : t < L
  · exact ⟨t, h, rfl⟩
  · have hl := w.lt
    refine ⟨T + (t - T) % (L - T), ?_, w.red (by omega)⟩
    have := Nat.mod_lt (t - T) (show 0 < L - T by omega)
    omega
/-- the tail: the least number of turns behind which a ring comes that comes again -/
theorem Wk.tail {ns : List Int} {L T t p : Nat} (w : Wk ns L T) (hp : 0 < p) (h : it (t + p) ns = it t ns) : T ≤ t := by
  refine Nat.le_of_not_lt fun c => ?_
  -- t < T: t itself stands alone among the first L; but it t = it (t + k p) for all k
  have hl := w.lt
  have q := it_shift_mul h L t (Nat.le_refl _)
  have hb : T ≤ t + L * p := by
    have : L * 1 ≤ L * p := Nat.mul_le_mul_left L hp
    omega
  have r := w.red hb
  rw [q] at r
  have m := Nat.mod_lt (t + L * p - T) (show 0 < L - T by omega)
  exact w.inj t (T + (t + L * p - T) % (L - T)) (by omega) (by omega) r.symm
theorem Wk.wheel {ns : List Int} {L T t p : Nat} (w : Wk ns L T) (h : it (t + p) ns = it t ns) (ht : T ≤ t) : (L - T) ∣ p := by
  have hl := w.lt
  have e1 := w.red (t := t) ht
  have e2 := w.red (t := t + p) (by omega)
  rw [h, ← e1] at e2
  have m1 := Nat.mod_lt (t - T) (show 0 < L - T by omega)
  have m2 := Nat.mod_lt (t + p - T) (show 0 < L - T by omega)
  have e3 : (t + p - T) % (L - T) = (t - T) % (L - T) := by
    rcases Nat.lt_trichotomy ((t + p - T) % (L - T)) ((t - T) % (L - T)) with c | c | c
    · exact absurd e2 (w.inj _ _ (by omega) (by omega))
    · exact c
    · exact absurd e2.symm (w.inj _ _ (by omega) (by omega))
  have e4 : (t + p - T) = (t - T) + p := by omega
  rw [e4] at e3
  have e5 : ((t - T) + p - (t - T)) % (L - T) = 0 := by
    have := Nat.sub_mod_eq_zero_of_mod_eq e3
    exact this
  rw [show (t - T) + p - (t - T) = p by omega] at e5
  exact Nat.dvd_of_mod_eq_zero e5
theorem Wk.mk_of {ns : List Int} {T P : Nat} (hp : 0 < P) (he : it (T + P) ns = it T ns) (ht : ∀ t p, 0 < p → it (t + p) ns = it t ns → T ≤ t) (hw : ∀ p, 0 < p → it (T + p) ns = it T ns → P ≤ p) : Wk ns (T + P) T := by
  refine ⟨fun i j hij hj e => ?_, by omega, he⟩
  have h1 : it (i + (j - i)) ns = it i ns := by
    rw [show i + (j - i) = j by omega]
    exact e.symm
  have h2 := ht i (j - i) (by omega) h1
  -- behind T the period is P
  have h3 := it_shift h1 (T + (P - (i - T) + (i - T)) - 0) (by omega)
  have h4 : it (T + (j - i)) ns = it T ns := by
    have a := it_shift_mul he (i + 1) T (Nat.le_refl _)
    have hb : i ≤ T + (i + 1) * P := by
      have : (i + 1) * 1 ≤ (i + 1) * P := Nat.mul_le_mul_left (i + 1) hp
      omega
    have b := it_shift h1 (T + (i + 1) * P) hb
    have c := it_shift_mul he (i + 1) (T + (j - i)) (by omega)
    rw [show T + (i + 1) * P + (j - i) = T + (j - i) + (i + 1) * P by omega, c, a] at b
    exact b
  have h5 := hw (j - i) (by omega) h4
  omega
end GR
/-! ### sums of some of the numbers -/
namespace GR
def SS (ns : List Int) : Nat → Int → Prop
  | 0, s => s = 0
  | k + 1, s => SS ns k s ∨ SS ns k (s - ns.getD k 0)
def Half (ns : List Int) : Prop := ns.sum % 2 = 0 ∧ SS ns ns.length (ns.sum / 2)
def psum : List Bool → List Int → Int
  | b :: bs, x :: xs => (if b then x else 0) + psum bs xs
  | _, _ => 0
theorem psum_snoc : ∀ {bs : List Bool} {xs : List Int} (b : Bool) (x : Int), bs.length = xs.length → psum (bs ++ [b]) (xs ++ [x]) = psum bs xs + (if b then x else 0)
  | [], [], b, x, _ => by
    show (if b then x else 0) + 0 = 0 + (if b then x else 0)
    omega
  | c :: bs, y :: xs, b, x, h => by
    have ih := psum_snoc (bs := bs) (xs := xs) b x (by simpa using h)
    show (if c then y else 0) + psum (bs ++ [b]) (xs ++ [x]) = (if c then y else 0) + psum bs xs + (if b then x else 0)
    rw [ih]
    omega
theorem take_snoc {α : Type} {l : List α} {k : Nat} {x : α} (h : l[k]? = some x) : l.take (k + 1) = l.take k ++ [x] := by
  rw [List.take_add_one, h]
  rfl
theorem getD_get {ns : List Int} {k : Nat} (h : k < ns.length) : ns[k]? = some (ns.getD k 0) := by
  rw [List.getD_eq_getElem?_getD, List.getElem?_eq_getElem h]
  rfl
theorem psum_take {bs : List Bool} {ns : List Int} (hl : bs.length = ns.length) {k : Nat} (h : k < ns.length) : psum (bs.take (k + 1)) (ns.take (k + 1)) = psum (bs.take k) (ns.take k) + (if bs.getD k false then ns.getD k 0 else 0) := by
  have e1 : bs[k]? = some (bs.getD k false) := by
    rw [List.getD_eq_getElem?_getD, List.getElem?_eq_getElem (by omega)]
    rfl
  rw [take_snoc e1, take_snoc (getD_get h), psum_snoc _ _ (by rw [List.length_take, List.length_take, hl])]
theorem SS_take {bs : List Bool} {ns : List Int} (hl : bs.length = ns.length) : ∀ k, k ≤ ns.length → SS ns k (psum (bs.take k) (ns.take k))
  | 0, _ => by
    show psum [] [] = 0
    rfl
  | k + 1, h => by
    have ih := SS_take hl k (by omega)
    rw [psum_take hl (by omega)]
    cases c : bs.getD k false with
    | true =>
      refine .inr ?_
      have e : psum (bs.take k) (ns.take k) + (if true = true then ns.getD k 0 else 0) - ns.getD k 0 = psum (bs.take k) (ns.take k) := by
        rw [if_pos rfl]
        omega
      rw [e]
      exact ih
    | false =>
      refine .inl ?_
      have e : psum (bs.take k) (ns.take k) + (if false = true then ns.getD k 0 else 0) = psum (bs.take k) (ns.take k) := by
        rw [if_neg (by decide)]
        omega
      rw [e]
      exact ih
theorem half_of {bs : List Bool} {ns : List Int} (hl : bs.length = ns.length) (h : 2 * psum bs ns = ns.sum) : Half ns := by
  have q := SS_take hl ns.length (Nat.le_refl _)
  rw [List.take_length, ← hl, List.take_length, hl] at q
  refine ⟨by omega, ?_⟩
  rw [show ns.sum / 2 = psum bs ns by omega]
  exact q
theorem sum_snoc (ns : List Int) (x : Int) : (ns ++ [x]).sum = ns.sum + x := by
  rw [List.sum_append]
  show ns.sum + (x + 0) = ns.sum + x
  omega
/-! ### a row whose gaps are the numbers -/
def rw1 (bs : List Bool) (ns : List Int) : Nat → Int
  | 0 => 0
  | k + 1 => rw1 bs ns k + (if bs.getD k false then ns.getD k 0 else - ns.getD k 0)
theorem rw1_eq {bs : List Bool} {ns : List Int} (hl : bs.length = ns.length) : ∀ k, k ≤ ns.length → rw1 bs ns k = 2 * psum (bs.take k) (ns.take k) - (ns.take k).sum
  | 0, _ => rfl
  | k + 1, h => by
    have ih := rw1_eq hl k (by omega)
    rw [psum_take hl (by omega), take_snoc (getD_get (show k < ns.length by omega)), sum_snoc]
    show rw1 bs ns k + _ = _
    rw [ih]
    cases bs.getD k false with
    | true =>
      rw [if_pos rfl, if_pos rfl]
      omega
    | false =>
      rw [if_neg (by decide), if_neg (by decide)]
      omega
theorem rw1_last {bs : List Bool} {ns : List Int} (hl : bs.length = ns.length) (h : 2 * psum bs ns = ns.sum) : rw1 bs ns ns.length = 0 := by
  rw [rw1_eq hl _ (Nat.le_refl _), List.take_length, ← hl, List.take_length]
  omega
def rowL (bs : List Bool) (ns : List Int) (m : Int) : List Int := (List.range ns.length).map fun k => rw1 bs ns k - m
theorem rowL_length (bs : List Bool) (ns : List Int) (m : Int) : (rowL bs ns m).length = ns.length := by
  unfold rowL
  rw [List.length_map, List.length_range]
theorem rowL_get {bs : List Bool} {ns : List Int} {m : Int} {k : Nat} (h : k < ns.length) : (rowL bs ns m).getD k 0 = rw1 bs ns k - m := by
  unfold rowL
  rw [List.getD_eq_getElem?_getD, List.getElem?_map, List.getElem?_range h]
  rfl
theorem rowL_gp {bs : List Bool} {ns : List Int} (m : Int) (hl : bs.length = ns.length) (h : 2 * psum bs ns = ns.sum) (h0 : ∀ x ∈ ns, 0 ≤ x) : gp (rowL bs ns m) = ns := by
  refine list_ext' (by rw [gp_length, rowL_length]) fun k hk => ?_
  rw [gp_length, rowL_length] at hk
  have hk' : k < (rowL bs ns m).length := by rw [rowL_length]; exact hk
  rw [gp_get hk', rowL_length, rowL_get hk]
  have hn := h0 _ (getD_mem hk)
  have e : (rowL bs ns m).getD ((k + 1) % ns.length) 0 = rw1 bs ns (k + 1) - m := by
    by_cases c : k + 1 < ns.length
    · rw [Nat.mod_eq_of_lt c, rowL_get c]
    · have ek : k + 1 = ns.length := by omega
      rw [ek, Nat.mod_self, rowL_get (by omega), rw1_last hl h]
      rfl
  rw [e]
  show ((rw1 bs ns k - m - (rw1 bs ns k + (if bs.getD k false then ns.getD k 0 else - ns.getD k 0) - m)).natAbs : Int) = ns.getD k 0
  cases bs.getD k false with
  | true =>
    rw [if_pos rfl]
    omega
  | false =>
    rw [if_neg (by decide)]
    omega
/-! ### each gap ring can have been come to -/
def ups (ns : List Int) (k : Nat) : Bool := decide (ns.getD ((k + 1) % ns.length) 0 ≤ ns.getD k 0)
theorem ups_step {ns : List Int} {k : Nat} (hk : k < ns.length) (bs : List Bool) (hb : bs.getD k false = ups ns k) : (if bs.getD k false then (gp ns).getD k 0 else - (gp ns).getD k 0) = ns.getD k 0 - ns.getD ((k + 1) % ns.length) 0 := by
  rw [hb, gp_get hk]
  unfold ups
  by_cases c : ns.getD ((k + 1) % ns.length) 0 ≤ ns.getD k 0
  · rw [decide_eq_true c, if_pos rfl]
    omega
  · rw [decide_eq_false c, if_neg (by decide)]
    omega
theorem half_gp {ns : List Int} (hp : 0 < ns.length) : Half (gp ns) := by
  have hbl : ((List.range ns.length).map (ups ns)).length = (gp ns).length := by rw [List.length_map, List.length_range, gp_length]
  have hb : ∀ k, k < ns.length → ((List.range ns.length).map (ups ns)).getD k false = ups ns k := fun k hk => by
    rw [List.getD_eq_getElem?_getD, List.getElem?_map, List.getElem?_range hk]
    rfl
  refine half_of hbl ?_
  -- the row of the gaps is the way back along the numbers
  have step : ∀ k, k < ns.length → rw1 ((List.range ns.length).map (ups ns)) (gp ns) k = ns.getD 0 0 - ns.getD k 0 := by
    intro k
    induction k with
    | zero => intro _; show (0 : Int) = _; omega
    | succ k ih =>
      intro hk
      show rw1 _ _ k + _ = _
      rw [ih (by omega), ups_step (by omega) _ (hb k (by omega)), Nat.mod_eq_of_lt hk]
      omega
  have e1 := step (ns.length - 1) (by omega)
  have e2 : rw1 ((List.range ns.length).map (ups ns)) (gp ns) ns.length = 0 := by
    have q : rw1 ((List.range ns.length).map (ups ns)) (gp ns) (ns.length - 1 + 1) = 0 := by
      show rw1 _ _ (ns.length - 1) + _ = _
      rw [e1, ups_step (by omega) _ (hb _ (by omega)), show ns.length - 1 + 1 = ns.length by omega, Nat.mod_self]
      omega
    rw [show ns.length - 1 + 1 = ns.length by omega] at q
    exact q
  have e3 := rw1_eq hbl ns.length (by rw [gp_length]; exact Nat.le_refl _)
  rw [e2, List.take_of_length_le (by rw [List.length_map, List.length_range]; exact Nat.le_refl _), List.take_of_length_le (by rw [gp_length]; exact Nat.le_refl _)] at e3
  omega
end GR
/-! ### small words over the hand layer -/
namespace GL
open PySem PySem.Spec PyProof.Rows L2
theorem bt_len : bootBuiltins "len" = some (.builtin "len") := by decide +kernel
theorem bt_abs : bootBuiltins "abs" = some (.builtin "abs") := by decide +kernel
theorem bt_max : bootBuiltins "max" = some (.builtin "max") := by decide +kernel
theorem bt_min : bootBuiltins "min" = some (.builtin "min") := by decide +kernel
theorem bt_sum : bootBuiltins "sum" = some (.builtin "sum") := by decide +kernel
theorem bt_isinstance : bootBuiltins "isinstance" = some (.builtin "isinstance") := by decide +kernel
theorem bt_int : bootBuiltins "int" = some (.type "int") := by decide +kernel
theorem bt_bool : bootBuiltins "bool" = some (.type "bool") := by decide +kernel
theorem bt_str : bootBuiltins "str" = some (.type "str") := by decide +kernel
theorem bt_list : bootBuiltins "list" = some (.type "list") := by decide +kernel
theorem bt_tuple : bootBuiltins "tuple" = some (.type "tuple") := by decide +kernel
theorem bt_zip : bootBuiltins "zip" = some (.type "zip") := by decide +kernel
theorem bt_reversed : bootBuiltins "reversed" = some (.type "reversed") := by decide +kernel
theorem bt_ValueError : bootBuiltins "ValueError" = some (.type "ValueError") := by decide +kernel
theorem ifN {c : Prop} [Decidable c] {A B : Prop} (hc : ¬ c) (h : B) : if decide c = true then A else B := by
  rw [decide_eq_false hc]
  exact iteF h
theorem ifY {c : Prop} [Decidable c] {A B : Prop} (hc : c) (h : A) : if decide c = true then A else B := by
  rw [decide_eq_true hc]
  exact iteT h
theorem if2 {c : Prop} [Decidable c] {A B : Prop} (h1 : c → A) (h2 : ¬ c → B) : if decide c = true then A else B := by
  by_cases h : c
  · exact ifY h (h1 h)
  · exact ifN h (h2 h)
theorem ifnN {c : Prop} [Decidable c] {A B : Prop} (hc : c) (h : B) : if (!decide c) = true then A else B := by
  rw [decide_eq_true hc]
  exact iteF h
theorem ifnY {c : Prop} [Decidable c] {A B : Prop} (hc : ¬ c) (h : A) : if (!decide c) = true then A else B := by
  rw [decide_eq_false hc]
  exact iteT h
theorem if2B {c : Bool} {A B : Prop} (h1 : c = true → A) (h2 : c = false → B) : if c = true then A else B := by
  cases c with
  | true => exact iteT (h1 rfl)
  | false => exact iteF (h2 rfl)
theorem vint {i j : Int} (h : i = j) : V.int i = V.int j := by rw [h]
theorem vint_ne {i j : Int} (h : i ≠ j) : V.int i ≠ V.int j := fun e => h (V.int.inj e)
/-- what holds behind a statement, said once for all its ways -/
theorem cut {t u : TS} {D : Ends} {σ : L2.St} {H : Hp} (P : L2.St → Hp → Prop) (h1 : ∀ N : L2.St → Hp → Prop, (∀ σ' H', P σ' H' → N σ' H') → t { D with nx := N } σ H) (h2 : ∀ σ' H', P σ' H' → u D σ' H') : tSeq t u D σ H := h1 (u D) h2
/-! ### heaps -/
theorem _root_.L2.Same.new {H : Hp} {p : Addr} {o : HO} (h : H p = none) : Same H (upd H p o) := fun b x e => by
  rw [upd_ne (ne_of_none e h)]
  exact e
theorem _root_.L2.Same.put {H H' : Hp} {p : Addr} {o : HO} (s : Same H H') (h : H p = none) : Same H (upd H' p o) := fun b x e => by
  rw [upd_ne (ne_of_none e h)]
  exact s b x e
theorem _root_.L2.Same.none {H H' : Hp} (s : Same H H') {p : Addr} (h : H' p = none) : H p = none := s.free h
theorem _root_.L2.Same.sqT {K : PySem.W.Frag} {H H' : Hp} {a : Addr} {xs : List V} (e : Same H H') (h : SqT K H a xs) : SqT K H' a xs := by
  rcases h with (h | ⟨o, h⟩) | h
  · exact .inl (.inl (e _ _ h))
  · exact .inl (.inr ⟨o, e _ _ h⟩)
  · exact .inr h
theorem new_ne {H : Hp} {u v : Addr} {o : HO} (h : upd H u o v = none) : u ≠ v := fun z => by
  rw [z, upd_same] at h
  cases h
theorem new_old {H : Hp} {u v : Addr} {o : HO} (h : upd H u o v = none) : H v = none := by
  rw [upd_ne (new_ne h).symm] at h
  exact h
/-- an own list is changed: what was there ahead of it stands -/
theorem _root_.L2.Same.own {H H' : Hp} {p : Addr} {o : HO} (s : Same H H') (h : H p = none) : Same H (upd H' p o) := s.put h
theorem at_ne {H : Hp} {a p : Addr} {o : HO} {x : Option HO} (h : H a = x) (ne : a ≠ p) : upd H p o a = x := by
  rw [upd_ne ne]
  exact h
/-! ### lists of ints -/
abbrev vi (ns : List Int) : List V := ns.map V.int
theorem vi_at {ns : List Int} {i : Nat} {x : V} (h : (vi ns)[i]? = some x) : ∃ z, ns[i]? = some z ∧ x = .int z := by
  rw [List.getElem?_map] at h
  cases e : ns[i]? with
  | none => rw [e] at h; cases h
  | some z => rw [e] at h; exact ⟨z, rfl, (Option.some.inj h).symm⟩
theorem vi_get {ns : List Int} {i : Nat} {z : Int} (h : ns[i]? = some z) : (vi ns)[i]? = some (.int z) := by
  rw [List.getElem?_map, h]
  rfl
theorem vi_len (ns : List Int) : (vi ns).length = ns.length := List.length_map _
theorem getD_some {ns : List Int} {k : Nat} (h : k < ns.length) : ns[k]? = some (ns.getD k 0) := by
  rw [List.getD_eq_getElem?_getD, List.getElem?_eq_getElem h]
  rfl
theorem vi_nth {ns : List Int} {k : Nat} (h : k < ns.length) : (vi ns)[k]? = some (.int (ns.getD k 0)) := vi_get (getD_some h)
theorem atI_of {xs : List V} {i : Int} {j : Nat} {v : V} (e : i = (j : Int)) (h : xs[j]? = some v) : atI xs i = some v := by
  rw [e]
  exact atI_nat h
theorem atI_neg {xs : List V} {v : V} (h : xs[xs.length - 1]? = some v) : atI xs (-1) = some v := by
  have hl : 0 < xs.length := by
    rcases Nat.eq_zero_or_pos xs.length with z | z
    · rw [List.getElem?_eq_none (by omega)] at h
      cases h
    · exact z
  unfold atI ixN
  rw [if_neg (by decide), if_pos (by omega)]
  have e : (-1 + (xs.length : Int)).toNat = xs.length - 1 := by omega
  rw [e]
  exact h
theorem abs_eq (i : Int) : (if i < 0 then -i else i) = (i.natAbs : Int) := by
  split <;> omega
theorem line_lt {n : Nat} (h : n ≤ 1000000) : n < sizeLine := Nat.lt_of_le_of_lt h (by decide)
theorem line_le {n : Nat} (h : n ≤ 1000000) : n ≤ sizeLine := Nat.le_of_lt (line_lt h)
/-- a list of ints as plain data -/
def dI (ns : List Int) : PyData := .list (ns.map PyData.int)
theorem dp_vi {K : PySem.W.Frag} {H : Hp} : ∀ ns : List Int, DpAll K H (vi ns) (ns.map PyData.int)
  | [] => .nil
  | x :: r => .cons (.int x) (dp_vi r)
theorem dp_list {K : PySem.W.Frag} {H : Hp} {a : Addr} {ns : List Int} (h : SqL K H a (vi ns)) : Dp K H (.ref a) (dI ns) := .lst h (dp_vi ns)
/-! ### comprehensions whose elements change nothing -/
theorem wipe1 (σ : L2.St) (v : Nat) (x : Option V) : wipe ((wipe σ [v]).set v x) [v] = wipe σ [v] := by
  show ((σ.set v none).set v x).set v none = σ.set v none
  rw [List.set_set, List.set_set]
theorem yes_of {σ : L2.St} {H : Hp} {Q : Bool → Hp → Prop} (h : Q true H) : tYes σ H Q := h
theorem lc_grow {lo : Int} {n : Nat} {te : TE} {v : Nat} {σ : L2.St} {H1 : Hp} {D : Addr} {Qd : Hp → Prop} (R : Nat → V → Prop) (nD : H1 D = none) (hn : n ≤ 1000)
    (hs : ∀ i H', i < n → Same H1 H' → ∀ Q' : VK, (∀ y H2, Same H' H2 → R i y → Q' y H2) → te ((wipe σ [v]).set v (some (.int (lo + i)))) H' Q')
    (hd : ∀ H' ys, ys.length = n → (∀ i y, ys[i]? = some y → R i y) → Same H1 H' → H' D = some (.lst ys) → Qd H') :
    ∃ W : Nat → Nat → Hp → Prop, (∃ m, W 0 m (upd H1 D (.lst []))) ∧ ∀ i m H, W i m H →
      ((Itr lo n).stop i H ∧ Qd H) ∨ ((Itr lo n).go i H ∧ ∃ Nx : Hp → Prop, (∀ H', Nx H' → ∃ m', m' < m ∧ W (i + 1) m' H') ∧ ∀ x H', (Itr lo n).yld i H x H' → gName v x (wipe σ [v]) H' fun σ2 H2 => wipe σ2 [v] = wipe σ [v] ∧ tYes σ2 H2 fun b H3 =>
        if b = true then te σ2 H3 fun y H4 => ∃ acc, H4 D = some (.lst acc) ∧ acc.length < sizeLine ∧ Nx (upd H4 D (.lst (acc ++ [y]))) else Nx H3) := by
  refine lc_range (lo := lo) (n := n) (fun i H' => Same H1 H' ∧ ∃ ys, H' D = some (.lst ys) ∧ ys.length = i ∧ ∀ j y, ys[j]? = some y → R j y) ⟨Same.new nD, [], upd_same, rfl, fun j y h => by simp at h⟩ ?_ ?_
  · rintro i H' hi ⟨sm, ys, eD, hl, hR⟩
    refine ⟨wipe1 _ _ _, ?_⟩
    refine yes_of ?_
    refine iteT (hs i H' hi sm _ fun y H4 s4 hy => ⟨ys, s4 _ _ eD, line_lt (by omega), (sm.trans s4).put nD, ys ++ [y], upd_same, by rw [List.length_append, hl]; rfl, fun j z hz => ?_⟩)
    by_cases c : j < ys.length
    · rw [List.getElem?_append_left c] at hz
      exact hR j z hz
    · rw [List.getElem?_append_right (by omega)] at hz
      have e0 : j - ys.length = 0 := by
        rcases Nat.eq_zero_or_pos (j - ys.length) with q | q
        · exact q
        · rw [List.getElem?_eq_none (by simp only [List.length_cons, List.length_nil]; omega)] at hz
          cases hz
      rw [e0] at hz
      have ez : y = z := Option.some.inj hz
      have ej : j = i := by omega
      rw [← ez, ej]
      exact hy
  · rintro H' ⟨sm, ys, eD, hl, hR⟩
    exact hd H' ys hl hR sm eD
theorem lc_pure {lo : Int} {n : Nat} {te : TE} {v : Nat} {σ : L2.St} {H1 : Hp} {D : Addr} {Qd : Hp → Prop} (R : Nat → V → Prop) (nD : H1 D = none) (hn : n ≤ 1000)
    (hs : ∀ i H', i < n → Same H1 H' → ∀ Q' : VK, (∀ y, R i y → Q' y H') → te ((wipe σ [v]).set v (some (.int (lo + i)))) H' Q')
    (hd : ∀ H' ys, ys.length = n → (∀ i y, ys[i]? = some y → R i y) → Same H1 H' → H' D = some (.lst ys) → Qd H') :
    ∃ W : Nat → Nat → Hp → Prop, (∃ m, W 0 m (upd H1 D (.lst []))) ∧ ∀ i m H, W i m H →
      ((Itr lo n).stop i H ∧ Qd H) ∨ ((Itr lo n).go i H ∧ ∃ Nx : Hp → Prop, (∀ H', Nx H' → ∃ m', m' < m ∧ W (i + 1) m' H') ∧ ∀ x H', (Itr lo n).yld i H x H' → gName v x (wipe σ [v]) H' fun σ2 H2 => wipe σ2 [v] = wipe σ [v] ∧ tYes σ2 H2 fun b H3 =>
        if b = true then te σ2 H3 fun y H4 => ∃ acc, H4 D = some (.lst acc) ∧ acc.length < sizeLine ∧ Nx (upd H4 D (.lst (acc ++ [y]))) else Nx H3) :=
  lc_grow R nD hn (fun i H' hi sm Q' hQ => hs i H' hi sm Q' fun y hy => hQ y H' (Same.refl _) hy) hd
theorem lc_pureL {K : PySem.W.Frag} {a : Addr} {xs : List V} {te : TE} {v : Nat} {σ : L2.St} {H1 : Hp} {D : Addr} {Qd : Hp → Prop} (R : Nat → V → Prop) (hA : SqL K H1 a xs) (nD : H1 D = none) (hn : xs.length ≤ 1000)
    (hs : ∀ i x H', xs[i]? = some x → Same H1 H' → ∀ Q' : VK, (∀ y, R i y → Q' y H') → te ((wipe σ [v]).set v (some x)) H' Q')
    (hd : ∀ H' ys, ys.length = xs.length → (∀ i y, ys[i]? = some y → R i y) → Same H1 H' → H' D = some (.lst ys) → Qd H') :
    ∃ W : Nat → Nat → Hp → Prop, (∃ m, W 0 m (upd H1 D (.lst []))) ∧ ∀ i m H, W i m H →
      ((Itl K a).stop i H ∧ Qd H) ∨ ((Itl K a).go i H ∧ ∃ Nx : Hp → Prop, (∀ H', Nx H' → ∃ m', m' < m ∧ W (i + 1) m' H') ∧ ∀ x H', (Itl K a).yld i H x H' → gName v x (wipe σ [v]) H' fun σ2 H2 => wipe σ2 [v] = wipe σ [v] ∧ tYes σ2 H2 fun b H3 =>
        if b = true then te σ2 H3 fun y H4 => ∃ acc, H4 D = some (.lst acc) ∧ acc.length < sizeLine ∧ Nx (upd H4 D (.lst (acc ++ [y]))) else Nx H3) := by
  refine lc_list (K := K) (a := a) (xs := xs) (fun i H' => Same H1 H' ∧ ∃ ys, H' D = some (.lst ys) ∧ ys.length = i ∧ ∀ j y, ys[j]? = some y → R j y) ⟨Same.new nD, [], upd_same, rfl, fun j y h => by simp at h⟩ (fun i H' _ h => h.1.seq hA) ?_ ?_
  · rintro i x H' hi ⟨sm, ys, eD, hl, hR⟩
    have hil : i < xs.length := (List.getElem?_eq_some_iff.mp hi).1
    refine ⟨wipe1 _ _ _, ?_⟩
    refine yes_of ?_
    refine iteT (hs i x H' hi sm _ fun y hy => ⟨ys, eD, line_lt (by omega), sm.put nD, ys ++ [y], upd_same, by rw [List.length_append, hl]; rfl, fun j z hz => ?_⟩)
    by_cases c : j < ys.length
    · rw [List.getElem?_append_left c] at hz
      exact hR j z hz
    · rw [List.getElem?_append_right (by omega)] at hz
      have e0 : j - ys.length = 0 := by
        rcases Nat.eq_zero_or_pos (j - ys.length) with q | q
        · exact q
        · rw [List.getElem?_eq_none (by simp only [List.length_cons, List.length_nil]; omega)] at hz
          cases hz
      rw [e0] at hz
      have ez : y = z := Option.some.inj hz
      have ej : j = i := by omega
      rw [← ez, ej]
      exact hy
  · rintro H' ⟨sm, ys, eD, hl, hR⟩
    exact hd H' ys hl hR sm eD
theorem all_ints {n : Nat} {ys : List V} {P : Nat → Int → Prop} (hl : ys.length = n) (h : ∀ i y, ys[i]? = some y → ∃ z, y = .int z ∧ P i z) : ∃ zs, ys = vi zs ∧ zs.length = n ∧ ∀ i, i < n → P i (zs.getD i 0) := by
  induction ys generalizing n P with
  | nil => exact ⟨[], rfl, hl, fun i hi => by simp at hl; omega⟩
  | cons y r ih =>
    obtain ⟨z, ez, pz⟩ := h 0 y rfl
    obtain ⟨zs, e, l, q⟩ := ih (n := r.length) (P := fun i => P (i + 1)) rfl (fun i y hy => h (i + 1) y hy)
    refine ⟨z :: zs, by rw [ez, e]; rfl, by simp only [List.length_cons] at hl ⊢; omega, fun i hi => ?_⟩
    cases i with
    | zero => exact pz
    | succ i =>
      simp only [List.length_cons] at hl
      exact q i (by omega)
theorem lc_ints {lo : Int} {n : Nat} {te : TE} {v : Nat} {σ : L2.St} {H1 : Hp} {D : Addr} {Qd : Hp → Prop} (P : Nat → Int → Prop) (nD : H1 D = none) (hn : n ≤ 1000)
    (hs : ∀ i H', i < n → Same H1 H' → ∀ Q' : VK, (∀ z, P i z → Q' (.int z) H') → te ((wipe σ [v]).set v (some (.int (lo + i)))) H' Q')
    (hd : ∀ H' zs, zs.length = n → (∀ i, i < n → P i (zs.getD i 0)) → Same H1 H' → H' D = some (.lst (vi zs)) → Qd H') :
    ∃ W : Nat → Nat → Hp → Prop, (∃ m, W 0 m (upd H1 D (.lst []))) ∧ ∀ i m H, W i m H →
      ((Itr lo n).stop i H ∧ Qd H) ∨ ((Itr lo n).go i H ∧ ∃ Nx : Hp → Prop, (∀ H', Nx H' → ∃ m', m' < m ∧ W (i + 1) m' H') ∧ ∀ x H', (Itr lo n).yld i H x H' → gName v x (wipe σ [v]) H' fun σ2 H2 => wipe σ2 [v] = wipe σ [v] ∧ tYes σ2 H2 fun b H3 =>
        if b = true then te σ2 H3 fun y H4 => ∃ acc, H4 D = some (.lst acc) ∧ acc.length < sizeLine ∧ Nx (upd H4 D (.lst (acc ++ [y]))) else Nx H3) :=
  lc_pure (fun i y => ∃ z, y = .int z ∧ P i z) nD hn (fun i H' hi sm Q' hQ => hs i H' hi sm Q' fun z hz => hQ _ ⟨z, rfl, hz⟩) fun H' ys hl hR sm e => by
    obtain ⟨zs, ez, l, q⟩ := all_ints hl hR
    rw [ez] at e
    exact hd H' zs l q sm e
theorem lc_intsG {lo : Int} {n : Nat} {te : TE} {v : Nat} {σ : L2.St} {H1 : Hp} {D : Addr} {Qd : Hp → Prop} (P : Nat → Int → Prop) (nD : H1 D = none) (hn : n ≤ 1000)
    (hs : ∀ i H', i < n → Same H1 H' → ∀ Q' : VK, (∀ z H2, Same H' H2 → P i z → Q' (.int z) H2) → te ((wipe σ [v]).set v (some (.int (lo + i)))) H' Q')
    (hd : ∀ H' zs, zs.length = n → (∀ i, i < n → P i (zs.getD i 0)) → Same H1 H' → H' D = some (.lst (vi zs)) → Qd H') :
    ∃ W : Nat → Nat → Hp → Prop, (∃ m, W 0 m (upd H1 D (.lst []))) ∧ ∀ i m H, W i m H →
      ((Itr lo n).stop i H ∧ Qd H) ∨ ((Itr lo n).go i H ∧ ∃ Nx : Hp → Prop, (∀ H', Nx H' → ∃ m', m' < m ∧ W (i + 1) m' H') ∧ ∀ x H', (Itr lo n).yld i H x H' → gName v x (wipe σ [v]) H' fun σ2 H2 => wipe σ2 [v] = wipe σ [v] ∧ tYes σ2 H2 fun b H3 =>
        if b = true then te σ2 H3 fun y H4 => ∃ acc, H4 D = some (.lst acc) ∧ acc.length < sizeLine ∧ Nx (upd H4 D (.lst (acc ++ [y]))) else Nx H3) :=
  lc_grow (fun i y => ∃ z, y = .int z ∧ P i z) nD hn (fun i H' hi sm Q' hQ => hs i H' hi sm Q' fun z H2 s2 hz => hQ _ H2 s2 ⟨z, rfl, hz⟩) fun H' ys hl hR sm e => by
    obtain ⟨zs, ez, l, q⟩ := all_ints hl hR
    rw [ez] at e
    exact hd H' zs l q sm e
theorem lc_intsL {K : PySem.W.Frag} {a : Addr} {xs : List V} {te : TE} {v : Nat} {σ : L2.St} {H1 : Hp} {D : Addr} {Qd : Hp → Prop} (P : Nat → Int → Prop) (hA : SqL K H1 a xs) (nD : H1 D = none) (hn : xs.length ≤ 1000)
    (hs : ∀ i x H', xs[i]? = some x → Same H1 H' → ∀ Q' : VK, (∀ z, P i z → Q' (.int z) H') → te ((wipe σ [v]).set v (some x)) H' Q')
    (hd : ∀ H' zs, zs.length = xs.length → (∀ i, i < xs.length → P i (zs.getD i 0)) → Same H1 H' → H' D = some (.lst (vi zs)) → Qd H') :
    ∃ W : Nat → Nat → Hp → Prop, (∃ m, W 0 m (upd H1 D (.lst []))) ∧ ∀ i m H, W i m H →
      ((Itl K a).stop i H ∧ Qd H) ∨ ((Itl K a).go i H ∧ ∃ Nx : Hp → Prop, (∀ H', Nx H' → ∃ m', m' < m ∧ W (i + 1) m' H') ∧ ∀ x H', (Itl K a).yld i H x H' → gName v x (wipe σ [v]) H' fun σ2 H2 => wipe σ2 [v] = wipe σ [v] ∧ tYes σ2 H2 fun b H3 =>
        if b = true then te σ2 H3 fun y H4 => ∃ acc, H4 D = some (.lst acc) ∧ acc.length < sizeLine ∧ Nx (upd H4 D (.lst (acc ++ [y]))) else Nx H3) :=
  lc_pureL (fun i y => ∃ z, y = .int z ∧ P i z) hA nD hn (fun i x H' hi sm Q' hQ => hs i x H' hi sm Q' fun z hz => hQ _ ⟨z, rfl, hz⟩) fun H' ys hl hR sm e => by
    obtain ⟨zs, ez, l, q⟩ := all_ints hl hR
    rw [ez] at e
    exact hd H' zs l q sm e
theorem eqvAll_ints : ∀ a b : List Int, PyData.eqvAll (a.map PyData.int) (b.map PyData.int) = decide (a = b)
  | [], [] => rfl
  | [], _ :: _ => rfl
  | _ :: _, [] => rfl
  | x :: r, y :: q => by
    show (PyData.eqv (.int x) (.int y) && PyData.eqvAll (r.map PyData.int) (q.map PyData.int)) = decide (x :: r = y :: q)
    rw [eqvAll_ints r q]
    show ((x == y) && decide (r = q)) = decide (x :: r = y :: q)
    by_cases e : x = y
    · by_cases e2 : r = q
      · simp [e, e2]
      · simp [e, e2]
    · simp [e]
theorem eqv_dI (a b : List Int) : PyData.eqv (dI a) (dI b) = decide (a = b) := eqvAll_ints a b
theorem canLay_ints : ∀ a : List Int, PyData.canLayAll0 (a.map PyData.int) = true
  | [] => rfl
  | x :: r => by
    show (PyData.canLay0 (.int x) && PyData.canLayAll0 (r.map PyData.int)) = true
    rw [canLay_ints r]
    rfl
theorem depth_ints : ∀ a : List Int, PyData.depthAll (a.map PyData.int) = 0
  | [] => rfl
  | x :: r => by
    show max (PyData.depth (.int x)) (PyData.depthAll (r.map PyData.int)) = 0
    rw [depth_ints r]
    rfl
theorem shaped_dI (a : List Int) : SeqAt.shaped (dI a) = true := by
  show (PyData.canLay0 (dI a) && decide ((dI a).depth ≤ 64)) = true
  have e1 : PyData.canLay0 (dI a) = true := canLay_ints a
  have e2 : (dI a).depth = 1 := by
    show PyData.depthAll (a.map PyData.int) + 1 = 1
    rw [depth_ints]
  rw [e1, e2]
  rfl
/-- a pair of ints as plain data -/
def dT2 (i j : Int) : PyData := .tuple [.int i, .int j]
theorem dp_pair {K : PySem.W.Frag} {H : Hp} {a : Addr} {i j : Int} (h : SqT K H a [.int i, .int j]) : Dp K H (.ref a) (dT2 i j) := .tup h (.cons (.int i) (.cons (.int j) .nil))
theorem eqT {K : PySem.W.Frag} {H : Hp} {a b : Addr} {i j k l : Int} {Q : VK} (h1 : SqT K H a [.int i, .int j]) (h2 : SqT K H b [.int k, .int l]) (q : Q (.bl ((i == k) && ((j == l) && true))) H) : rEqD K (.ref a) (.ref b) H Q :=
  ⟨dT2 i j, dT2 k l, dp_pair h1, dp_pair h2, rfl, rfl, q⟩
theorem neT {K : PySem.W.Frag} {H : Hp} {a b : Addr} {i j k l : Int} {Q : VK} (h1 : SqT K H a [.int i, .int j]) (h2 : SqT K H b [.int k, .int l]) (q : Q (.bl (!((i == k) && ((j == l) && true)))) H) : rNeD K (.ref a) (.ref b) H Q :=
  ⟨dT2 i j, dT2 k l, dp_pair h1, dp_pair h2, rfl, rfl, q⟩
/-- == and != of two lists of ints, said with decide -/
theorem eqL {K : PySem.W.Frag} {H : Hp} {a b : Addr} {ns ms : List Int} {Q : VK} (h1 : SqL K H a (vi ns)) (h2 : SqL K H b (vi ms)) (q : Q (.bl (decide (ns = ms))) H) : rEqD K (.ref a) (.ref b) H Q :=
  ⟨dI ns, dI ms, dp_list h1, dp_list h2, shaped_dI _, shaped_dI _, by rw [eqv_dI]; exact q⟩
theorem neL {K : PySem.W.Frag} {H : Hp} {a b : Addr} {ns ms : List Int} {Q : VK} (h1 : SqL K H a (vi ns)) (h2 : SqL K H b (vi ms)) (q : Q (.bl (!decide (ns = ms))) H) : rNeD K (.ref a) (.ref b) H Q :=
  ⟨dI ns, dI ms, dp_list h1, dp_list h2, shaped_dI _, shaped_dI _, by rw [eqv_dI]; exact q⟩
section
variable {X : Cx}
/-- a module's whole number -/
theorem pe_num {x : Str} {i : Int} {pos : Pos} (h : ∃ t, X.mg x = some (.int i t)) (hg : Gl X x := by rfl) (hd : (x == ("__debug__" : Str)) = false := by decide) : PE X (.Name x pos) (tC (.int i)) := by
  obtain ⟨t, h⟩ := h
  exact pe_glob hg h ⟨t, rfl⟩ hd
/-- a built-in class as a value -/
theorem pe_cls {x : Str} {n : String} {pos : Pos} (hm : X.mg x = none) (hv : bootBuiltins x = some (.type n)) (hg : Gl X x := by rfl) (hn : x ≠ "__name__" := by decide) (hd : (x == ("__debug__" : Str)) = false := by decide) : PE X (.Name x pos) (tC (.ty n)) :=
  pe_bltn hg hm hv rfl hn hd
/-- rules that name the written part, for the blocks of comprehensions -/
theorem ixL (K : PySem.W.Frag) (h : X.K = K) : IxR X (rIxL K) := h ▸ ix_list
theorem ixT (K : PySem.W.Frag) (h : X.K = K) : IxR X (rIxT K) := h ▸ ix_tup
theorem lenL (K : PySem.W.Frag) (h : X.K = K) : CallR X (.builtin "len") (fun xs H Q => ∃ p ys, xs = [.ref p] ∧ (SqL K H p ys ∨ SqT K H p ys) ∧ Q (.int ys.length) H) := h ▸ call_len_seq
theorem maxL (K : PySem.W.Frag) (hc : X.calm = true) (h : X.K = K) : CallR X (.builtin "max") (rMax K) := h ▸ cr_max hc
theorem isiL (K : PySem.W.Frag) (h : X.K = K) : CallR X (.builtin "isinstance") (rIsi K) := h ▸ call_isi
theorem listL (K : PySem.W.Frag) (h : X.K = K) : CallR X (.type "list") (fun xs H Q => ∃ p ys, xs = [.ref p] ∧ (SqL K H p ys ∨ SqT K H p ys) ∧ ∀ l, H l = none → Q (.ref l) (upd H l (.lst ys))) := h ▸ call_list_of
theorem tupleL (K : PySem.W.Frag) (h : X.K = K) : CallR X (.type "tuple") (fun xs H Q => ∃ p ys, xs = [.ref p] ∧ ((SqL K H p ys ∧ ∀ l, H l = none → Q (.ref l) (upd H l (.tup ys))) ∨ (SqT K H p ys ∧ Q (.ref p) H))) := h ▸ call_tuple_of
end
end GL
/-! ### rules that the layer lacks -/
namespace GL
open PySem PySem.Spec L2
section
variable {X : Cx}
/-- {k: v}, k a tuple of ints and texts -/
def tDisp1T (tk tv : TE) : TE := fun σ H Q => ∀ p, H p = none → tk σ (upd H p (.dT [])) fun x H1 => tv σ H1 fun y H2 => H2 p = some (.dT []) ∧ ∃ (ks : List Key) (b : Addr), x = .ref b ∧ H2 b = some (.tup (ks.map kV)) ∧ Q (.ref p) (upd H2 p (.dT [(ks, y)]))
theorem pe_disp1T {k v : Expr} {tk tv : TE} {pos : Pos} (hu : X.A.units + 1 < cLine) (hk : PE X k tk) (hv : PE X v tv) : PE X (.Dict [some k] [v] pos) (tDisp1T tk tv) := by
  refine ⟨fun pins s σ H Q I q => ?_⟩
  have hn := I.hok.fresh (Nat.le_refl s.heap.objs.size)
  have I1 := I.laid (a := s.heap.objs.size) (o := .dT []) (h' := s.heap.push { cls := .type "dict", data := .dict #[] }) (t' := s.toks) (fun _ _ q => Heap.get?_push_of_some _ q) (Nat.le_refl _) (dt_empty s.heap I.big)
  rw [arm_eval_Dict, zip_pairTrees [some k] [v] X.env pos rfl rfl, dictDisplay_pairs _ (fun z => by cases z) (by show 1 < 17; decide)]
  refine wpAny_bind (wpAny_standAt (wpAny_bind (wpAny_subDictH (knd := tupleKind (mixKind X.prog X.w)) (show X.A.units < cLine by omega) (by show 1 ≤ 15; decide) ?_)))
  refine pairTrees_cons_walk (thn (hk.run pins _ σ _ _ I1 (q _ hn)) fun u s1 ⟨x, H1, I1, rx, q1⟩ => thn (hv.run pins s1 σ H1 _ I1 q1) fun w2 s2 ⟨y, H2, I2, ry, q2⟩ => pairTrees_nil_walk ?_)
  obtain ⟨e, ks, b, ex, eb, q3⟩ := q2
  subst ex
  cases (show u = Value.ref b from rx)
  obtain ⟨z, hd, xs, rel, dd⟩ := dt_of I2.hok e
  cases rel
  refine ⟨[(ks, b, w2)], ⟨rfl, rfl, key_of I2.hok eb, trivial⟩, dd, fun h' tk dd' hs => wpAny_pure ⟨.ref s.heap.objs.size, _, ?_, rfl, q3⟩⟩
  obtain ⟨o, es, ep, hq, h2, h3, h4, h5, h6⟩ := dd'
  have he : ∃ q, h'.get? s.heap.objs.size = some q := ⟨o, hq⟩
  have hne : b ≠ s.heap.objs.size := ne_of eb e (fun z => nomatch z)
  have J := I2.write (t' := tk) (x := s.heap.objs.size) (e := s.heap.objs.size) (o := .dT [(ks, y)]) (by rw [e]; exact True.intro) (.inl rfl) (fun b q hb z => (hs.2 b hb).trans z) he ⟨by show 1 ≤ sizeLine; decide, hd, _, .cons ⟨rfl, by rw [upd_ne hne]; exact eb, ry⟩ .nil, o, es, ep, hq, h2, h3, h4, h6⟩
  exact J
end
end GL
/-! ### a walk's row and its places -/
namespace GL
open PySem PySem.Spec L2
def keyL (l : List Int) : List Key := l.map Sum.inl
theorem keyL_kV (l : List Int) : (keyL l).map kV = vi l := by
  unfold keyL
  rw [List.map_map]
  rfl
theorem keyL_inj {l m : List Int} (h : keyL l = keyL m) : l = m := by
  have e := congrArg (fun x => x.map fun k : Key => match k with | .inl i => i | .inr _ => 0) h
  unfold keyL at e
  simp only [List.map_map] at e
  have c : ((fun k : Key => match k with | .inl i => i | .inr _ => (0 : Int)) ∘ (Sum.inl : Int → Key)) = id := rfl
  rw [c, List.map_id, List.map_id] at e
  exact e
theorem valV_none {κ : Type} [DecidableEq κ] {kvs : List (κ × V)} {k : κ} (h : ∀ x ∈ kvs, x.1 ≠ k) : valV kvs k = none := by
  unfold valV
  rw [List.find?_eq_none.mpr (fun x hx => by
    have := h x hx
    simp [this])]
  rfl
theorem valV_append {κ : Type} [DecidableEq κ] {kvs ls : List (κ × V)} {k : κ} (h : ∀ x ∈ kvs, x.1 ≠ k) : valV (kvs ++ ls) k = valV ls k := by
  unfold valV
  rw [List.find?_append, List.find?_eq_none.mpr (fun x hx => by
    have := h x hx
    simp [this])]
  rfl
def kvsOf (ns : List Int) (i : Nat) : List (List Key × V) := (List.range i).map fun j => (keyL (GR.it j ns), V.int j)
theorem kvsOf_succ (ns : List Int) (i : Nat) : kvsOf ns (i + 1) = kvsOf ns i ++ [(keyL (GR.it i ns), V.int i)] := by
  unfold kvsOf
  rw [List.range_succ, List.map_append]
  rfl
theorem kvsOf_len (ns : List Int) (i : Nat) : (kvsOf ns i).length = i := by
  unfold kvsOf
  rw [List.length_map, List.length_range]
theorem kvsOf_none {ns l : List Int} {i : Nat} (h : ∀ j, j < i → GR.it j ns ≠ l) : valV (kvsOf ns i) (keyL l) = none := by
  refine valV_none fun x hx => ?_
  unfold kvsOf at hx
  obtain ⟨j, hj, e⟩ := List.mem_map.mp hx
  rw [← e]
  exact fun z => h j (List.mem_range.mp hj) (keyL_inj z)
theorem kvsOf_some {ns l : List Int} {j : Nat} : ∀ {i : Nat}, j < i → GR.it j ns = l → (∀ a b, a < b → b < i → GR.it a ns ≠ GR.it b ns) → valV (kvsOf ns i) (keyL l) = some (.int j)
  | 0, h, _, _ => absurd h (Nat.not_lt_zero _)
  | i + 1, h, e, q => by
    rw [kvsOf_succ]
    by_cases c : j < i
    · have ih := kvsOf_some c e (fun a b hab hb => q a b hab (by omega))
      unfold valV at ih ⊢
      rw [List.find?_append]
      cases f : (kvsOf ns i).find? fun kv => decide (kv.1 = keyL l) with
      | none =>
        rw [f] at ih
        cases ih
      | some x =>
        rw [f] at ih
        exact ih
    · have ej : j = i := by omega
      subst ej
      rw [valV_append (fun x hx => by
        unfold kvsOf at hx
        obtain ⟨a, ha, ea⟩ := List.mem_map.mp hx
        have ha := List.mem_range.mp ha
        rw [← ea]
        exact fun z => q a j ha (by omega) ((keyL_inj z).trans e.symm))]
      unfold valV
      rw [List.find?_cons, e, decide_eq_true rfl]
      rfl
structure WkInv (ns : List Int) (H0 : Hp) (i : Nat) (H : Hp) (r p th : Addr) (rs : List Addr) : Prop where
  same : Same H0 H
  r0 : H0 r = none
  p0 : H0 p = none
  hrow : H r = some (.lst (rs.map V.ref))
  hlen : rs.length = i
  hitems : ∀ (j : Nat) x, rs[j]? = some x → x ≠ r ∧ H x = some (.lst (vi (GR.it j ns)))
  hdict : H p = some (.dT (kvsOf ns i))
  hth : H th = some (.lst (vi (GR.it i ns)))
  thr : th ≠ r
  inj : ∀ j k, j < k → k < i → GR.it j ns ≠ GR.it k ns
section
variable {ns : List Int} {H0 H : Hp} {i : Nat} {r p th : Addr} {rs : List Addr}
/-- a new thing beside it -/
theorem WkInv.beside (I : WkInv ns H0 i H r p th rs) {x : Addr} {o : HO} (n : H x = none) : WkInv ns H0 i (upd H x o) r p th rs where
  same := I.same.put (I.same.free n)
  r0 := I.r0
  p0 := I.p0
  hrow := Same.new n _ _ I.hrow
  hlen := I.hlen
  hitems := fun j y h => ⟨(I.hitems j y h).1, Same.new n _ _ (I.hitems j y h).2⟩
  hdict := Same.new n _ _ I.hdict
  hth := Same.new n _ _ I.hth
  thr := I.thr
  inj := I.inj
theorem WkInv.grown (I : WkInv ns H0 i H r p th rs) {H' : Hp} (s : Same H H') : WkInv ns H0 i H' r p th rs where
  same := I.same.trans s
  r0 := I.r0
  p0 := I.p0
  hrow := s _ _ I.hrow
  hlen := I.hlen
  hitems := fun j y h => ⟨(I.hitems j y h).1, s _ _ (I.hitems j y h).2⟩
  hdict := s _ _ I.hdict
  hth := s _ _ I.hth
  thr := I.thr
  inj := I.inj
/-- behind the dict's and the row's growth, and the next ring at q -/
theorem WkInv.next (I : WkInv ns H0 i H r p th rs) (hn : ∀ j, j < i → GR.it j ns ≠ GR.it i ns) {H' : Hp} {q : Addr} (s : Same (upd (upd H p (.dT (kvsOf ns (i + 1)))) r (.lst (rs.map V.ref ++ [V.ref th]))) H') (nq : upd (upd H p (.dT (kvsOf ns (i + 1)))) r (.lst (rs.map V.ref ++ [V.ref th])) q = none) (eq : H' q = some (.lst (vi (GR.it (i + 1) ns)))) :
    WkInv ns H0 (i + 1) H' r p q (rs ++ [th]) := by
  have npr : p ≠ r := ne_of I.hdict I.hrow (fun z => by cases z)
  have s1 : Same H0 (upd (upd H p (.dT (kvsOf ns (i + 1)))) r (.lst (rs.map V.ref ++ [V.ref th]))) := (I.same.put I.p0).put I.r0
  have keep : ∀ (x : Addr) (xs : List V), x ≠ r → H x = some (.lst xs) → H' x = some (.lst xs) := fun x xs hr hx => s _ _ (by
    rw [upd_ne hr, upd_ne (ne_of hx I.hdict (fun z => by cases z))]
    exact hx)
  refine ⟨s1.trans s, I.r0, I.p0, s _ _ (by rw [upd_same, List.map_append]; rfl), by rw [List.length_append, I.hlen]; rfl, fun j x hx => ?_, s _ _ (by rw [upd_ne npr, upd_same]), eq, fun z => ?_, fun j k hjk hk => ?_⟩
  · by_cases c : j < i
    · rw [List.getElem?_append_left (by rw [I.hlen]; exact c)] at hx
      exact ⟨(I.hitems j x hx).1, keep _ _ (I.hitems j x hx).1 (I.hitems j x hx).2⟩
    · rw [List.getElem?_append_right (by rw [I.hlen]; omega), I.hlen] at hx
      have e0 : j - i = 0 := by
        rcases Nat.eq_zero_or_pos (j - i) with q | q
        · exact q
        · rw [List.getElem?_eq_none (by simp only [List.length_cons, List.length_nil]; omega)] at hx
          cases hx
      rw [e0] at hx
      have ex : th = x := Option.some.inj hx
      have ej : j = i := by omega
      subst ex ej
      exact ⟨I.thr, keep _ _ I.thr I.hth⟩
  · rw [z, upd_same] at nq
    cases nq
  · by_cases c : k < i
    · exact I.inj j k hjk c
    · have ek : k = i := by omega
      subst ek
      exact hn j hjk
end
end GL
/-! ### list(reversed(a list)) -/
namespace GL
open PySem PySem.Spec PyProof.Rows L2 RT
section
variable {prog : Program} {w : World} {A : Around} {E : Value → Shared → Prop} {s : Shared} {it l S : Addr} {items : Array Value}
/-- an iterator that goes back over a list, and a list apart from both -/
structure RevRoom (s : Shared) (it l S : Addr) (items : Array Value) : Prop where
  iter : s.heap.IsRevIter it l ((items.size : Int) - 1)
  src : s.heap.IsList l items
  apart : l ≠ it
  few : items.size ≤ sizeLine
  it' : S ≠ it
  l' : S ≠ l
theorem RevRoom.on {h' : Heap} {t' : Nat} (x : RevRoom s it l S items) (k : ∀ b o, b ≠ S → s.heap.get? b = some o → h'.get? b = some o) : RevRoom { s with heap := h', toks := t' } it l S items :=
  ⟨x.iter.at fun o e => k it o x.it'.symm e, x.src.elim fun o h => ⟨o, k l o x.l'.symm h.1, h.2⟩, x.apart, x.few, x.it', x.l'⟩
/-- S holds the items from the last on; all but S and the iterator stands -/
def RevDone (s : Shared) (it S : Addr) (items : Array Value) (R : Shared → Prop) : Prop :=
  ∀ h' tk acc c, (∀ b o, b ≠ S → b ≠ it → s.heap.get? b = some o → h'.get? b = some o) → h'.get? S = some { cls := .type "list", dict := none, data := .seq acc c, slots := #[] } →
    ItemsOf (fun i v => items[items.size - 1 - i]? = some v) acc items.size → R { s with heap := h', toks := tk }
/-- such an iterator's hint makes no room -/
theorem hint_rev {Q : Bool → Shared → Prop} (hT : s.TypeIs (.ref it) "list_reverseiterator") (h : Q false s) : wpAny (model prog w) A (Builtin.List.listLengthHint (.ref it)) Q E s := by
  have own : splitId "list_reverseiterator.__length_hint__" = some ("list_reverseiterator", "__length_hint__") := by decide +kernel
  unfold Builtin.List.listLengthHint
  refine wpAny_bind (wpAny_specialOf hT nolen_lri (wpAny_bind (wpAny_specialOf hT hint_lri ?_)))
  generalize hid : ("list_reverseiterator.__length_hint__" : String) = id at own
  wp_delta
  rw [own]
  subst hid
  exact wpAny_bind (wpAny_isInstance (b := true) hT (by rw [isSubtype_type]; kernel_rfl) (wpAny_pure h))
/-- the list S, empty, takes the items -/
theorem take_rev {R : Result → Shared → Prop} {res : Value} {c0 : Nat} (hh : A.handled = none) (x : RevRoom s it l S items) (hS : s.heap.get? S = some { cls := .type "list", data := .seq #[] c0 }) (hR : RevDone s it S items (R (.ok (.ret res)))) :
    wpAny (model prog w) A.in1 (Builtin.List.listExtendWith (.ref S) (.ref it) res) (fun fin t => match fin with
      | .done f => R (.ok f) t
      | .again c' => c'.quiet = true ∧ codeAny (model prog w) A c' R t) (fun e t => R (.error e) t) s := by
  have walk := (Walks.listRev (prog := prog) (w := w) (A := A.in1) hh it l x.apart items).toS
  have other : Builtin.List.listSameRef (.ref S) (.ref it) = false := by simp [Builtin.List.listSameRef, x.it']
  have start : s.heap.IsRevIter it l ((items.size : Int) - 1 - ((0 : Nat) : Int)) := by simpa using x.iter
  unfold Builtin.List.listExtendWith
  refine wpAny_bind (wpAny_typeOf x.iter.typeIs ?_)
  rw [other, if_neg (by decide)]
  refine wpAny_bind (wpAny_pyIter_revIter (s := s) x.iter (wpAny_bind (wpAny_holding (hint_rev x.iter.typeIs ?_))))
  rw [if_neg (by decide)]
  refine wpAny_pure ⟨plainId_quiet F.plain_extend_loop _, codeAny_extend_loopS walk x.few _ (by simp [x.it', x.l']) _ items.size 0 _ _ _ rfl (Nat.zero_le _) ⟨Nat.zero_le _, start, x.src⟩ hS (ItemsOf.nil _) ?_⟩
  intro t acc c moved got all
  rw [Moved.eq_with moved]
  exact hR _ _ acc c (fun b o h1 h2 e => moved.heap b o (by simp [h1, h2]) e) got all
/-- list(..) of such an iterator, the list made anew -/
theorem call_list_rev {Q : Value → Shared → Prop} (hh : A.handled = none) (hit : s.heap.IsRevIter it l ((items.size : Int) - 1)) (hl : s.heap.IsList l items) (hne : l ≠ it) (hn : items.size ≤ sizeLine)
    (hQ : ∀ h' tk acc c, (∀ b o, b ≠ it → s.heap.get? b = some o → h'.get? b = some o) → h'.get? s.heap.objs.size = some { cls := .type "list", dict := none, data := .seq acc c, slots := #[] } →
      ItemsOf (fun i v => items[items.size - 1 - i]? = some v) acc items.size → Q (.ref s.heap.objs.size) { s with heap := h', toks := tk }) : wpAny (model prog w) A (call (.type "list") [.ref it]) Q E s := by
  have lt : ∀ {b o}, s.heap.get? b = some o → s.heap.objs.size ≠ b := fun e => Nat.ne_of_gt (Heap.lt_size e)
  let s1 : Shared := { s with heap := s.heap.push { cls := .type "list", data := .seq #[] } }
  have made : s1.heap.get? s.heap.objs.size = some { cls := .type "list", data := .seq #[] } := Heap.get?_push_size _ rfl
  have up : ∀ b o, s.heap.get? b = some o → s1.heap.get? b = some o := fun b o e => Heap.get?_push_of_some _ e
  refine callType_codes (Q₁ := fun obj t => obj = .ref s.heap.objs.size ∧ t = s1) F.called_list (F.typeCall_list_1 _) F.entry_list_init (code_list_new _ ⟨rfl, rfl⟩) ?_
  rintro _ _ ⟨rfl, rfl⟩
  refine ⟨⟨_, made, rfl⟩, F.args_list_init_2 _ _, ?_⟩
  -- __init__ takes out what was in it (nothing), then it takes the items
  show wpAny _ _ (do let old ← Builtin.List.listItems (.ref s.heap.objs.size); Builtin.List.listUpdate (.ref s.heap.objs.size) (fun _ => #[]); letGo old.toList.reverse; Builtin.List.listExtendWith (.ref s.heap.objs.size) (.ref it) .none) _ _ s1
  refine wpAny_bind (wpAny_listItems made rfl ?_)
  refine wpAny_bind (show wpAny _ _ (updateSeq s.heap.objs.size fun _ => #[]) _ _ s1 from wpAny_updateSeq made rfl (wpAny_bind (wpAny_letGo ?_)))
  have room : RevRoom s1 it l s.heap.objs.size items := ⟨hit.at fun o e => up _ o e, hl.push _, hne, hn, hit.elim fun o h => lt h.1, hl.elim fun o h => lt h.1⟩
  have stay : ∀ b o, b ≠ s.heap.objs.size → s1.heap.get? b = some o → (s1.heap.update s.heap.objs.size (Obj.mapSeq fun _ => (#[] : Array Value))).get? b = some o := fun b o hb e => (Heap.get?_update_other _ _ hb.symm).trans e
  refine take_rev (A := A.in1) hh (room.on (t' := s1.toks) stay) (Heap.get?_update_self (Obj.mapSeq fun _ => (#[] : Array Value)) made rfl) ?_
  intro h' tk acc c keep got all
  exact ⟨rfl, hQ h' tk acc c (fun b o hb e => keep b o (lt e).symm hb (stay b o (lt e).symm (up b o e))) got all⟩
end
/-- list(reversed(x)), x a list: a new list -/
def tListRev (K : PySem.W.Frag) (te : TE) : TE := fun σ H Q => te σ H fun v H1 => ∃ (a : Addr) (xs : List V), v = .ref a ∧ SqL K H1 a xs ∧ ∀ q, H1 q = none → Q (.ref q) (upd H1 q (.lst xs.reverse))
section
variable {X : Cx}
theorem pe_listRev {e : Expr} {te : TE} {p p2 pos pos2 : Pos} (hc : X.calm = true) (hg : Gl X "list") (hm : X.mg "list" = none) (hg2 : Gl X "reversed") (hm2 : X.mg "reversed" = none) (he : PE X e te)
    (h1 : starEach [e] X.env = (false, eval e X.env) :: starEach [] X.env := by rfl)
    (h2 : starEach [Expr.Call (.Name "reversed" p2) [e] [] pos2] X.env = (false, eval (Expr.Call (.Name "reversed" p2) [e] [] pos2) X.env) :: starEach [] X.env := by rfl) :
    PE X (.Call (.Name "list" p) [.Call (.Name "reversed" p2) [e] [] pos2] [] pos) (tListRev X.K te) where
  run := by
    intro pins s σ H Q I h
    have inner : ∀ {R : Value → Shared → Prop}, (∀ (t : Shared) (a : Addr) (xs : List V) (its : List Value) (H1 : Hp), L2.Inv X pins σ H1 t → Vals xs its → t.heap.IsList a its.toArray → xs.length ≤ sizeLine → (∀ q, H1 q = none → Q (.ref q) (upd H1 q (.lst xs.reverse))) →
        R (.ref t.heap.objs.size) { t with heap := t.heap.push (revObj a ((its.toArray.size : Int) - 1)) }) → wpAny (model X.prog X.w) X.A (eval (.Call (.Name "reversed" p2) [e] [] pos2) X.env) R X.xe s := fun {R} k =>
      Call_ (ld_blt I hg2 hm2 PyProof.Rows.boot_reversed (PyProof.Rows.callWith_type1 (args_cons (thn (he.run pins s σ H _ I h) fun u t hu => by
        obtain ⟨_, H1, I1, r1, a, xs, rfl, seq, q⟩ := hu
        cases r1
        obtain ⟨its, rel, there, few⟩ := I1.list seq
        exact args_nil (call_reversed_list there.isList (k t a xs its H1 I1 rel there.isList few q))) h1) h1 rfl))
    refine Call_ (ld_blt I hg hm bt_list (PyProof.Rows.callWith_type1 (args_cons (inner fun t a xs its H1 I1 rel there few q => args_nil ?_) h2) h2 rfl))
    have lt : ∀ {b o}, t.heap.get? b = some o → b ≠ t.heap.objs.size := fun e => Nat.ne_of_lt (Heap.lt_size e)
    have few' : its.toArray.size ≤ sizeLine := by rw [List.size_toArray, ← rel.length]; exact few
    refine call_list_rev (s := { t with heap := t.heap.push (revObj a ((its.toArray.size : Int) - 1)) }) (I1.ok.hd hc) ⟨_, Heap.get?_push_size _ rfl, rfl, rfl⟩ (there.push _) (there.elim fun o h => lt h.1) few' ?_
    intro h' tk acc c keep got all
    have behind : t.heap.objs.size ≤ (t.heap.push (revObj a ((its.toArray.size : Int) - 1))).objs.size := by rw [Heap.size_push]; exact Nat.le_succ _
    have back : ObjOk X.prog X.w (upd H1 (t.heap.push (revObj a ((its.toArray.size : Int) - 1))).objs.size (.lst xs.reverse)) h' (t.heap.push (revObj a ((its.toArray.size : Int) - 1))).objs.size (.lst xs.reverse) :=
      ⟨by rw [List.length_reverse]; exact few, acc.toList, c, vals_rev rel all, by rw [Array.toArray_toList]; exact got⟩
    exact ⟨.ref _, _, I1.laid (t' := tk) (fun b o e => keep b o (lt e) (Heap.get?_push_of_some _ e)) behind back, rfl, q _ (I1.hok.fresh behind)⟩
end
end GL
/-! ### dicts of sums; a walk over a dict's keys -/
namespace GL
open PySem PySem.Spec L2
theorem upd_id {H : Hp} {a : Addr} {o : HO} (h : H a = some o) : upd H a o = H := by
  funext b
  by_cases e : b = a
  · rw [e, upd_same, h]
  · rw [upd_ne e]
theorem upd_unlock {H : Hp} {d t : Addr} {u f o : HO} (ne : t ≠ d) (h : H d = some u) : upd (upd (upd H d f) t o) d u = upd H t o := by
  funext b
  by_cases e : b = d
  · rw [e, upd_same, upd_ne ne.symm, h]
  · rw [upd_ne e]
    by_cases e2 : b = t
    · rw [e2, upd_same, upd_same]
    · rw [upd_ne e2, upd_ne e2, upd_ne e]
theorem for_keys {d : Addr} {od : Obj} {kvs : List (Key × V)} {g : TG} {tb : TS} {D : Ends} {σ : L2.St} {H : Hp} (Pv : Nat → L2.St → Hp → Prop) (h0 : Pv 0 σ H) (hq : ∀ i σ H, Pv i σ H → H d = some (.frz od (.dK kvs)))
    (hs : ∀ (i : Nat) (k : Key) (v : V) (σ : L2.St) (H : Hp), kvs[i]? = some (k, v) → Pv i σ H → g (kV k) σ H fun σ2 H2 => tb { D with nx := Pv (i + 1), ct := Pv (i + 1), bk := D.nx } σ2 H2) (hd : ∀ σ H, Pv kvs.length σ H → D.nx σ H) :
    ∃ W : Nat → Nat → L2.St → Hp → Prop, (∃ m, W 0 m σ H) ∧ ∀ i m σ H, W i m σ H →
      ((Itk d od kvs).stop i H ∧ D.nx σ H) ∨ ((Itk d od kvs).go i H ∧ ∃ N : L2.St → Hp → Prop, (∀ σ' H', N σ' H' → ∃ m', m' < m ∧ W (i + 1) m' σ' H') ∧ ∀ x H', (Itk d od kvs).yld i H x H' → g x σ H' fun σ2 H2 => tb { D with nx := N, ct := N, bk := D.nx } σ2 H2) := by
  refine ⟨fun i m σ H => m = kvs.length - i ∧ i ≤ kvs.length ∧ Pv i σ H, ⟨kvs.length, rfl, Nat.zero_le _, h0⟩, ?_⟩
  rintro i m σ H ⟨rfl, hi, p⟩
  have q := hq i σ H p
  by_cases hlt : i < kvs.length
  · refine .inr ⟨⟨q, hlt⟩, Pv (i + 1), fun σ' H' p' => ⟨kvs.length - (i + 1), by omega, rfl, hlt, p'⟩, fun x H' y => ?_⟩
    obtain ⟨rfl, k, v, e, rfl⟩ := y
    exact hs i k v σ _ e p
  · have e : i = kvs.length := by omega
    subst e
    exact .inl ⟨⟨q, Nat.le_refl _⟩, hd σ H p⟩
theorem mem_putK {kvs : List (Key × V)} {k : Key} {v : V} {p : Key × V} (h : p ∈ putK kvs k v) : p.1 = k ∨ ∃ q ∈ kvs, q.1 = p.1 := by
  unfold putK at h
  split at h
  · obtain ⟨q, hq, e⟩ := List.mem_map.mp h
    by_cases c : q.1 = k
    · rw [if_pos c] at e
      rw [← e]
      exact .inl c
    · rw [if_neg c] at e
      exact .inr ⟨q, hq, by rw [e]⟩
  · rcases List.mem_append.mp h with e | e
    · exact .inr ⟨p, e, rfl⟩
    · rw [List.mem_singleton.mp e]
      exact .inl rfl
theorem valV_at {kvs : List (Key × V)} {k : Key} {v : V} (h : valV kvs k = some v) : ∃ (j : Nat) (w : V), kvs[j]? = some (k, w) := by
  unfold valV at h
  cases e : kvs.find? fun kv => decide (kv.1 = k) with
  | none =>
    rw [e] at h
    cases h
  | some p =>
    have hm := List.mem_of_find?_eq_some e
    have hk := List.find?_some e
    obtain ⟨j, hj, ej⟩ := List.getElem_of_mem hm
    refine ⟨j, p.2, ?_⟩
    rw [List.getElem?_eq_getElem hj, ej, ← of_decide_eq_true hk]
structure SumD (ns : List Int) (k : Nat) (kvs : List (Key × V)) : Prop where
  all : ∀ p ∈ kvs, ∃ s, p.1 = Sum.inl s ∧ GR.SS ns k s
  has : ∀ s, GR.SS ns k s → ∃ v, valV kvs (Sum.inl s : Key) = some v
  len : kvs.length ≤ 2 ^ k
theorem SumD.zero (ns : List Int) : SumD ns 0 [(Sum.inl 0, .bl true)] := by
  refine ⟨fun p hp => ?_, fun s hs => ?_, Nat.le_refl _⟩
  · rw [List.mem_singleton.mp hp]
    exact ⟨0, rfl, rfl⟩
  · have e : s = 0 := hs
    rw [e]
    exact ⟨_, valV_pos rfl⟩
theorem SumD.iff {ns : List Int} {k : Nat} {kvs : List (Key × V)} (D : SumD ns k kvs) (s : Int) : (valV kvs (Sum.inl s : Key)).isSome = true ↔ GR.SS ns k s := by
  constructor
  · intro h
    obtain ⟨v, e⟩ := Option.isSome_iff_exists.mp h
    obtain ⟨j, w, ej⟩ := valV_at e
    obtain ⟨t, et, q⟩ := D.all _ (List.mem_of_getElem? ej)
    have : s = t := Sum.inl.inj et
    rw [this]
    exact q
  · intro h
    obtain ⟨v, e⟩ := D.has s h
    rw [e]
    rfl
/-- the next dict, behind i keys of the last one -/
structure Mid (ns : List Int) (k : Nat) (kvs : List (Key × V)) (i : Nat) (kt : List (Key × V)) : Prop where
  all : ∀ p ∈ kt, ∃ s, p.1 = Sum.inl s ∧ GR.SS ns (k + 1) s
  has : ∀ (j : Nat) s v, j < i → kvs[j]? = some (Sum.inl s, v) → (∃ w, valV kt (Sum.inl s : Key) = some w) ∧ ∃ w, valV kt (Sum.inl (s + ns.getD k 0) : Key) = some w
  len : kt.length ≤ 2 * i
theorem Mid.zero (ns : List Int) (k : Nat) (kvs : List (Key × V)) : Mid ns k kvs 0 [] := ⟨(fun p hp => nomatch hp), fun j s v h => absurd h (Nat.not_lt_zero _), Nat.le_refl _⟩
theorem put_keep {kt : List (Key × V)} {k k' : Key} {v : V} (h : ∃ w, valV kt k = some w) : ∃ w, valV (putK kt k' v) k = some w := by
  rw [valV_put]
  by_cases c : k = k'
  · rw [if_pos c]
    exact ⟨_, rfl⟩
  · rw [if_neg c]
    exact h
theorem put_has {kt : List (Key × V)} {k : Key} {v : V} : ∃ w, valV (putK kt k v) k = some w := ⟨v, by rw [valV_put, if_pos rfl]⟩
theorem Mid.step {ns : List Int} {k : Nat} {kvs kt : List (Key × V)} {i : Nat} {s : Int} {v v1 v2 : V} (M : Mid ns k kvs i kt) (hs : GR.SS ns k s) (e : kvs[i]? = some (Sum.inl s, v)) : Mid ns k kvs (i + 1) (putK (putK kt (Sum.inl s) v1) (Sum.inl (s + ns.getD k 0)) v2) := by
  have up : GR.SS ns (k + 1) s := .inl hs
  have up2 : GR.SS ns (k + 1) (s + ns.getD k 0) := .inr (by rw [Int.add_sub_cancel]; exact hs)
  refine ⟨fun p hp => ?_, fun j t w hj ej => ?_, ?_⟩
  · rcases mem_putK hp with h | ⟨q, hq, h⟩
    · exact ⟨_, h, up2⟩
    · rcases mem_putK hq with h2 | ⟨q2, hq2, h2⟩
      · exact ⟨_, by rw [← h, h2], up⟩
      · obtain ⟨t, et, qt⟩ := M.all q2 hq2
        exact ⟨t, by rw [← h, ← h2, et], qt⟩
  · by_cases c : j < i
    · obtain ⟨a, b⟩ := M.has j t w c ej
      exact ⟨put_keep (put_keep a), put_keep (put_keep b)⟩
    · have eji : j = i := by omega
      rw [eji, e] at ej
      have est : s = t := Sum.inl.inj (Prod.mk.inj (Option.some.inj ej)).1
      rw [← est]
      exact ⟨put_keep put_has, put_has⟩
  · have a := length_putK (putK kt (Sum.inl s) v1) (Sum.inl (s + ns.getD k 0) : Key) v2
    have b := length_putK kt (Sum.inl s : Key) v1
    have := M.len
    omega
theorem Mid.done {ns : List Int} {k : Nat} {kvs kt : List (Key × V)} (D : SumD ns k kvs) (M : Mid ns k kvs kvs.length kt) : SumD ns (k + 1) kt := by
  have ix : ∀ s, GR.SS ns k s → ∃ (j : Nat) (w : V), j < kvs.length ∧ kvs[j]? = some (Sum.inl s, w) := fun s hs => by
    obtain ⟨v, e⟩ := D.has s hs
    obtain ⟨j, w, ej⟩ := valV_at e
    exact ⟨j, w, (List.getElem?_eq_some_iff.mp ej).1, ej⟩
  refine ⟨M.all, fun t ht => ?_, ?_⟩
  · rcases ht with h | h
    · obtain ⟨j, w, hj, ej⟩ := ix t h
      exact (M.has j t w hj ej).1
    · obtain ⟨j, w, hj, ej⟩ := ix _ h
      have q := (M.has j _ w hj ej).2
      rw [Int.sub_add_cancel] at q
      exact q
  · have a := D.len
    have b := M.len
    rw [Nat.pow_succ]
    omega
/-- one dict, grown in place -/
structure Gro (ns : List Int) (k : Nat) (kvs : List (Key × V)) (i : Nat) (kt : List (Key × V)) : Prop where
  all : ∀ p ∈ kt, ∃ s, p.1 = Sum.inl s ∧ GR.SS ns (k + 1) s
  old : ∀ s, GR.SS ns k s → ∃ v, valV kt (Sum.inl s : Key) = some v
  has : ∀ (j : Nat) s v, j < i → kvs[j]? = some (Sum.inl s, v) → ∃ w, valV kt (Sum.inl (s + ns.getD k 0) : Key) = some w
  len : kt.length ≤ kvs.length + i
theorem Gro.zero {ns : List Int} {k : Nat} {kvs : List (Key × V)} (D : SumD ns k kvs) : Gro ns k kvs 0 kvs :=
  ⟨fun p hp => by obtain ⟨s, e, q⟩ := D.all p hp; exact ⟨s, e, .inl q⟩, D.has, fun j s v h => absurd h (Nat.not_lt_zero _), Nat.le_refl _⟩
theorem Gro.step {ns : List Int} {k : Nat} {kvs kt : List (Key × V)} {i : Nat} {s : Int} {v v2 : V} (M : Gro ns k kvs i kt) (hs : GR.SS ns k s) (e : kvs[i]? = some (Sum.inl s, v)) : Gro ns k kvs (i + 1) (putK kt (Sum.inl (s + ns.getD k 0)) v2) := by
  have up2 : GR.SS ns (k + 1) (s + ns.getD k 0) := .inr (by rw [Int.add_sub_cancel]; exact hs)
  refine ⟨fun p hp => ?_, fun t ht => put_keep (M.old t ht), fun j t w hj ej => ?_, ?_⟩
  · rcases mem_putK hp with h | ⟨q, hq, h⟩
    · exact ⟨_, h, up2⟩
    · obtain ⟨t, et, qt⟩ := M.all q hq
      exact ⟨t, by rw [← h, et], qt⟩
  · by_cases c : j < i
    · exact put_keep (M.has j t w c ej)
    · have eji : j = i := by omega
      rw [eji, e] at ej
      have est : s = t := Sum.inl.inj (Prod.mk.inj (Option.some.inj ej)).1
      rw [← est]
      exact put_has
  · have b := length_putK kt (Sum.inl (s + ns.getD k 0) : Key) v2
    have := M.len
    omega
theorem Gro.done {ns : List Int} {k : Nat} {kvs kt : List (Key × V)} (D : SumD ns k kvs) (M : Gro ns k kvs kvs.length kt) : SumD ns (k + 1) kt := by
  refine ⟨M.all, fun t ht => ?_, ?_⟩
  · rcases ht with h | h
    · exact M.old t h
    · obtain ⟨v, e⟩ := D.has _ h
      obtain ⟨j, w, ej⟩ := valV_at e
      have q := M.has j _ w (List.getElem?_eq_some_iff.mp ej).1 ej
      rw [Int.sub_add_cancel] at q
      exact q
  · have a := D.len
    have b := M.len
    rw [Nat.pow_succ]
    omega
end GL
/-! ### the text by places -/
namespace GK
open PySem PySem.Spec PyProof.Rows L2 GL
def topS (i : Nat) : Stmt := PySem.Challenge.pw_gapring_k08_whole_each_gap_ring_has_one.main.body.getD i (.Pass ⟨0, 0, 0, 0⟩)
abbrev s_asked : Stmt := topS 7
abbrev s_gaps_of : Stmt := topS 8
abbrev s_gaps : Stmt := topS 9
abbrev s_walked : Stmt := topS 10
abbrev s_after : Stmt := topS 11
abbrev s_parting : Stmt := topS 13
abbrev s_ahead : Stmt := topS 14
abbrev s_tail_and_wheel : Stmt := topS 16
abbrev s_l_cell_at : Stmt := topS 18
abbrev s_l_draw : Stmt := topS 19
abbrev s_l_whole : Stmt := topS 20
abbrev s_l_ring_by : Stmt := topS 21
abbrev s_l_gaps : Stmt := topS 22
abbrev s_l_is : Stmt := topS 23
abbrev s_law : Stmt := topS 24
abbrev N_asked : List Str := ["ring", "number"]
theorem sc_asked : FnScope N_asked ["ring"] (defScope s_asked) := ⟨rfl, rfl, rfl, by decide +kernel, rfl, by decide +kernel, by decide +kernel⟩
abbrev N_gaps_of : List Str := ["ring", "k"]
theorem sc_gaps_of : FnScope N_gaps_of ["ring"] (defScope s_gaps_of) := ⟨rfl, rfl, rfl, by decide +kernel, rfl, by decide +kernel, by decide +kernel⟩
abbrev N_gaps : List Str := ["ring"]
theorem sc_gaps : FnScope N_gaps ["ring"] (defScope s_gaps) := ⟨rfl, rfl, rfl, by decide +kernel, rfl, by decide +kernel, by decide +kernel⟩
abbrev N_walked : List Str := ["ring", "row", "places", "then"]
theorem sc_walked : FnScope N_walked ["ring"] (defScope s_walked) := ⟨rfl, rfl, rfl, by decide +kernel, rfl, by decide +kernel, by decide +kernel⟩
abbrev N_after : List Str := ["ring", "turns", "row", "tail"]
theorem sc_after : FnScope N_after ["ring", "turns"] (defScope s_after) := ⟨rfl, rfl, rfl, by decide +kernel, rfl, by decide +kernel, by decide +kernel⟩
abbrev N_parting : List Str := ["ring", "total", "sums", "number", "then", "one", "left", "found", "k", "taken"]
theorem sc_parting : FnScope N_parting ["ring"] (defScope s_parting) := ⟨rfl, rfl, rfl, by decide +kernel, rfl, by decide +kernel, by decide +kernel⟩
abbrev N_ahead : List Str := ["ring", "sides", "row", "number", "up", "least"]
theorem sc_ahead : FnScope N_ahead ["ring"] (defScope s_ahead) := ⟨rfl, rfl, rfl, by decide +kernel, rfl, by decide +kernel, by decide +kernel⟩
abbrev N_tail_and_wheel : List Str := ["ring", "row", "tail"]
theorem sc_tail_and_wheel : FnScope N_tail_and_wheel ["ring"] (defScope s_tail_and_wheel) := ⟨rfl, rfl, rfl, by decide +kernel, rfl, by decide +kernel, by decide +kernel⟩
abbrev N_l_cell_at : List Str := ["script", "k"]
theorem sc_l_cell_at : FnScope N_l_cell_at ["script", "k"] (defScope s_l_cell_at) := ⟨rfl, rfl, rfl, by decide +kernel, rfl, by decide +kernel, by decide +kernel⟩
abbrev N_l_draw : List Str := ["cell", "k", "bound", "stir"]
theorem sc_l_draw : FnScope N_l_draw ["cell", "k", "bound"] (defScope s_l_draw) := ⟨rfl, rfl, rfl, by decide +kernel, rfl, by decide +kernel, by decide +kernel⟩
abbrev N_l_whole : List Str := ["found"]
theorem sc_l_whole : FnScope N_l_whole ["found"] (defScope s_l_whole) := ⟨rfl, rfl, rfl, by decide +kernel, rfl, by decide +kernel, by decide +kernel⟩
abbrev N_l_ring_by : List Str := ["script", "first", "cell", "size", "bound", "ring", "k", "number"]
theorem sc_l_ring_by : FnScope N_l_ring_by ["script", "first"] (defScope s_l_ring_by) := ⟨rfl, rfl, rfl, by decide +kernel, rfl, by decide +kernel, by decide +kernel⟩
abbrev N_l_gaps : List Str := ["ring", "k"]
theorem sc_l_gaps : FnScope N_l_gaps ["ring"] (defScope s_l_gaps) := ⟨rfl, rfl, rfl, by decide +kernel, rfl, by decide +kernel, by decide +kernel⟩
abbrev N_l_is : List Str := ["found", "due", "number"]
theorem sc_l_is : FnScope N_l_is ["found", "due"] (defScope s_l_is) := ⟨rfl, rfl, rfl, by decide +kernel, rfl, by decide +kernel, by decide +kernel⟩
abbrev N_law : List Str := ["script", "ring", "turns", "here", "found"]
theorem sc_law : FnScope N_law ["script"] (defScope s_law) := ⟨rfl, rfl, rfl, by decide +kernel, rfl, by decide +kernel, by decide +kernel⟩
/-- what the top has left -/
structure Txt (K : PySem.W.Frag) (mg : Str → Option Value) where
  f_asked : Addr
  d_asked : FuncData
  F_asked : Fun K "asked" "asked" s_asked f_asked d_asked
  b_asked : Binds K d_asked ["ring"] []
  g_asked : mg "asked" = some (.ref f_asked)
  f_gaps_of : Addr
  d_gaps_of : FuncData
  F_gaps_of : Fun K "gaps_of" "gaps_of" s_gaps_of f_gaps_of d_gaps_of
  b_gaps_of : Binds K d_gaps_of ["ring"] []
  g_gaps_of : mg "gaps_of" = some (.ref f_gaps_of)
  f_gaps : Addr
  d_gaps : FuncData
  F_gaps : Fun K "gaps" "gaps" s_gaps f_gaps d_gaps
  b_gaps : Binds K d_gaps ["ring"] []
  g_gaps : mg "gaps" = some (.ref f_gaps)
  f_walked : Addr
  d_walked : FuncData
  F_walked : Fun K "walked" "walked" s_walked f_walked d_walked
  b_walked : Binds K d_walked ["ring"] []
  g_walked : mg "walked" = some (.ref f_walked)
  f_after : Addr
  d_after : FuncData
  F_after : Fun K "after" "after" s_after f_after d_after
  b_after : Binds K d_after ["ring", "turns"] []
  g_after : mg "after" = some (.ref f_after)
  f_parting : Addr
  d_parting : FuncData
  F_parting : Fun K "parting" "parting" s_parting f_parting d_parting
  b_parting : Binds K d_parting ["ring"] []
  g_parting : mg "parting" = some (.ref f_parting)
  f_ahead : Addr
  d_ahead : FuncData
  F_ahead : Fun K "ahead" "ahead" s_ahead f_ahead d_ahead
  b_ahead : Binds K d_ahead ["ring"] []
  g_ahead : mg "ahead" = some (.ref f_ahead)
  f_tail_and_wheel : Addr
  d_tail_and_wheel : FuncData
  F_tail_and_wheel : Fun K "tail_and_wheel" "tail_and_wheel" s_tail_and_wheel f_tail_and_wheel d_tail_and_wheel
  b_tail_and_wheel : Binds K d_tail_and_wheel ["ring"] []
  g_tail_and_wheel : mg "tail_and_wheel" = some (.ref f_tail_and_wheel)
  f_l_cell_at : Addr
  d_l_cell_at : FuncData
  F_l_cell_at : Fun K "_law_cell_at" "_law_cell_at" s_l_cell_at f_l_cell_at d_l_cell_at
  b_l_cell_at : Binds K d_l_cell_at ["script", "k"] []
  g_l_cell_at : mg "_law_cell_at" = some (.ref f_l_cell_at)
  f_l_draw : Addr
  d_l_draw : FuncData
  F_l_draw : Fun K "_law_draw" "_law_draw" s_l_draw f_l_draw d_l_draw
  b_l_draw : Binds K d_l_draw ["cell", "k", "bound"] []
  g_l_draw : mg "_law_draw" = some (.ref f_l_draw)
  f_l_whole : Addr
  d_l_whole : FuncData
  F_l_whole : Fun K "_law_whole" "_law_whole" s_l_whole f_l_whole d_l_whole
  b_l_whole : Binds K d_l_whole ["found"] []
  g_l_whole : mg "_law_whole" = some (.ref f_l_whole)
  f_l_ring_by : Addr
  d_l_ring_by : FuncData
  F_l_ring_by : Fun K "_law_ring_by" "_law_ring_by" s_l_ring_by f_l_ring_by d_l_ring_by
  b_l_ring_by : Binds K d_l_ring_by ["script", "first"] []
  g_l_ring_by : mg "_law_ring_by" = some (.ref f_l_ring_by)
  f_l_gaps : Addr
  d_l_gaps : FuncData
  F_l_gaps : Fun K "_law_gaps" "_law_gaps" s_l_gaps f_l_gaps d_l_gaps
  b_l_gaps : Binds K d_l_gaps ["ring"] []
  g_l_gaps : mg "_law_gaps" = some (.ref f_l_gaps)
  f_l_is : Addr
  d_l_is : FuncData
  F_l_is : Fun K "_law_is" "_law_is" s_l_is f_l_is d_l_is
  b_l_is : Binds K d_l_is ["found", "due"] []
  g_l_is : mg "_law_is" = some (.ref f_l_is)
  f_law : Addr
  d_law : FuncData
  F_law : Fun K "law" "law" s_law f_law d_law
  b_law : Binds K d_law ["script"] []
  g_law : mg "law" = some (.ref f_law)
  c_FEWEST : ∃ t, mg "FEWEST" = some (.int 3 t)
  c_MOST : ∃ t, mg "MOST" = some (.int 16 t)
  c_GREATEST : ∃ t, mg "GREATEST" = some (.int 1000 t)
  z_abs : mg "abs" = none
  z_bool : mg "bool" = none
  z_int : mg "int" = none
  z_isinstance : mg "isinstance" = none
  z_len : mg "len" = none
  z_list : mg "list" = none
  z_max : mg "max" = none
  z_min : mg "min" = none
  z_range : mg "range" = none
  z_reversed : mg "reversed" = none
  z_sum : mg "sum" = none
  z_tuple : mg "tuple" = none
  z_zip : mg "zip" = none
section
variable {P : Program} {w : World} {K : PySem.W.Frag} {mg : Str → Option Value} {base : Heap}
/-! ### asked: a ring passes -/
def sp_asked (K : PySem.W.Frag) : Sp := fun vs H Q _ => ∃ (a : Addr) (ns : List Int), vs = [.ref a] ∧ SqL K H a (vi ns) ∧ GR.Ring ns ∧ Q .non H
theorem ok_asked (T : Txt K mg) : FnOk P w K mg base CX0 1 T.f_asked T.d_asked ["ring"] (sp_asked K) := by
  refine T.F_asked.ok sc_asked (fun vs H Q E h => ?_) (fun cdv A outer s H vs Q E hr h => ?_)
  · obtain ⟨a, ns, rfl, _⟩ := h
    rfl
  · obtain ⟨a, ns, rfl, hS, R, q⟩ := h
    refine ⟨_, pss_cons (ps_if (PW.pt (pw_or (pt_cmpR op_lt (pe_callB call_len_seq (by rfl) T.z_len bt_len (pa_cons (pv 0) pa_nil)) (pe_num T.c_FEWEST) (nomark _))
        (pw_or1 (pt_cmpR op_gt (pe_callB call_len_seq (by rfl) T.z_len bt_len (pa_cons (pv 0) pa_nil)) (pe_num T.c_MOST) (nomark _))))) pss_never pss_nil)
      (pss_one (ps_for PassesOwn.never rfl (pi_list (pv 0)) (pg_name (i := 1) sc_asked.nd rfl (.inl rfl))
        (pss_one (ps_if (PW.pt (pw_or (pt_cmpR op_lt (pv 1) pe_int (nomark _)) (pw_or1 (pt_cmpR op_gt (pv 1) (pe_num T.c_GREATEST) (nomark _))))) pss_never pss_nil)))), ?_⟩
    have h3 := R.lo
    have h16 := R.hi
    refine ⟨_, rfl, a, _, rfl, .inl hS, _, _, rfl, rfl, _, rfl, ifN (by rw [vi_len]; omega) ?_⟩
    refine ⟨_, rfl, a, _, rfl, .inl hS, _, _, rfl, rfl, _, rfl, ifN (by rw [vi_len]; omega) ?_⟩
    refine ⟨_, rfl, a, rfl, ⟨_, hS⟩, for_list (K := K) (a := a) (xs := vi ns) (fun i σ H' => ∃ v, σ = [some (.ref a), v] ∧ H' = H) ⟨none, rfl, rfl⟩ (fun i σ H' _ ⟨_, _, e⟩ => e ▸ hS) ?_ ?_⟩
    · rintro i x σ H' hi ⟨v, rfl, rfl⟩
      obtain ⟨z, hz, rfl⟩ := vi_at hi
      have b := R.bd z (List.mem_of_getElem? hz)
      refine ⟨_, rfl, _, _, rfl, rfl, _, rfl, ifN (by omega) ?_⟩
      exact ⟨_, rfl, _, _, rfl, rfl, _, rfl, ifN (by omega) ⟨_, rfl, rfl⟩⟩
    · rintro σ H' ⟨v, rfl, rfl⟩
      exact q
/-! ### gaps_of -/
theorem gapE {ns : List Int} {j k : Nat} {i : Int} (hk : k < ns.length) (hj : j = (k + 1) % ns.length) (e : i = ns.getD k 0 - ns.getD j 0) : V.int (if i < 0 then -i else i) = V.int ((GR.gp ns).getD k 0) := by
  subst e hj
  rw [abs_eq, GR.gp_get hk]
theorem gp_take {ns : List Int} {k : Nat} (h : k < ns.length) : vi ((GR.gp ns).take k) ++ [V.int ((GR.gp ns).getD k 0)] = vi ((GR.gp ns).take (k + 1)) := by
  have h' : k < (GR.gp ns).length := by rw [GR.gp_length]; exact h
  show List.map V.int _ ++ _ = List.map V.int _
  rw [List.take_add_one, getD_some h', List.map_append]
  rfl
theorem gp_all (ns : List Int) : (GR.gp ns).take ns.length = GR.gp ns := List.take_of_length_le (Nat.le_of_eq (GR.gp_length ns))
def sp_gapsL (K : PySem.W.Frag) (lo : Nat) : Sp := fun vs H Q _ => ∃ (a : Addr) (ns : List Int), vs = [.ref a] ∧ SqL K H a (vi ns) ∧ lo ≤ ns.length ∧ ns.length ≤ 1000 ∧
  ∀ H' p, Same H H' → H p = none → H' p = some (.lst (vi (GR.gp ns))) → Q (.ref p) H'
theorem ok_gaps_of (T : Txt K mg) : FnOk P w K mg base CX0 1 T.f_gaps_of T.d_gaps_of ["ring"] (sp_gapsL K 1) := by
  refine T.F_gaps_of.ok sc_gaps_of (fun vs H Q E h => ?_) (fun cdv A outer s H vs Q E hr h => ?_)
  · obtain ⟨a, ns, rfl, _⟩ := h
    rfl
  · obtain ⟨a, ns, rfl, hS, h1, h16, q⟩ := h
    refine ⟨_, pss_one (ps_ret (pe_op op_cat
      (pe_lc (own := [("k", 1)]) (g := gName 1) (tt := tYes) rfl sc_gaps_of.nd (pi_range2 (by rfl) T.z_range (pa_cons pe_int (pa_cons (pe_callB call_len_seq (by rfl) T.z_len bt_len (pa_cons (pv 0) pa_nil)) pa_nil)))
        (blkOk_by (own := [("k", 1)]) (N := N_gaps_of) (sc := defScope s_gaps_of) (by decide +kernel)) (fun _ _ _ _ _ => pg_name (i := 1) sc_gaps_of.nd rfl (Or.inl rfl)) (fun _ _ _ _ _ => pts_nil)
        (fun _ _ _ _ _ => pe_callB call_abs (by rfl) T.z_abs bt_abs (pa_cons (pe_op op_sub (pe_ix (ixL K rfl) (pv 0) (pe_op op_sub (pv 1) pe_int) (fun _ _ => rfl)) (pe_ix (ixL K rfl) (pv 0) (pv 1) (fun _ _ => rfl))) pa_nil)))
      (pe_lst (pa_cons (pe_callB call_abs (by rfl) T.z_abs bt_abs (pa_cons (pe_op op_sub (pe_ix ix_list (pv 0) (pe_un un_neg pe_int) (fun _ _ => rfl)) (pe_ix ix_list (pv 0) pe_int (fun _ _ => rfl))) pa_nil)) pa_nil)))), ?_⟩
    refine ⟨_, rfl, a, _, rfl, .inl hS, _, _, rfl, ⟨by decide, by decide, by rw [vi_len]; omega, by rw [vi_len]; omega⟩, fun D nD => ?_⟩
    refine lc_range (lo := 1) (n := _) (fun i H' => Same H H' ∧ H' D = some (.lst (vi ((GR.gp ns).take i)))) ⟨Same.new nD, upd_same⟩ ?_ ?_
    · rintro i H' hi ⟨sm, eD⟩
      rw [vi_len] at hi
      have hA := sm.seq hS
      have k0 : i < ns.length := by omega
      have k1 : i + 1 < ns.length := by omega
      refine ⟨rfl, ?_⟩
      refine ⟨_, rfl, _, rfl, _, _, rfl, rfl, a, _, _, _, rfl, rfl, hA, atI_of (j := i) (by omega) (vi_nth k0), _, rfl, _, rfl, a, _, _, _, rfl, rfl, hA, atI_of (j := i + 1) (by omega) (vi_nth k1), _, _, rfl, rfl, _, rfl, _, eD, ?_, ?_⟩
      · exact line_lt (by rw [vi_len, List.length_take, GR.gp_length]; omega)
      · refine ⟨fun b o e => ?_, ?_⟩
        · rw [upd_ne (ne_of_none e nD)]
          exact sm b o e
        · rw [upd_same, gapE (j := i + 1) k0 (by rw [Nat.mod_eq_of_lt k1]) rfl, gp_take k0]
    · rintro H' ⟨sm, eD⟩
      have hA := sm.seq hS
      have kl : ns.length - 1 < ns.length := by omega
      have kz : 0 < ns.length := by omega
      rw [vi_len] at eD
      have en : ((ns.length : Int) - 1).toNat = ns.length - 1 := by omega
      rw [en] at eD
      refine ⟨_, rfl, _, rfl, a, _, _, _, rfl, rfl, hA, atI_neg (by rw [vi_len]; exact vi_nth kl), _, rfl, a, _, _, _, rfl, rfl, hA, atI_of (j := 0) rfl (vi_nth kz), _, _, rfl, rfl, _, rfl, (by show 1 ≤ sizeLine; decide), fun B nB => ?_⟩
      have nDB : D ≠ B := ne_of_none eD nB
      refine ⟨D, B, _, _, rfl, rfl, by rw [upd_ne nDB]; exact eD, upd_same, ?_, fun p np => ?_⟩
      · exact line_le (by rw [vi_len, List.length_take, GR.gp_length]; simp only [List.length_cons, List.length_nil]; omega)
      · have npB : H' p = none := by
          rw [upd_ne (fun z => by rw [z, upd_same] at np; cases np)] at np
          exact np
        refine q _ p ((sm.put (sm.free nB)).put (sm.free npB)) (sm.free npB) ?_
        rw [upd_same, gapE (j := 0) kl (by rw [show ns.length - 1 + 1 = ns.length by omega, Nat.mod_self]) rfl, gp_take kl, show ns.length - 1 + 1 = ns.length by omega, gp_all]
/-! ### gaps -/
def sp_gaps (K : PySem.W.Frag) : Sp := fun vs H Q _ => ∃ (a : Addr) (ns : List Int), vs = [.ref a] ∧ SqL K H a (vi ns) ∧ GR.Ring ns ∧
  ∀ H' p, Same H H' → H p = none → H' p = some (.lst (vi (GR.gp ns))) → Q (.ref p) H'
theorem ok_gaps (T : Txt K mg) : FnOk P w K mg base CX0 2 T.f_gaps T.d_gaps ["ring"] (sp_gaps K) := by
  refine T.F_gaps.ok sc_gaps (fun vs H Q E h => ?_) (fun cdv A outer s H vs Q E hr h => ?_)
  · obtain ⟨a, ns, rfl, _⟩ := h
    rfl
  · obtain ⟨a, ns, rfl, hS, R, q⟩ := h
    refine ⟨_, pss_cons (ps_expr (pe_call (ok_asked T) hr (by rfl) T.g_asked T.F_asked.kp T.b_asked .nil pass0 (pa_cons (pv 0) pa_nil)))
      (pss_one (ps_ret (pe_call (ok_gaps_of T) hr (by rfl) T.g_gaps_of T.F_gaps_of.kp T.b_gaps_of .nil pass0 (pa_cons (pv 0) pa_nil)))), ?_⟩
    refine ⟨_, rfl, a, ns, rfl, hS, R, _, rfl, a, ns, rfl, hS, by have := R.lo; omega, by have := R.hi; omega, fun H' p sm np ep => ?_⟩
    exact q H' p sm np ep
/-! ### walked: all rings to which a ring comes -/
def sp_walked (K : PySem.W.Frag) : Sp := fun vs H Q _ => ∃ (a : Addr) (ns : List Int), vs = [.ref a] ∧ SqL K H a (vi ns) ∧ GR.Ring ns ∧
  ∀ (H' : Hp) (t r : Addr) (rs : List Addr) (L Tl : Nat), Same H H' → H t = none → H' t = some (.tup [.ref r, .int (Tl : Nat)]) → H' r = some (.lst (rs.map V.ref)) → rs.length = L → (∀ (j : Nat) x, rs[j]? = some x → H' x = some (.lst (vi (GR.it j ns)))) → GR.Wk ns L Tl → Q (.ref t) H'
theorem ok_walked (T : Txt K mg) : FnOk P w K mg base CX0 2 T.f_walked T.d_walked ["ring"] (sp_walked K) := by
  refine T.F_walked.ok sc_walked (fun vs H Q E h => ?_) (fun cdv A outer s H vs Q E hr h => ?_)
  · obtain ⟨a, ns, rfl, _⟩ := h
    rfl
  · obtain ⟨a, ns, rfl, hS, R, q⟩ := h
    have hu := hu_of hr
    have R3 := R.lo
    have R16 := R.hi
    refine ⟨_, (pss_cons (ps_set (i := 1) sc_walked.nd rfl (.inl rfl) (pe_lst (pa_cons (pe_callTy (listL K rfl) (by rfl) T.z_list bt_list (pa_cons (pv 0) pa_nil)) pa_nil)))
      (pss_cons (ps_set (i := 2) sc_walked.nd rfl (.inl rfl) (pe_disp1T hu (pe_callTy (tupleL K rfl) (by rfl) T.z_tuple bt_tuple (pa_cons (pv 0) pa_nil)) pe_int))
      (pss_cons (ps_set (i := 3) sc_walked.nd rfl (.inl rfl) (pe_call (ok_gaps_of T) (hr.mono (by decide)) (by rfl) T.g_gaps_of T.F_gaps_of.kp T.b_gaps_of .nil pass0 (pa_cons (pv 0) pa_nil)))
      (pss_cons (ps_while PassesOwn.never (pt_cmp (pc_dnotin hu (pe_callTy (tupleL K rfl) (by rfl) T.z_tuple bt_tuple (pa_cons (pv 3) pa_nil)) (pv 2))) (pss_cons (ps_dput hu (pv 2) (pe_callTy (tupleL K rfl) (by rfl) T.z_tuple bt_tuple (pa_cons (pv 3) pa_nil)) (pe_callB (lenL K rfl) (by rfl) T.z_len bt_len (pa_cons (pv 1) pa_nil)) rfl)
      (pss_cons (ps_expr (pe_bm PySem.F.plainAttrs_list PySem.F.slot_list_append PySem.F.type_list_append mt_append (pv 1) (pa_cons (pv 3) pa_nil)))
      (pss_one (ps_set (i := 3) sc_walked.nd rfl (.inl rfl) (pe_call (ok_gaps_of T) (hr.mono (by decide)) (by rfl) T.g_gaps_of T.F_gaps_of.kp T.b_gaps_of .nil pass0 (pa_cons (pv 3) pa_nil)))))))
      (pss_one (ps_ret (pe_tup (pa_cons (pv 1) (pa_cons (pe_dget hu (pv 2) (pe_callTy (tupleL K rfl) (by rfl) T.z_tuple bt_tuple (pa_cons (pv 3) pa_nil)) (fun _ _ => rfl)) pa_nil))))))))), ?_⟩
    -- row = [list(ring)]
    refine ⟨_, rfl, a, _, rfl, .inl hS, fun c nc => ⟨by show 1 ≤ sizeLine; decide, fun r nr => ?_⟩⟩
    have s1 : Same H (upd H c (.lst (vi ns))) := Same.new nc
    have s2 := Same.new (o := .lst [.ref c]) nr
    have nrH := s1.free nr
    have ec : (upd (upd H c (.lst (vi ns))) r (.lst [.ref c])) c = some (.lst (vi ns)) := s2 _ _ upd_same
    -- places = {tuple(ring): 0}
    intro p np
    have s3 := Same.new (o := .dT []) np
    have sA := (s1.trans s2).trans s3
    have npr : p ≠ r := (new_ne np).symm
    refine ⟨_, rfl, a, _, rfl, .inl ⟨sA.seq hS, fun b nb => ?_⟩⟩
    have nbp : p ≠ b := ne_of_none upd_same nb
    refine ⟨by rw [upd_ne nbp]; exact upd_same, keyL ns, b, rfl, by rw [upd_same, keyL_kV], ?_⟩
    -- then = gaps_of(ring)
    have npH := (s1.trans s2).free np
    have nbH := sA.free nb
    have sB : Same H (upd (upd (upd (upd (upd H c (.lst (vi ns))) r (.lst [.ref c])) p (.dT [])) b (.tup (vi ns))) p (.dT [(keyL ns, .int 0)])) := (sA.put nbH).put npH
    refine ⟨_, rfl, a, ns, rfl, sB.seq hS, by omega, by omega, fun H2 th sm nth eth => ?_⟩
    have nbr : b ≠ r := by
      intro z
      rw [z, upd_ne npr.symm, upd_same] at nb
      cases nb
    have er : (upd (upd (upd (upd (upd H c (.lst (vi ns))) r (.lst [.ref c])) p (.dT [])) b (.tup (vi ns))) p (.dT [(keyL ns, .int 0)])) r = some (.lst [.ref c]) := by
      rw [upd_ne npr.symm, upd_ne nbr.symm, upd_ne npr.symm, upd_same]
    have ecr : c ≠ r := (new_ne nr)
    have ecp : c ≠ p := ne_of_none ec np
    have ecb : c ≠ b := ne_of_none (s3 _ _ ec) nb
    have ecc : (upd (upd (upd (upd (upd H c (.lst (vi ns))) r (.lst [.ref c])) p (.dT [])) b (.tup (vi ns))) p (.dT [(keyL ns, .int 0)])) c = some (.lst (vi ns)) := by
      rw [upd_ne ecp, upd_ne ecb, upd_ne ecp]
      exact ec
    have I1 : WkInv ns H 1 H2 r p th [c] := by
      refine ⟨sB.trans sm, nrH, npH, sm _ _ er, rfl, fun j x hx => ?_, sm _ _ upd_same, eth, fun z => ?_, fun j k h1 h2 => by omega⟩
      · cases j with
        | zero =>
          have ex : c = x := Option.some.inj hx
          rw [← ex]
          exact ⟨ecr, sm _ _ ecc⟩
        | succ j => simp at hx
      · rw [z, er] at nth
        cases nth
    refine ⟨fun m σ H' => ∃ (i : Nat) (th : Addr) (rs : List Addr), m + i = 80538 ∧ σ = [some (.ref a), some (.ref r), some (.ref p), some (.ref th)] ∧ WkInv ns H i H' r p th rs, ⟨80537, 1, th, [c], rfl, rfl, I1⟩, ?_⟩
    rintro m σ H' ⟨i, th, rs, em, rfl, I⟩
    -- while tuple(then) not in places
    refine ⟨_, rfl, th, _, rfl, .inl ⟨SqL.of I.hth, fun k nk => ?_⟩⟩
    have I2 := I.beside (o := .tup (vi (GR.it i ns))) nk
    refine ⟨_, rfl, p, _, rfl, DGet.t (k := keyL (GR.it i ns)) I2.hdict (by rw [upd_same, keyL_kV]), _, rfl, ?_⟩
    by_cases hin : ∃ j, j < i ∧ GR.it j ns = GR.it i ns
    · obtain ⟨j, hj, ej⟩ := hin
      have ev := kvsOf_some hj ej I.inj
      rw [ev]
      refine iteF ?_
      -- return (row, places[tuple(then)])
      refine ⟨_, rfl, _, rfl, _, rfl, th, _, rfl, .inl ⟨SqL.of I2.hth, fun k2 nk2 => ?_⟩⟩
      have I3 := I2.beside (o := .tup (vi (GR.it i ns))) nk2
      refine ⟨p, .int j, rfl, ?_, (by show 2 ≤ sizeLine; decide), fun t nt => ?_⟩
      · rw [← ev]
        exact DGet.t (k := keyL (GR.it i ns)) I3.hdict (by rw [upd_same, keyL_kV])
      · have I4 := I3.beside (o := .tup [.ref r, .int j]) nt
        exact q _ t r rs i j I4.same (I3.same.free nt) upd_same I4.hrow I4.hlen (fun j x hx => (I4.hitems j x hx).2) ⟨I.inj, hj, ej.symm⟩
    · have hno : ∀ j, j < i → GR.it j ns ≠ GR.it i ns := fun j hj e => hin ⟨j, hj, e⟩
      have hb : i + 1 ≤ 80536 := R.bound fun x y hxy hy => by
        by_cases c : y < i
        · exact I.inj x y hxy c
        · have ey : y = i := by omega
          subst ey
          exact hno x hxy
      rw [kvsOf_none hno]
      refine iteT ?_
      refine ⟨fun σ H' => ∃ (th : Addr) (rs : List Addr), σ = [some (.ref a), some (.ref r), some (.ref p), some (.ref th)] ∧ WkInv ns H (i + 1) H' r p th rs, ?_, ?_⟩
      · rintro σ' H5 ⟨th5, rs5, e5, I5⟩
        exact ⟨m - 1, by omega, i + 1, th5, rs5, by omega, e5, I5⟩
      -- places[tuple(then)] = len(row)
      refine ⟨_, rfl, r, _, rfl, .inl (SqL.of I2.hrow), _, rfl, _, rfl, th, _, rfl, .inl ⟨SqL.of I2.hth, fun k2 nk2 => ?_⟩⟩
      have I3 := I2.beside (o := .tup (vi (GR.it i ns))) nk2
      refine ⟨p, _, rfl, DPut.t (k := keyL (GR.it i ns)) I3.hdict (by rw [upd_same, keyL_kV]) (line_lt (by rw [kvsOf_len]; omega)), ?_⟩
      have e1 : putK (kvsOf ns i) (keyL (GR.it i ns)) (V.int ((rs.map V.ref).length : Nat)) = kvsOf ns (i + 1) := by
        rw [putK_new _ (kvsOf_none hno), kvsOf_succ, List.length_map, I.hlen]
      rw [e1]
      -- row.append(then)
      have npr3 : r ≠ p := npr.symm
      have er3 := at_ne (o := .dT (kvsOf ns (i + 1))) I3.hrow npr3
      refine ⟨_, rfl, .inl ⟨rfl, _, SqL.of er3⟩, _, rfl, r, _, _, rfl, rfl, er3, line_lt (by rw [List.length_map, I.hlen]; omega), ?_⟩
      -- then = gaps_of(then)
      have eth3 := at_ne (o := .lst (rs.map V.ref ++ [V.ref th])) (at_ne (o := .dT (kvsOf ns (i + 1))) I3.hth (ne_of I3.hth I3.hdict (fun z => by cases z))) I.thr
      refine ⟨_, rfl, th, GR.it i ns, rfl, SqL.of eth3, by rw [GR.it_length]; omega, by rw [GR.it_length]; omega, fun H6 g s6 ng eg => ?_⟩
      refine ⟨g, rs ++ [th], rfl, I3.next hno s6 ng ?_⟩
      rw [GR.it_succ]
      exact eg
/-! ### after -/
theorem nd_at {rs : List Addr} {j : Nat} {x : Addr} (h : rs[j]? = some x) : (rs.map V.ref)[j]? = some (.ref x) := by
  rw [List.getElem?_map, h]
  rfl
def sp_after (K : PySem.W.Frag) : Sp := fun vs H Q _ => ∃ (a : Addr) (ns : List Int) (t : Nat), vs = [.ref a, .int t] ∧ SqL K H a (vi ns) ∧ GR.Ring ns ∧
  ∀ H' p, Same H H' → H p = none → H' p = some (.lst (vi (GR.it t ns))) → Q (.ref p) H'
theorem ok_after (T : Txt K mg) : FnOk P w K mg base CX0 3 T.f_after T.d_after ["ring", "turns"] (sp_after K) := by
  refine T.F_after.ok sc_after (fun vs H Q E h => ?_) (fun cdv A outer s H vs Q E hr h => ?_)
  · obtain ⟨a, ns, t, rfl, _⟩ := h
    rfl
  · obtain ⟨a, ns, t, rfl, hS, R, q⟩ := h
    refine ⟨_, (pss_cons (ps_expr (pe_call (ok_asked T) (hr.mono (by decide)) (by rfl) T.g_asked T.F_asked.kp T.b_asked .nil pass0 (pa_cons (pv 0) pa_nil)))
      (pss_cons (ps_asg (pe_call (ok_walked T) (hr.mono (by decide)) (by rfl) T.g_walked T.F_walked.kp T.b_walked .nil pass0 (pa_cons (pv 0) pa_nil)) (pg_tup rfl (pgs_cons (pg_name (i := 2) sc_after.nd rfl (.inl rfl)) (pgs_cons (pg_name (i := 3) sc_after.nd rfl (.inl rfl)) pgs_nil))))
      (pss_cons (ps_if (pt_cmpR op_ge (pv 1) (pe_callB (lenL K rfl) (by rfl) T.z_len bt_len (pa_cons (pv 2) pa_nil)) (nomark _)) (pss_one (ps_set (i := 1) sc_after.nd rfl (.inl rfl) (pe_op op_add (pv 3) (pe_op op_mod (pe_op op_sub (pv 1) (pv 3)) (pe_op op_sub (pe_callB (lenL K rfl) (by rfl) T.z_len bt_len (pa_cons (pv 2) pa_nil)) (pv 3)))))) pss_nil)
      (pss_one (ps_ret (pe_callTy (listL K rfl) (by rfl) T.z_list bt_list (pa_cons (pe_ix (ixL K rfl) (pv 2) (pv 1) (fun _ _ => rfl)) pa_nil))))))), ?_⟩
    refine ⟨_, rfl, a, ns, rfl, hS, R, ?_⟩
    refine ⟨_, rfl, a, ns, rfl, hS, R, fun H2 tp r rs L Tl s2 _ et er hl hi W => ?_⟩
    have hlt := W.lt
    refine ⟨tp, _, rfl, SqT.of et, rfl, _, _, rfl, _, _, rfl, rfl, ?_⟩
    have key : ∀ (j : Nat), j < L → GR.it j ns = GR.it t ns → ∀ σ1 : L2.St, σ1[2]? = some (some (.ref r)) → σ1[1]? = some (some (.int j)) →
        tRet (tCB (fun xs H Q => ∃ p ys, xs = [V.ref p] ∧ (SqL K H p ys ∨ SqT K H p ys) ∧ ∀ l, H l = none → Q (.ref l) (upd H l (.lst ys))) (tCons (tOp (rIxL K) (tVar 2) (tVar 1)) tNil)) { nx := fun _ H' => Q .non H', rt := Q } σ1 H2 := by
      intro j hj ej σ1 h2 h1
      have hj' : j < rs.length := by omega
      have ex : rs[j]? = some rs[j] := List.getElem?_eq_getElem hj'
      refine ⟨_, h2, _, h1, r, _, _, _, rfl, rfl, SqL.of er, atI_nat (nd_at ex), _, _, rfl, .inl (SqL.of (hi j _ ex)), fun l nl => ?_⟩
      refine q _ l (s2.put (s2.free nl)) (s2.free nl) ?_
      rw [upd_same, ej]
    have hrl : ((rs.map V.ref).length : Int) = (L : Int) := by rw [List.length_map, hl]
    refine ⟨_, rfl, _, rfl, r, _, rfl, .inl (SqL.of er), _, _, rfl, rfl, _, rfl, if2 (fun c => ?_) (fun c => ?_)⟩
    · rw [hrl] at c
      have hm := Nat.mod_lt (t - Tl) (show 0 < L - Tl by omega)
      refine ⟨_, rfl, _, rfl, _, rfl, _, _, rfl, rfl, _, rfl, r, _, rfl, .inl (SqL.of er), _, rfl, _, _, rfl, rfl, _, _, rfl, rfl, by omega, _, _, rfl, rfl, ?_⟩
      refine key (Tl + (t - Tl) % (L - Tl)) (by omega) (W.red (by omega)) _ rfl (congrArg (fun z => some (some (V.int z))) ?_)
      rw [hrl, Int.natCast_add, Int.natCast_emod, Int.natCast_sub (by omega), Int.natCast_sub (by omega)]
    · rw [hrl] at c
      exact key t (by omega) rfl _ rfl rfl
/-! ### parting -/
def Parted (ns : List Int) (g : List Bool) : Prop := g.length = ns.length ∧ 2 * GR.psum g ns = ns.sum
def sp_parting (K : PySem.W.Frag) : Sp := fun vs H Q _ => ∃ (a : Addr) (ns : List Int), vs = [.ref a] ∧ SqL K H a (vi ns) ∧ GR.Ring ns ∧
  ∀ H' v, Same H H' → ((v = .non ∧ ¬ GR.Half ns) ∨ ∃ (p : Addr) (g : List Bool), v = .ref p ∧ H p = none ∧ H' p = some (.lst (g.map V.bl)) ∧ Parted ns g) → Q v H'
theorem ok_parting (T : Txt K mg) : FnOk P w K mg base CX0 2 T.f_parting T.d_parting ["ring"] (sp_parting K) := by
  refine T.F_parting.ok sc_parting (fun vs H Q E h => ?_) (fun cdv A outer s H vs Q E hr h => ?_)
  · obtain ⟨a, ns, rfl, _⟩ := h
    rfl
  · obtain ⟨a, ns, rfl, hS, R, q⟩ := h
    have hu := hu_of hr
    have R3 := R.lo
    have R16 := R.hi
    refine ⟨_, (pss_cons (ps_expr (pe_call (ok_asked T) (hr.mono (by decide)) (by rfl) T.g_asked T.F_asked.kp T.b_asked .nil pass0 (pa_cons (pv 0) pa_nil)))
      (pss_cons (ps_set (i := 1) sc_parting.nd rfl (.inl rfl) (pe_callB (cr_sum rfl) (by rfl) T.z_sum bt_sum (pa_cons (pv 0) pa_nil)))
      (pss_cons (ps_if (pt_cmpR op_eq (pe_op op_mod (pv 1) pe_int) pe_int (nomark _)) (pss_one (ps_ret pe_non)) pss_nil)
      (pss_cons (ps_set (i := 2) sc_parting.nd rfl (.inl rfl) (pe_lst (pa_cons (pe_disp (pps_cons pe_int pe_bl pps_nil) (by rfl) (by rfl) (fun z => by cases z) (by decide)) pa_nil)))
      (pss_cons (ps_for PassesOwn.never rfl (pi_list (pv 0)) (pg_name (i := 3) sc_parting.nd rfl (.inl rfl)) (pss_cons (ps_set (i := 4) sc_parting.nd rfl (.inl rfl) pe_dnewK)
      (pss_cons (ps_lock (ps_for PassesOwn.never rfl (pi_keys (pe_ix (ixL K rfl) (pv 2) (pe_un un_neg pe_int) (fun _ _ => rfl))) (pg_name (i := 5) sc_parting.nd rfl (.inl rfl)) (pss_cons (ps_dput hu (pv 4) (pv 5) pe_bl rfl)
      (pss_one (ps_dput hu (pv 4) (pe_op op_add (pv 5) (pv 3)) pe_bl rfl)))))
      (pss_one (ps_expr (pe_bm PySem.F.plainAttrs_list PySem.F.slot_list_append PySem.F.type_list_append mt_append (pv 2) (pa_cons (pv 4) pa_nil)))))))
      (pss_cons (ps_set (i := 6) sc_parting.nd rfl (.inl rfl) (pe_op op_fdiv (pv 1) pe_int))
      (pss_cons (ps_if (pt_cmp (pc_dnotin hu (pv 6) (pe_ix (ixL K rfl) (pv 2) (pe_un un_neg pe_int) (fun _ _ => rfl)))) (pss_one (ps_ret pe_non)) pss_nil)
      (pss_cons (ps_set (i := 7) sc_parting.nd rfl (.inl rfl) (pe_lst pa_nil))
      (pss_cons (ps_for PassesOwn.never rfl (pi_revR (by rfl) T.z_reversed (prg_1 (by rfl) T.z_range (pe_callB (lenL K rfl) (by rfl) T.z_len bt_len (pa_cons (pv 0) pa_nil)))) (pg_name (i := 8) sc_parting.nd rfl (.inl rfl)) (pss_cons (ps_set (i := 9) sc_parting.nd rfl (.inl rfl) (pe_cmp (pc_dnotin hu (pv 6) (pe_ix (ixL K rfl) (pv 2) (pv 8) (fun _ _ => rfl)))))
      (pss_cons (ps_if (pt_val (pv 9)) (pss_one (ps_set (i := 6) sc_parting.nd rfl (.inl rfl) (pe_op op_sub (pv 6) (pe_ix (ixL K rfl) (pv 0) (pv 8) (fun _ _ => rfl))))) pss_nil)
      (pss_one (ps_expr (pe_bm PySem.F.plainAttrs_list PySem.F.slot_list_append PySem.F.type_list_append mt_append (pv 7) (pa_cons (pv 9) pa_nil)))))))
      (pss_one (ps_ret (pe_listRev rfl (by rfl) T.z_list (by rfl) T.z_reversed (pv 7))))))))))))), ?_⟩
    refine ⟨_, rfl, a, ns, rfl, hS, R, ?_⟩
    refine ⟨_, rfl, a, ns, rfl, hS, ?_⟩
    refine ⟨_, rfl, _, _, rfl, rfl, (by show (0 : Int) < 2; decide), rfl, _, rfl, if2 (fun c => ?_) (fun c => ?_)⟩
    · exact q H _ (Same.refl H) (.inl ⟨rfl, fun h => by have := V.int.inj c; have := h.1; omega⟩)
    have hev : ns.sum % 2 = 0 := by
      have c' : ¬ ns.sum % 2 = 1 := fun z => c (vint z)
      omega
    -- sums = [{0: True}]
    refine fun d0 nd0 => ?_
    refine ⟨upd_same, [(Sum.inl 0, .bl true)], rfl, by decide, by show 1 ≤ sizeLine; decide, fun sA nsA => ?_⟩
    rw [upd_upd] at nsA ⊢
    have s0 := Same.new (o := .dK (mergeK [] [(Sum.inl 0, .bl true)])) nd0
    have s1 := Same.new (o := .lst [.ref d0]) nsA
    have nsH := s0.free nsA
    have e0 := s1 _ _ (upd_same : upd H d0 (.dK (mergeK [] [(Sum.inl 0, .bl true)])) d0 = _)
    -- for number in ring
    refine ⟨_, rfl, a, rfl, ⟨_, (s0.trans s1).seq hS⟩, for_list (K := K) (a := a) (xs := vi ns) (fun i σ H' => ∃ (ds : List Addr) (y3 y4 y5 : Option V), σ = [some (.ref a), some (.int ns.sum), some (.ref sA), y3, y4, y5, none, none, none, none] ∧ Same H H' ∧ H' sA = some (.lst (ds.map V.ref)) ∧ ds.length = i + 1 ∧
        ∀ (j : Nat) d, ds[j]? = some d → ∃ kvs, H' d = some (.dK kvs) ∧ SumD ns j kvs)
      ⟨[d0], none, none, none, rfl, s0.trans s1, upd_same, rfl, fun j d hd => ?_⟩ (fun i σ H' _ ⟨_, _, _, _, _, sm, _⟩ => sm.seq hS) ?_ ?_⟩
    · cases j with
      | zero =>
        have ed : d0 = d := Option.some.inj hd
        rw [← ed]
        exact ⟨_, e0, SumD.zero ns⟩
      | succ j => simp at hd
    · rintro i x σ H1 hi ⟨ds, y3, y4, y5, rfl, sm, eA, hdl, hds⟩
      have hil : i < ns.length := by
        have := (List.getElem?_eq_some_iff.mp hi).1
        rw [vi_len] at this
        exact this
      have ex : x = .int (ns.getD i 0) := Option.some.inj (hi.symm.trans (vi_nth hil))
      subst ex
      have hdi : i < ds.length := by omega
      have edi : ds[i]? = some ds[i] := List.getElem?_eq_getElem hdi
      obtain ⟨kvs, ek, D⟩ := hds i _ edi
      have hk16 : kvs.length ≤ 65536 := Nat.le_trans D.len (Nat.le_trans (Nat.pow_le_pow_right (by decide) (show i ≤ 16 by omega)) (by decide))
      -- then = {}
      refine fun t nt => ?_
      have st := Same.new (o := .dK []) nt
      have ntd : t ≠ ds[i] := (ne_of_none ek nt).symm
      have ek2 := st _ _ ek
      have eA2 := st _ _ eA
      have nAd : sA ≠ ds[i] := ne_of eA ek (fun z => by cases z)
      have nAt : sA ≠ t := ne_of_none eA nt
      -- for one in sums[-1]
      refine ⟨ds[i], .dK kvs, ek2, True.intro, fun od => ?_⟩
      have hlast : (ds.map V.ref)[(ds.map V.ref).length - 1]? = some (.ref ds[i]) := by
        rw [List.length_map, hdl, Nat.add_sub_cancel, List.getElem?_map, edi]
        rfl
      refine ⟨_, rfl, _, rfl, sA, _, _, _, rfl, rfl, SqL.of (at_ne eA2 nAd), atI_neg hlast, ds[i], od, rfl, .inl ⟨kvs, upd_same, ?_⟩⟩
      refine for_keys (fun j σ G => ∃ (kt : List (Key × V)) (w : Option V), σ = [some (.ref a), some (.int ns.sum), some (.ref sA), some (.int (ns.getD i 0)), some (.ref t), w, none, none, none, none] ∧ Mid ns i kvs j kt ∧ j ≤ kvs.length ∧
          G = upd (upd (upd H1 t (.dK [])) ds[i] (.frz od (.dK kvs))) t (.dK kt))
        ⟨[], y5, rfl, Mid.zero ns i kvs, Nat.zero_le _, ?_⟩ ?_ ?_ ?_
      · exact (upd_id (by rw [upd_ne ntd, upd_same])).symm
      · rintro j σ G ⟨kt, w, rfl, M, hj, rfl⟩
        rw [upd_ne ntd.symm, upd_same]
      · rintro j k v σ G ej ⟨kt, w, rfl, M, hj, rfl⟩
        have hjl : j < kvs.length := (List.getElem?_eq_some_iff.mp ej).1
        obtain ⟨s, es, hs⟩ := D.all _ (List.mem_of_getElem? ej)
        have es : k = Sum.inl s := es
        subst es
        have hl := M.len
        refine ⟨_, rfl, _, rfl, t, _, rfl, DPut.k (k := Sum.inl s) upd_same (line_lt (by omega)), ?_⟩
        have hp1 := length_putK kt (Sum.inl s : Key) (V.bl true)
        refine ⟨_, rfl, _, rfl, _, rfl, _, _, rfl, rfl, t, _, rfl, DPut.k (k := Sum.inl (s + ns.getD i 0)) upd_same (line_lt (by omega)), ?_⟩
        exact ⟨_, _, rfl, M.step hs ej, hjl, by rw [upd_upd, upd_upd]⟩
      · rintro σ G ⟨kt, w, rfl, M, hj, rfl⟩
        refine ⟨by rw [upd_ne ntd.symm, upd_same], ?_⟩
        rw [upd_unlock ntd ek2, upd_upd]
        have st2 := Same.new (o := .dK kt) nt
        have eA3 := st2 _ _ eA
        -- sums.append(then)
        refine ⟨_, rfl, .inl ⟨rfl, _, SqL.of eA3⟩, _, rfl, sA, _, _, rfl, rfl, eA3, line_lt (by rw [List.length_map]; omega), ?_⟩
        refine ⟨ds ++ [t], _, _, _, rfl, (sm.trans st2).put nsH, by rw [upd_same, List.map_append]; rfl, by rw [List.length_append, hdl]; rfl, fun j d hd => ?_⟩
        by_cases cj : j < ds.length
        · rw [List.getElem?_append_left cj] at hd
          obtain ⟨kj, e1, e2⟩ := hds j d hd
          exact ⟨kj, by rw [upd_ne (ne_of e1 eA (fun z => by cases z))]; exact st2 _ _ e1, e2⟩
        · rw [List.getElem?_append_right (by omega)] at hd
          have ez : j - ds.length = 0 := by
            rcases Nat.eq_zero_or_pos (j - ds.length) with k | k
            · exact k
            · rw [List.getElem?_eq_none (by simp only [List.length_cons, List.length_nil]; omega)] at hd
              cases hd
          rw [ez] at hd
          have ed : t = d := Option.some.inj hd
          have ej : j = i + 1 := by omega
          rw [← ed, ej]
          exact ⟨kt, by rw [upd_ne nAt.symm, upd_same], M.done D⟩
    · rintro σ H1 ⟨ds, y3, y4, y5, rfl, sm, eA, hdl, hds⟩
      rw [vi_len] at hdl
      have dsk : ∀ k, k ≤ ns.length → ∃ (d : Addr) (kvs : List (Key × V)), (ds.map V.ref)[k]? = some (.ref d) ∧ H1 d = some (.dK kvs) ∧ SumD ns k kvs := fun k hk => by
        have hl : k < ds.length := by omega
        have e := List.getElem?_eq_getElem hl
        obtain ⟨kvs, e1, e2⟩ := hds k _ e
        exact ⟨ds[k], kvs, by rw [List.getElem?_map, e]; rfl, e1, e2⟩
      -- left = total // 2; if left not in sums[-1]
      refine ⟨_, rfl, _, _, rfl, rfl, ⟨by decide, by decide⟩, ?_⟩
      obtain ⟨dn, kn, en, eK, Dn⟩ := dsk ns.length (Nat.le_refl _)
      have hlast : (ds.map V.ref)[(ds.map V.ref).length - 1]? = some (.ref dn) := by
        rw [List.length_map, hdl, Nat.add_sub_cancel]
        exact en
      refine ⟨_, rfl, _, rfl, _, rfl, sA, _, _, _, rfl, rfl, SqL.of eA, atI_neg hlast, dn, _, rfl, DGet.k (k := Sum.inl (ns.sum / 2)) eK, _, rfl, ?_⟩
      cases hb : (valV kn (Sum.inl (ns.sum / 2) : Key)).isSome with
      | false =>
        refine iteT (q H1 _ sm (.inl ⟨rfl, fun h => ?_⟩))
        have := (Dn.iff _).mpr h.2
        rw [hb] at this
        cases this
      | true =>
        refine iteF ⟨Nat.zero_le _, fun f nf => ?_⟩
        have hss := (Dn.iff _).mp hb
        have sf := Same.new (o := .lst []) nf
        -- for k in reversed(range(len(ring)))
        refine ⟨_, rfl, a, _, rfl, .inl ((sm.trans sf).seq hS), _, rfl, by decide, by decide, by rw [vi_len]; omega, by rw [vi_len]; omega, for_rangeC (lo := _) (c := -1) (n := _) (fun i σ G => ∃ (l : Int) (g : List Bool) (y8 y9 : Option V), σ = [some (.ref a), some (.int ns.sum), some (.ref sA), y3, y4, y5, some (.int l), some (.ref f), y8, y9] ∧ Same H1 G ∧ G f = some (.lst (g.reverse.map V.bl)) ∧ g.length = i ∧ i ≤ ns.length ∧ GR.SS ns (ns.length - i) l ∧ GR.psum g (ns.drop (ns.length - i)) + l = ns.sum / 2)
          ⟨ns.sum / 2, [], none, none, rfl, sf, upd_same, rfl, Nat.zero_le _, hss, by show 0 + ns.sum / 2 = ns.sum / 2; omega⟩ ?_ ?_⟩
        · rintro i σ G hi ⟨l, g, y8, y9, rfl, sg, ef, hgl, hin, hsl, hps⟩
          rw [vi_len] at hi
          have hi : i < ns.length := by omega
          obtain ⟨j, hj⟩ : ∃ j, j + 1 = ns.length - i := ⟨ns.length - 1 - i, by omega⟩
          have hjn : j < ns.length := by omega
          have ejn : ns.length - (i + 1) = j := by omega
          obtain ⟨dj, kj, ej, eKj, Dj⟩ := dsk j (by omega)
          rw [← hj] at hsl hps
          have hdrop : ns.drop j = ns.getD j 0 :: ns.drop (j + 1) := by
            rw [List.drop_eq_getElem_cons hjn, List.getD_eq_getElem?_getD, List.getElem?_eq_getElem hjn]
            rfl
          have ix : (0 : Int) + ((((vi ns).length : Int) - 0).toNat : Int) - 1 + (i : Int) * -1 = (j : Int) := by rw [vi_len]; omega
          have sgH := sm.trans sg
          refine ⟨_, rfl, _, rfl, _, rfl, sA, _, _, _, rfl, rfl, SqL.of (sg _ _ eA), atI_of (j := j) ix ej, dj, _, rfl, DGet.k (k := Sum.inl l) (sg _ _ eKj), ?_⟩
          refine ⟨_, rfl, _, rfl, ?_⟩
          cases hb2 : (valV kj (Sum.inl l : Key)).isSome with
          | true =>
            have hs2 := (Dj.iff _).mp hb2
            refine iteF ?_
            refine ⟨_, rfl, .inl ⟨rfl, _, SqL.of ef⟩, _, rfl, f, _, _, rfl, rfl, ef, line_lt (by rw [List.length_map, List.length_reverse]; omega), ?_⟩
            refine ⟨l, false :: g, _, _, rfl, sg.put nf, ?_, by rw [List.length_cons, hgl], hi, by rw [ejn]; exact hs2, ?_⟩
            · rw [upd_same, List.reverse_cons, List.map_append]
              rfl
            · rw [ejn, hdrop]
              show (if false = true then ns.getD j 0 else 0) + GR.psum g (ns.drop (j + 1)) + l = ns.sum / 2
              rw [if_neg (by decide)]
              omega
          | false =>
            have hs2 : ¬ GR.SS ns j l := fun z => by
              have := (Dj.iff _).mpr z
              rw [hb2] at this
              cases this
            have hs3 : GR.SS ns j (l - ns.getD j 0) := hsl.resolve_left hs2
            refine iteT ?_
            refine ⟨_, rfl, _, rfl, _, rfl, a, _, _, _, rfl, rfl, sgH.seq hS, atI_of (j := j) ix (vi_nth hjn), _, _, rfl, rfl, ?_⟩
            refine ⟨_, rfl, .inl ⟨rfl, _, SqL.of ef⟩, _, rfl, f, _, _, rfl, rfl, ef, line_lt (by rw [List.length_map, List.length_reverse]; omega), ?_⟩
            refine ⟨l - ns.getD j 0, true :: g, _, _, rfl, sg.put nf, ?_, by rw [List.length_cons, hgl], hi, by rw [ejn]; exact hs3, ?_⟩
            · rw [upd_same, List.reverse_cons, List.map_append]
              rfl
            · rw [ejn, hdrop]
              show (if true = true then ns.getD j 0 else 0) + GR.psum g (ns.drop (j + 1)) + (l - ns.getD j 0) = ns.sum / 2
              rw [if_pos rfl]
              omega
        · rintro σ G ⟨l, g, y8, y9, rfl, sg, ef, hgl, hin, hsl, hps⟩
          have en : (((vi ns).length : Int) - 0).toNat = ns.length := by rw [vi_len]; omega
          rw [en] at hgl hsl hps
          rw [Nat.sub_self] at hsl hps
          have hl0 : l = 0 := hsl
          rw [List.drop_zero, hl0] at hps
          refine ⟨_, rfl, f, _, rfl, SqL.of ef, fun p np => ?_⟩
          have sgH := sm.trans sg
          refine q _ _ (sgH.put (sgH.free np)) (.inr ⟨p, g, rfl, sgH.free np, ?_, hgl, by omega⟩)
          rw [upd_same, ← List.map_reverse, List.reverse_reverse]
/-! ### ahead -/
theorem cut_last (xs : List V) : cutV xs none (some (-1)) = xs.take (xs.length - 1) := by
  unfold cutV
  have e : HT.sIx xs.length xs.length (some (-1)) = xs.length - 1 := by
    show (if (-1 : Int) < 0 then (-1 + (xs.length : Int)).toNat else min (-1 : Int).toNat xs.length) = _
    rw [if_pos (by decide)]
    omega
  rw [e, HT.sIx_none, List.drop_zero, Nat.sub_zero]
def rowR (g : List Bool) (ns : List Int) (n : Nat) : List Int := (List.range n).map (GR.rw1 g ns)
theorem rowR_len (g : List Bool) (ns : List Int) (n : Nat) : (rowR g ns n).length = n := by
  unfold rowR
  rw [List.length_map, List.length_range]
theorem rowR_succ (g : List Bool) (ns : List Int) (n : Nat) : rowR g ns (n + 1) = rowR g ns n ++ [GR.rw1 g ns n] := by
  unfold rowR
  rw [List.range_succ, List.map_append]
  rfl
theorem rowR_get {g : List Bool} {ns : List Int} {n k : Nat} (h : k < n) : (rowR g ns n).getD k 0 = GR.rw1 g ns k := by
  unfold rowR
  rw [List.getD_eq_getElem?_getD, List.getElem?_map, List.getElem?_range h]
  rfl
theorem vi_snoc (l : List Int) (x : Int) : vi l ++ [V.int x] = vi (l ++ [x]) := by
  show List.map V.int l ++ [V.int x] = List.map V.int (l ++ [x])
  rw [List.map_append]
  rfl
/-- a row of numbers with a nought of which ns is the gap ring -/
structure Ahead (ns xs : List Int) : Prop where
  len : xs.length = ns.length
  gaps : GR.gp xs = ns
  low : ∀ x ∈ xs, 0 ≤ x
  nought : (0 : Int) ∈ xs
def sp_ahead (K : PySem.W.Frag) : Sp := fun vs H Q _ => ∃ (a : Addr) (ns : List Int), vs = [.ref a] ∧ SqL K H a (vi ns) ∧ GR.Ring ns ∧
  ∀ H' v, Same H H' → ((v = .non ∧ ¬ GR.Half ns) ∨ ∃ (p : Addr) (xs : List Int), v = .ref p ∧ H p = none ∧ H' p = some (.lst (vi xs)) ∧ Ahead ns xs ∧ GR.Half ns) → Q v H'
theorem ok_ahead (T : Txt K mg) : FnOk P w K mg base CX0 3 T.f_ahead T.d_ahead ["ring"] (sp_ahead K) := by
  refine T.F_ahead.ok sc_ahead (fun vs H Q E h => ?_) (fun cdv A outer s H vs Q E hr h => ?_)
  · obtain ⟨a, ns, rfl, _⟩ := h
    rfl
  · obtain ⟨a, ns, rfl, hS, R, q⟩ := h
    have R3 := R.lo
    have R16 := R.hi
    refine ⟨_, (pss_cons (ps_set (i := 1) sc_ahead.nd rfl (.inl rfl) (pe_call (ok_parting T) (hr.mono (by decide)) (by rfl) T.g_parting T.F_parting.kp T.b_parting .nil pass0 (pa_cons (pv 0) pa_nil)))
      (pss_cons (ps_if (pt_cmpR op_isN (pv 1) pe_non (nomark _)) (pss_one (ps_ret pe_non)) pss_nil)
      (pss_cons (ps_set (i := 2) sc_ahead.nd rfl (.inl rfl) (pe_lst (pa_cons pe_int pa_nil)))
      (pss_cons (ps_for PassesOwn.never rfl (pi_zip (by rfl) T.z_zip (pa_cons (pe_slice sl_list (pv 0) po_none (po_some (pe_un un_neg pe_int))) (pa_cons (pe_slice sl_list (pv 1) po_none (po_some (pe_un un_neg pe_int))) pa_nil))) (pg_tup rfl (pgs_cons (pg_name (i := 3) sc_ahead.nd rfl (.inl rfl)) (pgs_cons (pg_name (i := 4) sc_ahead.nd rfl (.inl rfl)) pgs_nil))) (pss_one (ps_if (pt_val (pv 4)) (pss_one (ps_expr (pe_bm PySem.F.plainAttrs_list PySem.F.slot_list_append PySem.F.type_list_append mt_append (pv 2) (pa_cons (pe_op op_add (pe_ix (ixL K rfl) (pv 2) (pe_un un_neg pe_int) (fun _ _ => rfl)) (pv 3)) pa_nil)))) (pss_one (ps_expr (pe_bm PySem.F.plainAttrs_list PySem.F.slot_list_append PySem.F.type_list_append mt_append (pv 2) (pa_cons (pe_op op_sub (pe_ix (ixL K rfl) (pv 2) (pe_un un_neg pe_int) (fun _ _ => rfl)) (pv 3)) pa_nil)))))))
      (pss_cons (ps_set (i := 5) sc_ahead.nd rfl (.inr rfl) (pe_callB (cr_min rfl) (by rfl) T.z_min bt_min (pa_cons (pv 2) pa_nil)))
      (pss_one (ps_ret (pe_lc (own := [("number", 3)]) (g := gName 3) (tt := tYes) rfl sc_ahead.nd (pi_list (pv 2)) (blkOk_by (own := [("number", 3)]) (N := N_ahead) (sc := defScope s_ahead) (by decide +kernel)) (fun _ _ _ _ _ => (pg_name (i := 3) sc_ahead.nd rfl (Or.inl rfl))) (fun _ _ _ _ _ => pts_nil) (fun _ _ _ _ _ => (pe_op op_sub (pv 3) (pv 5))))))))))), ?_⟩
    refine ⟨_, rfl, a, ns, rfl, hS, R, fun H1 v s1 hv => ?_⟩
    rcases hv with ⟨rfl, hno⟩ | ⟨p, g, rfl, np, ep, hgl, hgs⟩
    · exact ⟨_, rfl, rfl, _, rfl, ifY rfl (q H1 _ s1 (.inl ⟨rfl, hno⟩))⟩
    refine ⟨_, rfl, rfl, _, rfl, ifN (fun z => by cases z) ?_⟩
    -- row = [0]
    refine ⟨by show 1 ≤ sizeLine; decide, fun r nr => ?_⟩
    have sr := Same.new (o := .lst [.int 0]) nr
    -- zip(ring[:-1], sides[:-1])
    refine ⟨_, rfl, _, rfl, _, rfl, a, _, rfl, (s1.trans sr).seq hS, fun z1 nz1 => ?_⟩
    have sz1 := Same.new (o := .lst (cutV (vi ns) none (some (-1)))) nz1
    refine ⟨_, rfl, _, rfl, _, rfl, p, _, rfl, SqL.of (sz1 _ _ (sr _ _ ep)), fun z2 nz2 => ?_⟩
    have sz2 := Same.new (o := .lst (cutV (g.map V.bl) none (some (-1)))) nz2
    have c1 : cutV (vi ns) none (some (-1)) = (vi ns).take (ns.length - 1) := by rw [cut_last, vi_len]
    have c2 : cutV (g.map V.bl) none (some (-1)) = (g.map V.bl).take (ns.length - 1) := by rw [cut_last, List.length_map, hgl]
    have e1 := sz2 _ _ (upd_same : upd (upd H1 r (.lst [.int 0])) z1 (.lst (cutV (vi ns) none (some (-1)))) z1 = _)
    have e2 : (upd (upd (upd H1 r (.lst [.int 0])) z1 (.lst (cutV (vi ns) none (some (-1))))) z2 (.lst (cutV (g.map V.bl) none (some (-1))))) z2 = _ := upd_same
    have er := sz2 _ _ (sz1 _ _ (upd_same : upd H1 r (.lst [.int 0]) r = _))
    have s13 : Same H1 _ := (sr.trans sz1).trans sz2
    have nrH := s1.free nr
    have l1 : ((vi ns).take (ns.length - 1)).length = ns.length - 1 := by rw [List.length_take, vi_len]; omega
    have l2 : ((g.map V.bl).take (ns.length - 1)).length = ns.length - 1 := by rw [List.length_take, List.length_map, hgl]; omega
    have n1r : z1 ≠ r := (new_ne nz1).symm
    have n2r : z2 ≠ r := (ne_of_none (sz1 _ _ (upd_same : upd H1 r (.lst [.int 0]) r = _)) nz2).symm
    refine ⟨z1, z2, (vi ns).take (ns.length - 1), (g.map V.bl).take (ns.length - 1), rfl, SqL.of (by rw [e1, c1]), SqL.of (by rw [e2, c2]), RZ.for_zipL (by rw [l1, l2]) (fun i σ G => ∃ y3 y4, σ = [some (.ref a), some (.ref p), some (.ref r), y3, y4, none] ∧ i ≤ ns.length - 1 ∧ Same H G ∧ G z1 = some (.lst ((vi ns).take (ns.length - 1))) ∧ G z2 = some (.lst ((g.map V.bl).take (ns.length - 1))) ∧ G r = some (.lst (vi (rowR g ns (i + 1)))))
      ⟨none, none, rfl, Nat.zero_le _, s1.trans s13, by rw [e1, c1], by rw [e2, c2], er⟩ (fun i σ G ⟨_, _, _, _, _, h1, h2, _⟩ => ⟨SqL.of h1, SqL.of h2⟩) ?_ ?_⟩
    · rintro i x y T σ G hx hy ⟨y3, y4, rfl, hin, sg, g1, g2, gr⟩ nT
      have hil : i < ns.length - 1 := by
        have := (List.getElem?_eq_some_iff.mp hx).1
        omega
      have ex : x = .int (ns.getD i 0) := by
        rw [List.getElem?_take_of_lt hil] at hx
        exact Option.some.inj (hx.symm.trans (vi_nth (by omega)))
      have ey : y = .bl (g.getD i false) := by
        rw [List.getElem?_take_of_lt hil, List.getElem?_map] at hy
        rw [List.getD_eq_getElem?_getD, List.getElem?_eq_getElem (show i < g.length by omega)]
        rw [List.getElem?_eq_getElem (show i < g.length by omega)] at hy
        exact (Option.some.inj hy).symm
      subst ex ey
      have sT := Same.new (o := .tup [.int (ns.getD i 0), .bl (g.getD i false)]) nT
      have grT := sT _ _ gr
      have hlast : (vi (rowR g ns (i + 1)))[(vi (rowR g ns (i + 1))).length - 1]? = some (.int (GR.rw1 g ns i)) := by
        rw [vi_len, rowR_len, Nat.add_sub_cancel, vi_nth (by rw [rowR_len]; omega), rowR_get (by omega)]
      have fin : ∀ z : Int, z = GR.rw1 g ns (i + 1) → ∀ y3 y4, ∃ y3' y4', ([some (.ref a), some (.ref p), some (.ref r), y3, y4, none] : L2.St) = [some (.ref a), some (.ref p), some (.ref r), y3', y4', none] ∧ i + 1 ≤ ns.length - 1 ∧
          Same H (upd (upd G T (.tup [.int (ns.getD i 0), .bl (g.getD i false)])) r (.lst (vi (rowR g ns (i + 1)) ++ [.int z]))) ∧ (upd (upd G T (.tup [.int (ns.getD i 0), .bl (g.getD i false)])) r (.lst (vi (rowR g ns (i + 1)) ++ [.int z]))) z1 = some (.lst ((vi ns).take (ns.length - 1))) ∧
          (upd (upd G T (.tup [.int (ns.getD i 0), .bl (g.getD i false)])) r (.lst (vi (rowR g ns (i + 1)) ++ [.int z]))) z2 = some (.lst ((g.map V.bl).take (ns.length - 1))) ∧ (upd (upd G T (.tup [.int (ns.getD i 0), .bl (g.getD i false)])) r (.lst (vi (rowR g ns (i + 1)) ++ [.int z]))) r = some (.lst (vi (rowR g ns (i + 1 + 1)))) := fun z ez y3 y4 =>
        ⟨y3, y4, rfl, hil, (sg.trans sT).put nrH, by rw [upd_ne n1r]; exact sT _ _ g1, by rw [upd_ne n2r]; exact sT _ _ g2, by rw [upd_same, vi_snoc, ez, ← rowR_succ]⟩
      refine ⟨T, _, rfl, SqT.of upd_same, rfl, _, _, rfl, _, _, rfl, rfl, ?_⟩
      refine ⟨_, rfl, _, rfl, ?_⟩
      have hl1 : (vi (rowR g ns (i + 1))).length < sizeLine := line_lt (by rw [vi_len, rowR_len]; omega)
      cases hg : g.getD i false with
      | true =>
        rw [hg] at fin grT
        refine iteT ?_
        refine ⟨_, rfl, .inl ⟨rfl, _, SqL.of grT⟩, _, rfl, _, rfl, r, _, _, _, rfl, rfl, SqL.of grT, atI_neg hlast, _, rfl, _, _, rfl, rfl, r, _, _, rfl, rfl, grT, hl1, ?_⟩
        refine fin _ ?_ _ _
        show GR.rw1 g ns i + ns.getD i 0 = GR.rw1 g ns i + (if g.getD i false then ns.getD i 0 else - ns.getD i 0)
        rw [hg, if_pos rfl]
      | false =>
        rw [hg] at fin grT
        refine iteF ?_
        refine ⟨_, rfl, .inl ⟨rfl, _, SqL.of grT⟩, _, rfl, _, rfl, r, _, _, _, rfl, rfl, SqL.of grT, atI_neg hlast, _, rfl, _, _, rfl, rfl, r, _, _, rfl, rfl, grT, hl1, ?_⟩
        refine fin _ ?_ _ _
        show GR.rw1 g ns i - ns.getD i 0 = GR.rw1 g ns i + (if g.getD i false then ns.getD i 0 else - ns.getD i 0)
        rw [hg, if_neg (by decide)]
        omega
    · rintro σ G ⟨y3, y4, rfl, hin, sg, g1, g2, gr⟩
      rw [l1, show ns.length - 1 + 1 = ns.length by omega] at gr
      -- least = min(row)
      refine ⟨_, rfl, r, _, rfl, SqL.of gr, by rw [rowR_len]; omega, fun m hm hle => ?_⟩
      refine ⟨_, rfl, r, rfl, ⟨_, SqL.of gr⟩, fun D nD => ?_⟩
      refine lc_intsL (a := r) (xs := vi (rowR g ns ns.length)) (fun i z => z = (GR.rowL g ns m).getD i 0) (SqL.of gr) nD (by rw [vi_len, rowR_len]; omega) (fun i x H' hi sm Q' hQ => ?_) (fun H2 zs hl hR sm e => ?_)
      · obtain ⟨z, hz, rfl⟩ := vi_at hi
        have hil : i < ns.length := by
          have := (List.getElem?_eq_some_iff.mp hz).1
          rw [rowR_len] at this
          exact this
        have ez : z = GR.rw1 g ns i := by
          rw [getD_some (by rw [rowR_len]; exact hil), rowR_get hil] at hz
          exact (Option.some.inj hz).symm
        refine ⟨_, rfl, _, rfl, _, _, rfl, rfl, hQ _ ?_⟩
        rw [GR.rowL_get hil, ez]
      · rw [vi_len, rowR_len] at hl hR
        have ezs : zs = GR.rowL g ns m := GR.list_ext' (by rw [hl, GR.rowL_length]) fun k hk => hR k (by omega)
        rw [ezs] at e
        refine q H2 _ (sg.trans sm) (.inr ⟨D, _, rfl, sg.free nD, e, ⟨GR.rowL_length _ _ _, GR.rowL_gp m hgl hgs (fun x hx => (R.bd x hx).1), fun x hx => ?_, ?_⟩, GR.half_of hgl hgs⟩)
        · obtain ⟨k, hk, ek⟩ := GR.mem_getD hx
          rw [GR.rowL_length] at hk
          rw [GR.rowL_get hk] at ek
          have hmem : GR.rw1 g ns k ∈ rowR g ns ns.length := by
            rw [← rowR_get hk]
            exact GR.getD_mem (by rw [rowR_len]; exact hk)
          have := hle _ hmem
          omega
        · obtain ⟨k, hk, ek⟩ := GR.mem_getD hm
          rw [rowR_len] at hk
          rw [rowR_get hk] at ek
          have h0 : (GR.rowL g ns m).getD k 0 = 0 := by
            rw [GR.rowL_get hk, ek]
            omega
          rw [← h0]
          exact GR.getD_mem (by rw [GR.rowL_length]; exact hk)
/-! ### tail_and_wheel -/
def sp_tail_and_wheel (K : PySem.W.Frag) : Sp := fun vs H Q _ => ∃ (a : Addr) (ns : List Int), vs = [.ref a] ∧ SqL K H a (vi ns) ∧ GR.Ring ns ∧
  ∀ (H' : Hp) (t : Addr) (L Tl : Nat), Same H H' → H t = none → H' t = some (.tup [.int (Tl : Int), .int ((L : Int) - (Tl : Int))]) → GR.Wk ns L Tl → Q (.ref t) H'
theorem ok_tail_and_wheel (T : Txt K mg) : FnOk P w K mg base CX0 3 T.f_tail_and_wheel T.d_tail_and_wheel ["ring"] (sp_tail_and_wheel K) := by
  refine T.F_tail_and_wheel.ok sc_tail_and_wheel (fun vs H Q E h => ?_) (fun cdv A outer s H vs Q E hr h => ?_)
  · obtain ⟨a, ns, rfl, _⟩ := h
    rfl
  · obtain ⟨a, ns, rfl, hS, R, q⟩ := h
    refine ⟨_, (pss_cons (ps_expr (pe_call (ok_asked T) (hr.mono (by decide)) (by rfl) T.g_asked T.F_asked.kp T.b_asked .nil pass0 (pa_cons (pv 0) pa_nil)))
      (pss_cons (ps_asg (pe_call (ok_walked T) (hr.mono (by decide)) (by rfl) T.g_walked T.F_walked.kp T.b_walked .nil pass0 (pa_cons (pv 0) pa_nil)) (pg_tup rfl (pgs_cons (pg_name (i := 1) sc_tail_and_wheel.nd rfl (.inl rfl)) (pgs_cons (pg_name (i := 2) sc_tail_and_wheel.nd rfl (.inl rfl)) pgs_nil))))
      (pss_one (ps_ret (pe_tup (pa_cons (pv 2) (pa_cons (pe_op op_sub (pe_callB (lenL K rfl) (by rfl) T.z_len bt_len (pa_cons (pv 1) pa_nil)) (pv 2)) pa_nil))))))), ?_⟩
    refine ⟨_, rfl, a, ns, rfl, hS, R, ?_⟩
    refine ⟨_, rfl, a, ns, rfl, hS, R, fun H2 tp r rs L Tl s2 _ et er hl hi W => ?_⟩
    refine ⟨tp, _, rfl, SqT.of et, rfl, _, _, rfl, _, _, rfl, rfl, ?_⟩
    refine ⟨_, rfl, _, rfl, r, _, rfl, .inl (SqL.of er), _, rfl, _, _, rfl, rfl, (by show 2 ≤ sizeLine; decide), fun t nt => ?_⟩
    refine q _ t L Tl (s2.put (s2.free nt)) (s2.free nt) ?_ W
    rw [upd_same, List.length_map, hl]
/-! ### _law_cell_at -/
def cell (ns : List Int) (k : Int) : Int := ns.getD k.toNat 0
def sp_l_cell_at (K : PySem.W.Frag) : Sp := fun vs H Q _ => ∃ (a : Addr) (ns : List Int) (k : Int), vs = [.ref a, .int k] ∧ SqL K H a (vi ns) ∧ 0 ≤ k ∧ Q (.int (cell ns k)) H
theorem ok_l_cell_at (T : Txt K mg) : FnOk P w K mg base CX0 1 T.f_l_cell_at T.d_l_cell_at ["script", "k"] (sp_l_cell_at K) := by
  refine T.F_l_cell_at.ok sc_l_cell_at (fun vs H Q E h => ?_) (fun cdv A outer s H vs Q E hr h => ?_)
  · obtain ⟨a, ns, k, rfl, _⟩ := h
    rfl
  · obtain ⟨a, ns, k, rfl, hS, hk, q⟩ := h
    refine ⟨_, pss_cons (ps_if (pt_cmpR op_lt (pv 1) (pe_callB call_len_seq (by rfl) T.z_len bt_len (pa_cons (pv 0) pa_nil)) (nomark _)) (pss_one (ps_ret (pe_ix ix_list (pv 0) (pv 1) (fun _ _ => rfl)))) pss_nil)
      (pss_one (ps_ret pe_int)), ?_⟩
    refine ⟨_, rfl, _, rfl, a, _, rfl, .inl hS, _, _, rfl, rfl, _, rfl, if2 (fun c => ?_) (fun c => ?_)⟩
    · rw [vi_len] at c
      have h1 : k.toNat < ns.length := by omega
      exact ⟨_, rfl, _, rfl, a, _, _, _, rfl, rfl, hS, atI_of (j := k.toNat) (by omega) (vi_nth h1), q⟩
    · rw [vi_len] at c
      have e : cell ns k = 0 := by
        unfold cell
        rw [List.getD_eq_getElem?_getD, List.getElem?_eq_none (by omega)]
        rfl
      rw [e] at q
      exact q
/-! ### _law_draw -/
def sp_l_draw : Sp := fun vs H Q _ => ∃ (c k b : Int), vs = [.int c, .int k, .int b] ∧ 0 < b ∧ ∀ x : Int, 0 ≤ x → x < b → Q (.int x) H
theorem ok_l_draw (T : Txt K mg) : FnOk P w K mg base CX0 1 T.f_l_draw T.d_l_draw ["cell", "k", "bound"] sp_l_draw := by
  refine T.F_l_draw.ok sc_l_draw (fun vs H Q E h => ?_) (fun cdv A outer s H vs Q E hr h => ?_)
  · obtain ⟨c, k, b, rfl, _⟩ := h
    rfl
  · obtain ⟨c, k, b, rfl, hb, q⟩ := h
    refine ⟨_, pss_cons (ps_set (i := 3) sc_l_draw.nd rfl (.inl rfl) (pe_op op_mod (pe_op op_mul (pe_op op_add (pe_op op_add (pe_op op_mod (pv 0) pe_int) (pe_op op_mul pe_int (pv 1))) pe_int) pe_int) pe_int))
      (pss_cons (ps_set (i := 3) sc_l_draw.nd rfl (.inl rfl) (pe_op op_mod (pe_op op_mul (pv 3) (pv 3)) pe_int))
      (pss_cons (ps_set (i := 3) sc_l_draw.nd rfl (.inl rfl) (pe_op op_mod (pe_op op_mul (pe_op op_add (pv 3) (pe_op op_mul pe_int (pe_op op_add (pv 1) pe_int))) pe_int) pe_int))
      (pss_one (ps_ret (pe_op op_mod (pe_op op_fdiv (pv 3) pe_int) (pv 2)))))), ?_⟩
    refine ⟨_, rfl, _, _, rfl, rfl, (by show (0 : Int) < 2147483647; decide), _, rfl, _, _, rfl, rfl, .inl ⟨by decide, by decide⟩, _, _, rfl, rfl, _, _, rfl, rfl, _, _, rfl, rfl, .inr ⟨by decide, by decide⟩, _, _, rfl, rfl, (by show (0 : Int) < 2147483647; decide), ?_⟩
    generalize hs1 : ((c % 2147483647 + 977 * k + 1) * 48271 % 2147483647 : Int) = s1
    have a1 : 0 ≤ s1 := by rw [← hs1]; exact Int.emod_nonneg _ (by decide)
    have a2 : s1 < 2147483647 := by rw [← hs1]; exact Int.emod_lt_of_pos _ (by decide)
    refine ⟨_, rfl, _, rfl, _, _, rfl, rfl, .inl ⟨by omega, by omega⟩, _, _, rfl, rfl, (by show (0 : Int) < 2147483629; decide), ?_⟩
    refine ⟨_, rfl, _, rfl, _, _, rfl, rfl, _, _, rfl, rfl, .inl ⟨by decide, by decide⟩, _, _, rfl, rfl, _, _, rfl, rfl, .inr ⟨by decide, by decide⟩, _, _, rfl, rfl, (by show (0 : Int) < 2147483647; decide), ?_⟩
    refine ⟨_, rfl, _, _, rfl, rfl, ⟨by decide, by decide⟩, _, rfl, _, _, rfl, rfl, hb, ?_⟩
    exact q _ (Int.emod_nonneg _ (by omega)) (Int.emod_lt_of_pos _ hb)
/-! ### _law_whole -/
def sp_l_whole : Sp := fun vs H Q _ => ∃ i : Int, vs = [.int i] ∧ Q (.bl true) H
theorem ok_l_whole (T : Txt K mg) : FnOk P w K mg base CX0 1 T.f_l_whole T.d_l_whole ["found"] sp_l_whole := by
  refine T.F_l_whole.ok sc_l_whole (fun vs H Q E h => ?_) (fun cdv A outer s H vs Q E hr h => ?_)
  · obtain ⟨i, rfl, _⟩ := h
    rfl
  · obtain ⟨i, rfl, q⟩ := h
    refine ⟨_, pss_one (ps_ret (pe_and (pe_callB call_isi (by rfl) T.z_isinstance bt_isinstance (pa_cons (pv 0) (pa_cons (pe_cls T.z_int bt_int) pa_nil))) (pe_one (pe_not (pe_callB call_isi (by rfl) T.z_isinstance bt_isinstance (pa_cons (pv 0) (pa_cons (pe_cls T.z_bool bt_bool) pa_nil))))))), ?_⟩
    refine ⟨_, rfl, _, _, _, _, true, rfl, .ty "int", .base (.int i), kit_ty (by decide +kernel), _, rfl, iteT ?_⟩
    exact ⟨_, rfl, _, _, _, _, false, rfl, .ty "bool", .base (.int i), kit_ty (by decide +kernel), _, rfl, q⟩
/-! ### _law_ring_by: some ring -/
theorem ring_of {zs : List Int} {n : Nat} (hl : zs.length = n) (h3 : 3 ≤ n) (h16 : n ≤ 16) (h : ∀ i, i < n → 0 ≤ zs.getD i 0 ∧ zs.getD i 0 ≤ 1000) : GR.Ring zs :=
  ⟨by omega, by omega, fun x hx => by
    obtain ⟨k, hk, e⟩ := GR.mem_getD hx
    have q := h k (by omega)
    rw [e] at q
    exact q⟩
theorem cut_to (ns : List Int) (n : Nat) : cutV (vi ns) none (some (n : Int)) = vi (ns.take n) := by
  unfold cutV
  rw [show HT.sIx (vi ns).length (vi ns).length (some (n : Int)) = min n (vi ns).length from HT.sIx_nat _ _ n, HT.sIx_none]
  rw [List.drop_zero, Nat.sub_zero, vi_len]
  show (List.map V.int ns).take (min n ns.length) = List.map V.int (ns.take n)
  rw [← List.map_take]
  congr 1
  rw [List.take_eq_take_iff]
  omega
theorem cut_from (ns : List Int) (n : Nat) : cutV (vi ns) (some (n : Int)) none = vi (ns.drop n) := by
  unfold cutV
  rw [show HT.sIx (vi ns).length 0 (some (n : Int)) = min n (vi ns).length from HT.sIx_nat _ _ n, HT.sIx_none, vi_len]
  show ((List.map V.int ns).drop (min n ns.length)).take (ns.length - min n ns.length) = List.map V.int (ns.drop n)
  rw [← List.map_drop, ← List.map_take]
  congr 1
  by_cases c : n ≤ ns.length
  · rw [Nat.min_eq_left c]
    exact List.take_of_length_le (by rw [List.length_drop]; omega)
  · rw [List.drop_eq_nil_of_le (by omega), List.drop_eq_nil_of_le (by omega)]
    exact List.take_nil
def sp_l_ring_by (K : PySem.W.Frag) : Sp := fun vs H Q _ => ∃ (a : Addr) (ns : List Int) (f : Int), vs = [.ref a, .int f] ∧ SqL K H a (vi ns) ∧ 0 ≤ f ∧
  ∀ H' p rs, Same H H' → H p = none → H' p = some (.lst (vi rs)) → GR.Ring rs → Q (.ref p) H'
theorem ok_l_ring_by (T : Txt K mg) : FnOk P w K mg base CX0 2 T.f_l_ring_by T.d_l_ring_by ["script", "first"] (sp_l_ring_by K) := by
  refine T.F_l_ring_by.ok sc_l_ring_by (fun vs H Q E h => ?_) (fun cdv A outer s H vs Q E hr h => ?_)
  · obtain ⟨a, ns, f, rfl, _⟩ := h
    rfl
  · obtain ⟨a, ns, f, rfl, hS, hf, q⟩ := h
    have hrc : ∀ {X : Cx}, X.A = A.deeper (envOfC "_law_ring_by" (defScope s_l_ring_by) s.heap.objs.size T.f_l_ring_by cdv) → Room 1 X.A := fun e => e ▸ hr
    refine ⟨_, pss_cons (ps_set (i := 2) sc_l_ring_by.nd rfl (.inl rfl) (pe_call (ok_l_cell_at T) hr (by rfl) T.g_l_cell_at T.F_l_cell_at.kp T.b_l_cell_at .nil pass0 (pa_cons (pv 0) (pa_cons (pv 1) pa_nil))))
      (pss_cons (ps_set (i := 3) sc_l_ring_by.nd rfl (.inl rfl) (pe_op op_add pe_int (pe_op op_mod (pv 2) pe_int)))
      (pss_cons (ps_if (pt_cmpR op_eq (pe_op op_mod (pe_op op_fdiv (pv 2) pe_int) pe_int) pe_int (nomark _))
        (pss_one (ps_ret (pe_lc (own := [("k", 6)]) (g := gName 6) (tt := tYes) rfl sc_l_ring_by.nd (pi_range1 (by rfl) T.z_range (pa_cons (pe_op op_add pe_int (pe_op op_mod (pv 2) pe_int)) pa_nil))
          (blkOk_by (own := [("k", 6)]) (N := N_l_ring_by) (sc := defScope s_l_ring_by) (by decide +kernel)) (fun _ _ _ _ _ => pg_name (i := 6) sc_l_ring_by.nd rfl (Or.inl rfl)) (fun _ _ _ _ _ => pts_nil)
          (fun _ _ _ _ _ => pe_call (ok_l_draw T) hr (by rfl) T.g_l_draw T.F_l_draw.kp T.b_l_draw .nil pass0 (pa_cons (pe_call (ok_l_cell_at T) hr (by rfl) T.g_l_cell_at T.F_l_cell_at.kp T.b_l_cell_at .nil pass0 (pa_cons (pv 0) (pa_cons (pe_op op_add (pv 1) pe_int) pa_nil))) (pa_cons (pv 6) (pa_cons pe_int pa_nil))))))) pss_nil)
      (pss_cons (ps_if (pt_cmpR op_eq (pe_op op_mod (pe_op op_fdiv (pv 2) pe_int) pe_int) pe_int (nomark _))
        (pss_one (ps_ret (pe_lc (own := [("k", 6)]) (g := gName 6) (tt := tYes) rfl sc_l_ring_by.nd (pi_range1 (by rfl) T.z_range (pa_cons (pe_op op_add pe_int (pe_op op_mod (pv 2) pe_int)) pa_nil))
          (blkOk_by (own := [("k", 6)]) (N := N_l_ring_by) (sc := defScope s_l_ring_by) (by decide +kernel)) (fun _ _ _ _ _ => pg_name (i := 6) sc_l_ring_by.nd rfl (Or.inl rfl)) (fun _ _ _ _ _ => pts_nil)
          (fun _ _ _ _ _ => pe_op op_mod (pe_call (ok_l_cell_at T) hr (by rfl) T.g_l_cell_at T.F_l_cell_at.kp T.b_l_cell_at .nil pass0 (pa_cons (pv 0) (pa_cons (pe_op op_add (pe_op op_add (pv 1) pe_int) (pv 6)) pa_nil))) pe_int)))) pss_nil)
      (pss_cons (ps_set (i := 4) sc_l_ring_by.nd rfl (.inr rfl) (pe_ix ix_list (pe_lst (pa_cons pe_int (pa_cons pe_int (pa_cons pe_int (pa_cons pe_int (pa_cons pe_int pa_nil)))))) (pe_op op_mod (pe_op op_fdiv (pv 2) pe_int) pe_int) (fun _ _ => rfl)))
      (pss_cons (ps_setLc (i := 5) (own := [("k", 6)]) (g := gName 6) (tt := tYes) rfl sc_l_ring_by.nd rfl rfl (sw_true rfl rfl rfl (by decide +kernel)) (pi_range1 (by rfl) T.z_range (pa_cons (pv 3) pa_nil))
          (blkOk_by (own := [("k", 6)]) (N := N_l_ring_by) (sc := defScope s_l_ring_by) (by decide +kernel)) (fun _ _ _ _ _ => pg_name (i := 6) sc_l_ring_by.nd rfl (Or.inl rfl)) (fun _ _ _ _ _ => pts_nil)
          (fun _ _ _ _ _ => pe_call (ok_l_draw T) hr (by rfl) T.g_l_draw T.F_l_draw.kp T.b_l_draw .nil pass0 (pa_cons (pe_call (ok_l_cell_at T) hr (by rfl) T.g_l_cell_at T.F_l_cell_at.kp T.b_l_cell_at .nil pass0 (pa_cons (pv 0) (pa_cons (pe_op op_add (pv 1) pe_int) pa_nil))) (pa_cons (pv 6) (pa_cons (pv 4) pa_nil)))))
      (pss_cons (ps_if (pt_cmpR op_eq (pv 4) pe_int (nomark _))
        (pss_one (ps_setLc (i := 5) (own := [("number", 7)]) (g := gName 7) (tt := tYes) rfl sc_l_ring_by.nd rfl rfl (sw_true rfl rfl rfl (by decide +kernel)) (pi_list (pv 5))
          (blkOk_by (own := [("number", 7)]) (N := N_l_ring_by) (sc := defScope s_l_ring_by) (by decide +kernel)) (fun _ _ _ _ _ => pg_name (i := 7) sc_l_ring_by.nd rfl (Or.inl rfl)) (fun _ _ _ _ _ => pts_nil)
          (fun _ _ _ _ _ => pe_op op_mul (pv 7) (pe_op op_mod (pv 7) pe_int)))) pss_nil)
      (pss_cons (ps_if (pt_cmpR op_eq (pe_op op_mod (pe_op op_fdiv (pv 2) pe_int) pe_int) pe_int (nomark _))
        (pss_one (ps_ret (pe_op op_cat (pe_slice sl_list (pv 5) po_none (po_some pe_int)) (pe_slice sl_list (pv 5) po_none (po_some pe_int))))) pss_nil)
      (pss_one (ps_ret (pv 5)))))))))), ?_⟩
    refine ⟨_, rfl, _, rfl, a, ns, f, rfl, hS, hf, ?_⟩
    generalize cell ns f = c
    refine ⟨_, rfl, _, _, rfl, rfl, (by show (0 : Int) < 14; decide), _, _, rfl, rfl, ?_⟩
    have z14 := Int.emod_nonneg c (b := 14) (by decide)
    have y14 := Int.emod_lt_of_pos c (b := 14) (by decide)
    have z3 := Int.emod_nonneg c (b := 3) (by decide)
    have y3 := Int.emod_lt_of_pos c (b := 3) (by decide)
    have z5 := Int.emod_nonneg c (b := 5) (by decide)
    have y5 := Int.emod_lt_of_pos c (b := 5) (by decide)
    refine ⟨_, rfl, _, _, rfl, rfl, ⟨by decide, by decide⟩, _, _, rfl, rfl, (by show (0 : Int) < 4; decide), rfl, _, rfl, if2 (fun _ => ?_) (fun _ => ?_)⟩
    · refine ⟨_, rfl, _, _, rfl, rfl, (by show (0 : Int) < 3; decide), _, _, rfl, rfl, _, rfl, by omega, by omega, fun D nD => ?_⟩
      refine lc_ints (fun i z => 0 ≤ z ∧ z ≤ 1000) nD (by omega) (fun i H' hi sm Q' hQ => ?_) (fun H' zs hl hR sm e => ?_)
      · refine ⟨_, rfl, _, rfl, _, _, rfl, rfl, a, ns, f + 1, rfl, sm.seq hS, by omega, _, rfl, _, _, _, rfl, by decide, fun x h0 h1 => hQ x ⟨h0, by omega⟩⟩
      · exact q H' D zs sm nD e (ring_of hl (by omega) (by omega) hR)
    refine ⟨_, rfl, _, _, rfl, rfl, ⟨by decide, by decide⟩, _, _, rfl, rfl, (by show (0 : Int) < 4; decide), rfl, _, rfl, if2 (fun _ => ?_) (fun _ => ?_)⟩
    · refine ⟨_, rfl, _, _, rfl, rfl, (by show (0 : Int) < 5; decide), _, _, rfl, rfl, _, rfl, by omega, by omega, fun D nD => ?_⟩
      refine lc_ints (fun i z => 0 ≤ z ∧ z ≤ 1000) nD (by omega) (fun i H' hi sm Q' hQ => ?_) (fun H' zs hl hR sm e => ?_)
      · refine ⟨_, rfl, _, rfl, _, _, rfl, rfl, _, rfl, _, _, rfl, rfl, a, ns, f + 10 + (0 + i), rfl, sm.seq hS, by omega, _, _, rfl, rfl, (by show (0 : Int) < 1001; decide), hQ _ ?_⟩
        have z1 := Int.emod_nonneg (cell ns (f + 10 + (0 + i))) (b := 1001) (by decide)
        have y1 := Int.emod_lt_of_pos (cell ns (f + 10 + (0 + i))) (b := 1001) (by decide)
        exact ⟨z1, by omega⟩
      · exact q H' D zs sm nD e (ring_of hl (by omega) (by omega) hR)
    refine ⟨by decide, fun B nB => ?_⟩
    have zb := Int.emod_nonneg (c / 14) (b := 5) (by decide)
    have yb := Int.emod_lt_of_pos (c / 14) (b := 5) (by decide)
    refine ⟨_, rfl, _, _, rfl, rfl, ⟨by decide, by decide⟩, _, _, rfl, rfl, (by show (0 : Int) < 5; decide), ?_⟩
    obtain ⟨bd, hb, b0, b1⟩ : ∃ bd : Int, ([.int 2, .int 3, .int 10, .int 41, .int 7] : List V)[(c / 14 % 5).toNat]? = some (.int bd) ∧ 0 < bd ∧ bd ≤ 41 := by
      have hc : c / 14 % 5 = 0 ∨ c / 14 % 5 = 1 ∨ c / 14 % 5 = 2 ∨ c / 14 % 5 = 3 ∨ c / 14 % 5 = 4 := by omega
      rcases hc with e | e | e | e | e <;> rw [e]
      · exact ⟨2, rfl, by decide, by decide⟩
      · exact ⟨3, rfl, by decide, by decide⟩
      · exact ⟨10, rfl, by decide, by decide⟩
      · exact ⟨41, rfl, by decide, by decide⟩
      · exact ⟨7, rfl, by decide, by decide⟩
    refine ⟨B, _, _, _, rfl, rfl, SqL.of upd_same, atI_of (j := (c / 14 % 5).toNat) (by omega) hb, ?_⟩
    have sB : Same H (upd H B (.lst [.int 2, .int 3, .int 10, .int 41, .int 7])) := Same.new nB
    refine ⟨_, rfl, _, rfl, by omega, by omega, fun D nD => ?_⟩
    have nD0 := sB.free nD
    refine lc_ints (fun i z => 0 ≤ z ∧ z ≤ 40) nD (by omega) (fun i H' hi sm Q' hQ => ?_) (fun H1 zs hl hR sm eD => ?_)
    · exact ⟨_, rfl, _, rfl, _, _, rfl, rfl, a, ns, f + 1, rfl, sm.seq (sB.seq hS), by omega, _, rfl, _, rfl, _, _, _, rfl, b0, fun x h0 h1 => hQ x ⟨h0, by omega⟩⟩
    have s1 : Same H H1 := sB.trans sm
    -- what follows the drawing: a ring r at some place of its own
    have tail : ∀ (H2 : Hp) (p : Addr) (rs : List Int) (y6 y7 : Option V), Same H H2 → H p = none → H2 p = some (.lst (vi rs)) → GR.Ring rs →
        tSeq (tIfS (tTest (tOp rEq (tOp (rI (fun _ j => 0 < j) fun i j => .int (i % j)) (tOp (rI CDiv fun i j => .int (i / j)) (tVar 2) (tC (.int 70))) (tC (.int 4))) (tC (.int 3))))
          (tRet (tOp rCat (tSl (rSlL K) (tVar 5) tNoPart (tPart (tC (.int 8)))) (tSl (rSlL K) (tVar 5) tNoPart (tPart (tC (.int 8)))))) tNext) (tRet (tVar 5)) { nx := fun _ H' => Q .non H', rt := Q }
          [some (.ref a), some (.int f), some (.int c), some (.int (3 + c % 14)), some (.int bd), some (.ref p), y6, y7] H2 := by
      intro H2 p rs y6 y7 sm2 np ep R
      have hP : SqL K H2 p (vi rs) := SqL.of ep
      refine ⟨_, rfl, _, _, rfl, rfl, ⟨by decide, by decide⟩, _, _, rfl, rfl, (by show (0 : Int) < 4; decide), rfl, _, rfl, if2 (fun _ => ?_) (fun _ => ?_)⟩
      · refine ⟨_, rfl, _, rfl, p, _, rfl, hP, fun u nu => ?_⟩
        have su := Same.new (o := .lst (cutV (vi rs) none (some 8))) nu
        refine ⟨_, rfl, _, rfl, p, _, rfl, su.seq hP, fun v nv => ?_⟩
        have nuv : u ≠ v := new_ne nv
        have e8 : cutV (vi rs) none (some 8) = vi (rs.take 8) := cut_to rs 8
        have l3 := R.lo
        refine ⟨u, v, _, _, rfl, rfl, by rw [upd_ne nuv]; exact upd_same, upd_same, ?_, fun x nx => ?_⟩
        · rw [e8, vi_len, List.length_take]
          exact line_le (by omega)
        · have nxv : H2 x = none := (su.trans (Same.new nv)).free nx
          refine q _ x (rs.take 8 ++ rs.take 8) (((sm2.put (sm2.free nu)).put (sm2.free (su.free nv))).put (sm2.free nxv)) (sm2.free nxv) ?_ ⟨?_, ?_, ?_⟩
          · rw [upd_same, e8, ← List.map_append]
          · rw [List.length_append, List.length_take]
            omega
          · rw [List.length_append, List.length_take]
            omega
          · intro z hz
            rcases List.mem_append.mp hz with h | h
            · exact R.bd z (List.mem_of_mem_take h)
            · exact R.bd z (List.mem_of_mem_take h)
      · exact ⟨_, rfl, q H2 p rs sm2 np ep R⟩
    refine ⟨_, rfl, rfl, _, rfl, if2 (fun _ => ?_) (fun _ => ?_)⟩
    · -- ring = [number * (number % 3) ..]
      have hD : SqL K H1 D (vi zs) := SqL.of eD
      refine ⟨_, rfl, D, rfl, ⟨_, hD⟩, fun C nC => ?_⟩
      have lz : (vi zs).length ≤ 1000 := by rw [vi_len]; omega
      refine lc_intsL (a := D) (xs := vi zs) (fun i z => 0 ≤ z ∧ z ≤ 1000) hD nC lz (fun i x H' hi sm' Q' hQ => ?_) (fun H2 ws hl2 hR2 sm2 e2 => ?_)
      · obtain ⟨z, hz, rfl⟩ := vi_at hi
        have hi2 : i < zs.length := (List.getElem?_eq_some_iff.mp hz).1
        have b := hR i (by omega)
        rw [getD_some hi2] at hz
        have ez := Option.some.inj hz
        rw [ez] at b
        have m0 := Int.emod_nonneg z (b := 3) (by decide)
        have m1 := Int.emod_lt_of_pos z (b := 3) (by decide)
        refine ⟨_, rfl, _, rfl, _, _, rfl, rfl, (by show (0 : Int) < 3; decide), _, _, rfl, rfl, .inl ⟨by omega, by omega⟩, hQ _ ⟨Int.mul_nonneg b.1 m0, ?_⟩⟩
        exact Int.le_trans (Int.mul_le_mul b.2 (show z % 3 ≤ 2 by omega) m0 (by decide)) (by decide)
      · rw [vi_len] at hl2 hR2
        exact tail H2 C ws _ _ (s1.trans sm2) (s1.free nC) e2 (ring_of hl2 (by omega) (by omega) hR2)
    · exact tail H1 D zs _ _ s1 nD0 eD (ring_of hl (by omega) (by omega) fun i hi => by have := hR i hi; omega)
/-! ### _law_gaps -/
theorem ok_l_gaps (T : Txt K mg) : FnOk P w K mg base CX0 1 T.f_l_gaps T.d_l_gaps ["ring"] (sp_gapsL K 0) := by
  refine T.F_l_gaps.ok sc_l_gaps (fun vs H Q E h => ?_) (fun cdv A outer s H vs Q E hr h => ?_)
  · obtain ⟨a, ns, rfl, _⟩ := h
    rfl
  · obtain ⟨a, ns, rfl, hS, h1, h16, q⟩ := h
    refine ⟨_, pss_one (ps_ret
      (pe_lc (own := [("k", 1)]) (g := gName 1) (tt := tYes) rfl sc_l_gaps.nd (pi_range1 (by rfl) T.z_range (pa_cons (pe_callB call_len_seq (by rfl) T.z_len bt_len (pa_cons (pv 0) pa_nil)) pa_nil))
        (blkOk_by (own := [("k", 1)]) (N := N_l_gaps) (sc := defScope s_l_gaps) (by decide +kernel)) (fun _ _ _ _ _ => pg_name (i := 1) sc_l_gaps.nd rfl (Or.inl rfl)) (fun _ _ _ _ _ => pts_nil)
        (fun _ _ _ _ _ => pe_callB call_abs (by rfl) T.z_abs bt_abs (pa_cons (pe_op op_sub (pe_ix (ixL K rfl) (pv 0) (pv 1) (fun _ _ => rfl)) (pe_ix (ixL K rfl) (pv 0) (pe_op op_mod (pe_op op_add (pv 1) pe_int) (pe_callB (lenL K rfl) (by rfl) T.z_len bt_len (pa_cons (pv 0) pa_nil))) (fun _ _ => rfl))) pa_nil)))), ?_⟩
    refine ⟨_, rfl, a, _, rfl, .inl hS, _, rfl, by rw [vi_len]; omega, by rw [vi_len]; omega, fun D nD => ?_⟩
    refine lc_ints (fun i z => z = (GR.gp ns).getD i 0) nD (by rw [vi_len]; omega) (fun i H' hi sm Q' hQ => ?_) (fun H' zs hl hR sm e => ?_)
    · rw [vi_len] at hi
      have hi : i < ns.length := by omega
      have hA := sm.seq hS
      have hm : (i + 1) % ns.length < ns.length := Nat.mod_lt _ (by omega)
      have em : ((0 : Int) + (i : Int) + 1) % ((vi ns).length : Int) = (((i + 1) % ns.length : Nat) : Int) := by
        rw [vi_len, Int.natCast_emod]
        congr 1
        omega
      refine ⟨_, rfl, _, rfl, a, _, _, _, rfl, rfl, hA, atI_of (j := i) (by omega) (vi_nth hi), _, rfl, _, rfl, _, _, rfl, rfl, _, rfl, a, _, rfl, .inl hA, _, _, rfl, rfl, (by rw [vi_len]; omega), a, _, _, _, rfl, rfl, hA, atI_of em (vi_nth hm), _, _, rfl, rfl, _, rfl, ?_⟩
      refine hQ _ ?_
      rw [abs_eq, GR.gp_get hi]
    · rw [vi_len] at hl hR
      have ez : zs = GR.gp ns := GR.list_ext' (by rw [hl, GR.gp_length]; omega) fun k hk => hR k (by omega)
      rw [ez] at e
      exact q H' D sm nD e
/-! ### _law_is: two lists of whole numbers -/
def sp_l_is (K : PySem.W.Frag) : Sp := fun vs H Q _ => ∃ (a b : Addr) (ns ms : List Int), vs = [.ref a, .ref b] ∧ H a = some (.lst (vi ns)) ∧ SqL K H b (vi ms) ∧ Q (.bl (decide (ns = ms))) H
theorem ok_l_is (T : Txt K mg) : FnOk P w K mg base CX0 2 T.f_l_is T.d_l_is ["found", "due"] (sp_l_is K) := by
  refine T.F_l_is.ok sc_l_is (fun vs H Q E h => ?_) (fun cdv A outer s H vs Q E hr h => ?_)
  · obtain ⟨a, b, ns, ms, rfl, _⟩ := h
    rfl
  · obtain ⟨a, b, ns, ms, rfl, hA, hB, q⟩ := h
    refine ⟨_, pss_cons (ps_if (PW.pt (pw_or (pt_not (pt_val (pe_callB call_isi (by rfl) T.z_isinstance bt_isinstance (pa_cons (pv 0) (pa_cons (pe_cls T.z_list bt_list) pa_nil)))))
        (pw_or1 (pt_cmpR op_ne (pe_callB call_len_seq (by rfl) T.z_len bt_len (pa_cons (pv 0) pa_nil)) (pe_callB call_len_seq (by rfl) T.z_len bt_len (pa_cons (pv 1) pa_nil)) (nomark _))))) (pss_one (ps_ret pe_bl)) pss_nil)
      (pss_cons (ps_for PassesOwn.never rfl (pi_list (pv 0)) (pg_name (i := 2) sc_l_is.nd rfl (.inl rfl))
        (pss_one (ps_if (pt_not (pt_val (pe_call (ok_l_whole T) hr (by rfl) T.g_l_whole T.F_l_whole.kp T.b_l_whole .nil pass0 (pa_cons (pv 2) pa_nil)))) (pss_one (ps_ret pe_bl)) pss_nil)))
      (pss_one (ps_ret (pe_cmpR (op_eqD hr.units) (pv 0) (pv 1) (nomark _))))), ?_⟩
    refine ⟨_, rfl, _, _, _, _, true, rfl, .ty "list", .base (.lst hA), kit_ty (by decide +kernel), _, rfl, iteF ?_⟩
    refine ⟨_, rfl, a, _, rfl, .inl (SqL.of hA), _, rfl, b, _, rfl, .inl hB, rfl, _, rfl, ?_⟩
    by_cases hl : ns.length = ms.length
    · refine ifnN (by rw [vi_len, vi_len, hl]) ?_
      refine ⟨_, rfl, a, rfl, ⟨_, SqL.of hA⟩, for_list (K := K) (a := a) (xs := vi ns) (fun i σ H' => ∃ v, σ = [some (.ref a), some (.ref b), v] ∧ H' = H) ⟨none, rfl, rfl⟩ (fun i σ H' _ ⟨_, _, e⟩ => e ▸ SqL.of hA) ?_ ?_⟩
      · rintro i x σ H' hi ⟨v, rfl, rfl⟩
        obtain ⟨z, hz, rfl⟩ := vi_at hi
        exact ⟨_, rfl, z, rfl, _, rfl, iteF ⟨_, rfl, rfl⟩⟩
      · rintro σ H' ⟨v, rfl, rfl⟩
        exact ⟨_, rfl, _, rfl, eqL (SqL.of hA) hB q⟩
    · refine ifnY (fun e => hl ?_) ?_
      · have := V.int.inj e
        rw [vi_len, vi_len] at this
        omega
      · have e : decide (ns = ms) = false := decide_eq_false fun e => hl (by rw [e])
        rw [e] at q
        exact q
/-! ### the law -/
theorem tail_ahead {xs ns : List Int} (hg : GR.gp xs = ns) {L T L' T' : Nat} (w : GR.Wk ns L T) (w' : GR.Wk xs L' T') : T ≤ T' := by
  have hl := w'.lt
  refine w.tail (p := L' - T') (by omega) ?_
  rw [← hg]
  show GR.it (T' + (L' - T') + 1) xs = GR.it (T' + 1) xs
  rw [GR.it_succ, GR.it_succ, w'.per]
def sp_law (K : PySem.W.Frag) : Sp := fun vs H Q _ => ∃ (a : Addr) (ns : List Int), vs = [.ref a] ∧ SqL K H a (ns.map V.int) ∧ ns.length ≤ 63 ∧ ∀ H', Q (.bl true) H'
theorem big39 : (0 : Int) < 10 ^ (39 : Int).toNat := by decide
theorem nat_of {x y : Int} (hy : 0 < y) : ∃ n : Nat, x % y = (n : Int) := ⟨(x % y).toNat, by have := Int.emod_nonneg x (b := y) (by omega); omega⟩
theorem ok_law (T : Txt K mg) : FnOk P w K mg base CX0 4 T.f_law T.d_law ["script"] (sp_law K) := by
  refine T.F_law.ok sc_law (fun vs H Q E h => ?_) (fun cdv A outer s H vs Q E hr h => ?_)
  · obtain ⟨a, ns, rfl, _⟩ := h
    rfl
  · obtain ⟨a, ns, rfl, hS, hlen, q⟩ := h
    refine ⟨_, (pss_cons (ps_set (i := 1) sc_law.nd rfl (.inl rfl) (pe_call (ok_l_ring_by T) (hr.mono (by decide)) (by rfl) T.g_l_ring_by T.F_l_ring_by.kp T.b_l_ring_by .nil pass0 (pa_cons (pv 0) (pa_cons pe_int pa_nil))))
      (pss_cons (ps_set (i := 2) sc_law.nd rfl (.inl rfl) (pe_op op_add pe_int (pe_op op_mod (pe_call (ok_l_cell_at T) (hr.mono (by decide)) (by rfl) T.g_l_cell_at T.F_l_cell_at.kp T.b_l_cell_at .nil pass0 (pa_cons (pv 0) (pa_cons pe_int pa_nil))) (pe_op op_pow pe_int pe_int))))
      (pss_cons (ps_if (pt_cmpR op_eq (pe_op op_mod (pe_call (ok_l_cell_at T) (hr.mono (by decide)) (by rfl) T.g_l_cell_at T.F_l_cell_at.kp T.b_l_cell_at .nil pass0 (pa_cons (pv 0) (pa_cons pe_int pa_nil))) pe_int) pe_int (nomark _)) (pss_one (ps_set (i := 2) sc_law.nd rfl (.inl rfl) (pe_op op_add pe_int (pe_op op_mod (pe_call (ok_l_cell_at T) (hr.mono (by decide)) (by rfl) T.g_l_cell_at T.F_l_cell_at.kp T.b_l_cell_at .nil pass0 (pa_cons (pv 0) (pa_cons pe_int pa_nil))) pe_int)))) pss_nil)
      (pss_cons (ps_set (i := 3) sc_law.nd rfl (.inl rfl) (pe_call (ok_after T) (hr.mono (by decide)) (by rfl) T.g_after T.F_after.kp T.b_after .nil pass0 (pa_cons (pe_callTy (listL K rfl) (by rfl) T.z_list bt_list (pa_cons (pv 1) pa_nil)) (pa_cons (pv 2) pa_nil))))
      (pss_cons (ps_set (i := 4) sc_law.nd rfl (.inl rfl) (pe_call (ok_ahead T) (hr.mono (by decide)) (by rfl) T.g_ahead T.F_ahead.kp T.b_ahead .nil pass0 (pa_cons (pe_callTy (listL K rfl) (by rfl) T.z_list bt_list (pa_cons (pv 3) pa_nil)) pa_nil)))
      (pss_cons (ps_if (PW.pt (pw_or (pt_not (pt_val (pe_call (ok_l_is T) (hr.mono (by decide)) (by rfl) T.g_l_is T.F_l_is.kp T.b_l_is .nil pass0 (pa_cons (pv 4) (pa_cons (pv 4) pa_nil))))) (pw_or (pt_cmpR op_ne (pe_callB (lenL K rfl) (by rfl) T.z_len bt_len (pa_cons (pv 4) pa_nil)) (pe_callB (lenL K rfl) (by rfl) T.z_len bt_len (pa_cons (pv 1) pa_nil)) (nomark _)) (pw_or (pt_cmpR op_ne (pe_callB (cr_min rfl) (by rfl) T.z_min bt_min (pa_cons (pv 4) pa_nil)) pe_int (nomark _)) (pw_or1 (pt_cmpR (op_neD hr.units) (pe_call (ok_l_gaps T) (hr.mono (by decide)) (by rfl) T.g_l_gaps T.F_l_gaps.kp T.b_l_gaps .nil pass0 (pa_cons (pv 4) pa_nil)) (pv 3) (nomark _))))))) (pss_one (ps_ret pe_bl)) pss_nil)
      (pss_cons (ps_if (pt_cmpR op_gt (pe_callB (maxL K rfl rfl) (by rfl) T.z_max bt_max (pa_cons (pv 4) pa_nil)) pe_int (nomark _)) (pss_one (ps_ret pe_bl)) pss_nil)
      (pss_cons (ps_if (PW.pt (pw_or (pt_not (pt_val (pe_call (ok_l_is T) (hr.mono (by decide)) (by rfl) T.g_l_is T.F_l_is.kp T.b_l_is .nil pass0 (pa_cons (pe_call (ok_gaps T) (hr.mono (by decide)) (by rfl) T.g_gaps T.F_gaps.kp T.b_gaps .nil pass0 (pa_cons (pe_callTy (listL K rfl) (by rfl) T.z_list bt_list (pa_cons (pv 4) pa_nil)) pa_nil)) (pa_cons (pv 3) pa_nil))))) (pw_or1 (pt_not (pt_val (pe_call (ok_l_is T) (hr.mono (by decide)) (by rfl) T.g_l_is T.F_l_is.kp T.b_l_is .nil pass0 (pa_cons (pe_call (ok_after T) (hr.mono (by decide)) (by rfl) T.g_after T.F_after.kp T.b_after .nil pass0 (pa_cons (pe_callTy (listL K rfl) (by rfl) T.z_list bt_list (pa_cons (pv 4) pa_nil)) (pa_cons pe_int pa_nil))) (pa_cons (pv 3) pa_nil)))))))) (pss_one (ps_ret pe_bl)) pss_nil)
      (pss_one (ps_ret (pe_cmpR op_ge (pe_ix (ixT K rfl) (pe_call (ok_tail_and_wheel T) (hr.mono (by decide)) (by rfl) T.g_tail_and_wheel T.F_tail_and_wheel.kp T.b_tail_and_wheel .nil pass0 (pa_cons (pe_callTy (listL K rfl) (by rfl) T.z_list bt_list (pa_cons (pv 4) pa_nil)) pa_nil)) pe_int (fun _ _ => rfl)) (pe_ix (ixT K rfl) (pe_call (ok_tail_and_wheel T) (hr.mono (by decide)) (by rfl) T.g_tail_and_wheel T.F_tail_and_wheel.kp T.b_tail_and_wheel .nil pass0 (pa_cons (pe_callTy (listL K rfl) (by rfl) T.z_list bt_list (pa_cons (pv 3) pa_nil)) pa_nil)) pe_int (fun _ _ => rfl)) (nomark _)))))))))))), ?_⟩
    refine ⟨_, rfl, a, ns, 0, rfl, hS, by decide, fun H1 r rs s1 nr er R => ?_⟩
    have R3 := R.lo
    have R16 := R.hi
    have hS1 := s1.seq hS
    obtain ⟨u, hu⟩ := nat_of (x := cell ns 2) big39
    obtain ⟨v, hv⟩ := nat_of (x := cell ns 2) (y := 5) (by decide)
    refine ⟨_, rfl, a, ns, 2, rfl, hS1, by decide, _, _, rfl, rfl, ⟨by decide, by decide, by decide⟩, _, _, rfl, rfl, big39, _, _, rfl, rfl, ?_⟩
    dsimp only [gName]
    refine cut (fun σ' H' => ∃ t : Nat, σ' = [some (.ref a), some (.ref r), some (.int ((t + 1 : Nat) : Int)), none, none] ∧ H1 = H') (fun N hN => ?_) ?_
    · refine ⟨_, rfl, a, ns, 3, rfl, hS1, by decide, _, _, rfl, rfl, (by show (0 : Int) < 2; decide), rfl, _, rfl, if2 (fun _ => ?_) (fun _ => ?_)⟩
      · refine ⟨_, rfl, a, ns, 2, rfl, hS1, by decide, _, _, rfl, rfl, (by show (0 : Int) < 5; decide), _, _, rfl, rfl, ?_⟩
        exact hN _ _ ⟨v, by show [some (V.ref a), some (V.ref r), some (V.int (1 + cell ns 2 % 5)), none, none] = _; rw [hv, show (1 : Int) + (v : Int) = ((v + 1 : Nat) : Int) by omega], rfl⟩
      · exact hN _ _ ⟨u, by show [some (V.ref a), some (V.ref r), some (V.int (1 + cell ns 2 % 10 ^ (39 : Int).toNat)), none, none] = _; rw [hu, show (1 : Int) + (u : Int) = ((u + 1 : Nat) : Int) by omega], rfl⟩
    rintro σ' H' ⟨t, rfl, rfl⟩
    -- here, found
    refine ⟨_, rfl, r, _, rfl, .inl (SqL.of er), fun c1 nc1 => ⟨_, rfl, c1, rs, t + 1, rfl, SqL.of upd_same, R, fun H2 e s2 ne ee => ?_⟩⟩
    have s2' := (Same.new (o := .lst (vi rs)) nc1).trans s2
    have er2 := s2' _ _ er
    have Rh : GR.Ring (GR.it (t + 1) rs) := R.itR (t + 1)
    have hl : (GR.it (t + 1) rs).length = rs.length := GR.it_length _ _
    have hh : GR.Half (GR.it (t + 1) rs) := by
      rw [GR.it_succ]
      exact GR.half_gp (R.itR t).pos
    generalize GR.it (t + 1) rs = hs at ee Rh hl hh
    refine ⟨_, rfl, e, _, rfl, .inl (SqL.of ee), fun c2 nc2 => ⟨c2, hs, rfl, SqL.of upd_same, Rh, fun H3 fv s3 hf => ?_⟩⟩
    rcases hf with ⟨_, hno⟩ | ⟨f, xs, rfl, nf, ef, W, _⟩
    · exact absurd hh hno
    have s3' := (Same.new (o := .lst (vi hs)) nc2).trans s3
    have er3 := s3' _ _ er2
    have ee3 := s3' _ _ ee
    have hxl := W.len
    -- the first test
    refine ⟨_, rfl, _, rfl, f, f, xs, xs, rfl, ef, SqL.of ef, _, rfl, ?_⟩
    rw [decide_eq_true rfl]
    refine iteF ⟨_, rfl, f, _, rfl, .inl (SqL.of ef), _, rfl, r, _, rfl, .inl (SqL.of er3), rfl, _, rfl, ifnN (by rw [vi_len, vi_len, hxl, hl]) ?_⟩
    have hpos : 0 < xs.length := List.length_pos_of_mem W.nought
    refine ⟨_, rfl, f, _, rfl, SqL.of ef, hpos, fun m hm hle => ⟨rfl, _, rfl, ifnN (vint ?_) ?_⟩⟩
    · have := W.low m hm
      have := hle 0 W.nought
      omega
    refine ⟨_, rfl, f, _, rfl, SqL.of ef, Nat.zero_le _, by omega, fun H4 g s4 ng eg => ⟨_, rfl, neL (SqL.of eg) (SqL.of (s4 _ _ ee3)) ⟨_, rfl, ?_⟩⟩⟩
    rw [decide_eq_true W.gaps]
    refine iteF ?_
    have ef4 := s4 _ _ ef
    have ee4 := s4 _ _ ee3
    -- if max(found) > 1000: return True
    refine ⟨_, rfl, f, _, rfl, SqL.of ef4, hpos, fun M hM hMle => ⟨_, _, rfl, rfl, _, rfl, if2 (fun _ => q _) (fun hc => ?_)⟩⟩
    have Rx : GR.Ring xs := ⟨by omega, by omega, fun x hx => ⟨W.low x hx, by have := hMle x hx; omega⟩⟩
    -- gaps(list(found)), after(list(found), 1)
    refine ⟨_, rfl, f, _, rfl, .inl (SqL.of ef4), fun c3 nc3 => ⟨c3, xs, rfl, SqL.of upd_same, Rx, fun H5 g2 s5 ng2 eg2 => ?_⟩⟩
    have s5' := (Same.new (o := .lst (vi xs)) nc3).trans s5
    have ef5 := s5' _ _ ef4
    have ee5 := s5' _ _ ee4
    refine ⟨_, rfl, g2, e, _, _, rfl, eg2, SqL.of ee5, _, rfl, ?_⟩
    rw [decide_eq_true W.gaps]
    refine iteF ?_
    refine ⟨_, rfl, f, _, rfl, .inl (SqL.of ef5), fun c4 nc4 => ⟨c4, xs, 1, rfl, SqL.of upd_same, Rx, fun H6 g3 s6 ng3 eg3 => ?_⟩⟩
    have s6' := (Same.new (o := .lst (vi xs)) nc4).trans s6
    have ef6 := s6' _ _ ef5
    have ee6 := s6' _ _ ee5
    refine ⟨_, rfl, g3, e, _, _, rfl, eg3, SqL.of ee6, _, rfl, ?_⟩
    rw [decide_eq_true (show GR.it 1 xs = hs from W.gaps)]
    refine iteF ?_
    -- the tails
    refine ⟨_, rfl, f, _, rfl, .inl (SqL.of ef6), fun c5 nc5 => ⟨c5, xs, rfl, SqL.of upd_same, Rx, fun H7 o1 L1 T1 s7 no1 eo1 W1 => ?_⟩⟩
    have s7' := (Same.new (o := .lst (vi xs)) nc5).trans s7
    have ee7 := s7' _ _ ee6
    refine ⟨o1, _, _, _, rfl, rfl, SqT.of eo1, atI_of (j := 0) rfl rfl, ?_⟩
    refine ⟨_, rfl, e, _, rfl, .inl (SqL.of ee7), fun c6 nc6 => ⟨c6, hs, rfl, SqL.of upd_same, Rh, fun H8 o2 L2 T2 s8 no2 eo2 W2 => ?_⟩⟩
    refine ⟨o2, _, _, _, rfl, rfl, SqT.of eo2, atI_of (j := 0) rfl rfl, _, _, rfl, rfl, ?_⟩
    have hle := tail_ahead W.gaps W2 W1
    show Q (.bl (decide ((T2 : Int) ≤ (T1 : Int)))) H8
    rw [decide_eq_true (show (T2 : Int) ≤ (T1 : Int) by omega)]
    exact q _
end
/-! ### what the top has written; the law's own head -/
theorem all_mk {l : PySem.W.OpenLaw} {w : World} {K : PySem.W.Frag} {h : Heap} {mg : Str → Option Value} {fa : Addr} (X : K.In h) (G : h.Ns mainGlobals mg) (hfa : mg "law" = some (.ref fa))
    {f_asked : Addr} {od_asked an_asked : Option Addr} {sl_asked : Array (Option Value)} {oc_asked kV_asked dc_asked pm_asked cd_asked ct_asked : Value}
    (a_asked : PySem.W.nsIn K mainGlobals "asked" = some (some (.ref f_asked))) (l_asked : K.lookup f_asked = some ⟨oc_asked, od_asked, .func (PySem.W.fnOf "asked" "asked" (defArgs s_asked) (defBody s_asked) (defScope s_asked) .none kV_asked dc_asked pm_asked an_asked cd_asked ct_asked), sl_asked⟩) (co_asked : PySem.W.codeIn K cd_asked "asked" = true) (k_asked : PySem.W.keepIn K (.ref f_asked) = true)
    {f_gaps_of : Addr} {od_gaps_of an_gaps_of : Option Addr} {sl_gaps_of : Array (Option Value)} {oc_gaps_of kV_gaps_of dc_gaps_of pm_gaps_of cd_gaps_of ct_gaps_of : Value}
    (a_gaps_of : PySem.W.nsIn K mainGlobals "gaps_of" = some (some (.ref f_gaps_of))) (l_gaps_of : K.lookup f_gaps_of = some ⟨oc_gaps_of, od_gaps_of, .func (PySem.W.fnOf "gaps_of" "gaps_of" (defArgs s_gaps_of) (defBody s_gaps_of) (defScope s_gaps_of) .none kV_gaps_of dc_gaps_of pm_gaps_of an_gaps_of cd_gaps_of ct_gaps_of), sl_gaps_of⟩) (co_gaps_of : PySem.W.codeIn K cd_gaps_of "gaps_of" = true) (k_gaps_of : PySem.W.keepIn K (.ref f_gaps_of) = true)
    {f_gaps : Addr} {od_gaps an_gaps : Option Addr} {sl_gaps : Array (Option Value)} {oc_gaps kV_gaps dc_gaps pm_gaps cd_gaps ct_gaps : Value}
    (a_gaps : PySem.W.nsIn K mainGlobals "gaps" = some (some (.ref f_gaps))) (l_gaps : K.lookup f_gaps = some ⟨oc_gaps, od_gaps, .func (PySem.W.fnOf "gaps" "gaps" (defArgs s_gaps) (defBody s_gaps) (defScope s_gaps) .none kV_gaps dc_gaps pm_gaps an_gaps cd_gaps ct_gaps), sl_gaps⟩) (co_gaps : PySem.W.codeIn K cd_gaps "gaps" = true) (k_gaps : PySem.W.keepIn K (.ref f_gaps) = true)
    {f_walked : Addr} {od_walked an_walked : Option Addr} {sl_walked : Array (Option Value)} {oc_walked kV_walked dc_walked pm_walked cd_walked ct_walked : Value}
    (a_walked : PySem.W.nsIn K mainGlobals "walked" = some (some (.ref f_walked))) (l_walked : K.lookup f_walked = some ⟨oc_walked, od_walked, .func (PySem.W.fnOf "walked" "walked" (defArgs s_walked) (defBody s_walked) (defScope s_walked) .none kV_walked dc_walked pm_walked an_walked cd_walked ct_walked), sl_walked⟩) (co_walked : PySem.W.codeIn K cd_walked "walked" = true) (k_walked : PySem.W.keepIn K (.ref f_walked) = true)
    {f_after : Addr} {od_after an_after : Option Addr} {sl_after : Array (Option Value)} {oc_after kV_after dc_after pm_after cd_after ct_after : Value}
    (a_after : PySem.W.nsIn K mainGlobals "after" = some (some (.ref f_after))) (l_after : K.lookup f_after = some ⟨oc_after, od_after, .func (PySem.W.fnOf "after" "after" (defArgs s_after) (defBody s_after) (defScope s_after) .none kV_after dc_after pm_after an_after cd_after ct_after), sl_after⟩) (co_after : PySem.W.codeIn K cd_after "after" = true) (k_after : PySem.W.keepIn K (.ref f_after) = true)
    {f_parting : Addr} {od_parting an_parting : Option Addr} {sl_parting : Array (Option Value)} {oc_parting kV_parting dc_parting pm_parting cd_parting ct_parting : Value}
    (a_parting : PySem.W.nsIn K mainGlobals "parting" = some (some (.ref f_parting))) (l_parting : K.lookup f_parting = some ⟨oc_parting, od_parting, .func (PySem.W.fnOf "parting" "parting" (defArgs s_parting) (defBody s_parting) (defScope s_parting) .none kV_parting dc_parting pm_parting an_parting cd_parting ct_parting), sl_parting⟩) (co_parting : PySem.W.codeIn K cd_parting "parting" = true) (k_parting : PySem.W.keepIn K (.ref f_parting) = true)
    {f_ahead : Addr} {od_ahead an_ahead : Option Addr} {sl_ahead : Array (Option Value)} {oc_ahead kV_ahead dc_ahead pm_ahead cd_ahead ct_ahead : Value}
    (a_ahead : PySem.W.nsIn K mainGlobals "ahead" = some (some (.ref f_ahead))) (l_ahead : K.lookup f_ahead = some ⟨oc_ahead, od_ahead, .func (PySem.W.fnOf "ahead" "ahead" (defArgs s_ahead) (defBody s_ahead) (defScope s_ahead) .none kV_ahead dc_ahead pm_ahead an_ahead cd_ahead ct_ahead), sl_ahead⟩) (co_ahead : PySem.W.codeIn K cd_ahead "ahead" = true) (k_ahead : PySem.W.keepIn K (.ref f_ahead) = true)
    {f_tail_and_wheel : Addr} {od_tail_and_wheel an_tail_and_wheel : Option Addr} {sl_tail_and_wheel : Array (Option Value)} {oc_tail_and_wheel kV_tail_and_wheel dc_tail_and_wheel pm_tail_and_wheel cd_tail_and_wheel ct_tail_and_wheel : Value}
    (a_tail_and_wheel : PySem.W.nsIn K mainGlobals "tail_and_wheel" = some (some (.ref f_tail_and_wheel))) (l_tail_and_wheel : K.lookup f_tail_and_wheel = some ⟨oc_tail_and_wheel, od_tail_and_wheel, .func (PySem.W.fnOf "tail_and_wheel" "tail_and_wheel" (defArgs s_tail_and_wheel) (defBody s_tail_and_wheel) (defScope s_tail_and_wheel) .none kV_tail_and_wheel dc_tail_and_wheel pm_tail_and_wheel an_tail_and_wheel cd_tail_and_wheel ct_tail_and_wheel), sl_tail_and_wheel⟩) (co_tail_and_wheel : PySem.W.codeIn K cd_tail_and_wheel "tail_and_wheel" = true) (k_tail_and_wheel : PySem.W.keepIn K (.ref f_tail_and_wheel) = true)
    {f_l_cell_at : Addr} {od_l_cell_at an_l_cell_at : Option Addr} {sl_l_cell_at : Array (Option Value)} {oc_l_cell_at kV_l_cell_at dc_l_cell_at pm_l_cell_at cd_l_cell_at ct_l_cell_at : Value}
    (a_l_cell_at : PySem.W.nsIn K mainGlobals "_law_cell_at" = some (some (.ref f_l_cell_at))) (l_l_cell_at : K.lookup f_l_cell_at = some ⟨oc_l_cell_at, od_l_cell_at, .func (PySem.W.fnOf "_law_cell_at" "_law_cell_at" (defArgs s_l_cell_at) (defBody s_l_cell_at) (defScope s_l_cell_at) .none kV_l_cell_at dc_l_cell_at pm_l_cell_at an_l_cell_at cd_l_cell_at ct_l_cell_at), sl_l_cell_at⟩) (co_l_cell_at : PySem.W.codeIn K cd_l_cell_at "_law_cell_at" = true) (k_l_cell_at : PySem.W.keepIn K (.ref f_l_cell_at) = true)
    {f_l_draw : Addr} {od_l_draw an_l_draw : Option Addr} {sl_l_draw : Array (Option Value)} {oc_l_draw kV_l_draw dc_l_draw pm_l_draw cd_l_draw ct_l_draw : Value}
    (a_l_draw : PySem.W.nsIn K mainGlobals "_law_draw" = some (some (.ref f_l_draw))) (l_l_draw : K.lookup f_l_draw = some ⟨oc_l_draw, od_l_draw, .func (PySem.W.fnOf "_law_draw" "_law_draw" (defArgs s_l_draw) (defBody s_l_draw) (defScope s_l_draw) .none kV_l_draw dc_l_draw pm_l_draw an_l_draw cd_l_draw ct_l_draw), sl_l_draw⟩) (co_l_draw : PySem.W.codeIn K cd_l_draw "_law_draw" = true) (k_l_draw : PySem.W.keepIn K (.ref f_l_draw) = true)
    {f_l_whole : Addr} {od_l_whole an_l_whole : Option Addr} {sl_l_whole : Array (Option Value)} {oc_l_whole kV_l_whole dc_l_whole pm_l_whole cd_l_whole ct_l_whole : Value}
    (a_l_whole : PySem.W.nsIn K mainGlobals "_law_whole" = some (some (.ref f_l_whole))) (l_l_whole : K.lookup f_l_whole = some ⟨oc_l_whole, od_l_whole, .func (PySem.W.fnOf "_law_whole" "_law_whole" (defArgs s_l_whole) (defBody s_l_whole) (defScope s_l_whole) .none kV_l_whole dc_l_whole pm_l_whole an_l_whole cd_l_whole ct_l_whole), sl_l_whole⟩) (co_l_whole : PySem.W.codeIn K cd_l_whole "_law_whole" = true) (k_l_whole : PySem.W.keepIn K (.ref f_l_whole) = true)
    {f_l_ring_by : Addr} {od_l_ring_by an_l_ring_by : Option Addr} {sl_l_ring_by : Array (Option Value)} {oc_l_ring_by kV_l_ring_by dc_l_ring_by pm_l_ring_by cd_l_ring_by ct_l_ring_by : Value}
    (a_l_ring_by : PySem.W.nsIn K mainGlobals "_law_ring_by" = some (some (.ref f_l_ring_by))) (l_l_ring_by : K.lookup f_l_ring_by = some ⟨oc_l_ring_by, od_l_ring_by, .func (PySem.W.fnOf "_law_ring_by" "_law_ring_by" (defArgs s_l_ring_by) (defBody s_l_ring_by) (defScope s_l_ring_by) .none kV_l_ring_by dc_l_ring_by pm_l_ring_by an_l_ring_by cd_l_ring_by ct_l_ring_by), sl_l_ring_by⟩) (co_l_ring_by : PySem.W.codeIn K cd_l_ring_by "_law_ring_by" = true) (k_l_ring_by : PySem.W.keepIn K (.ref f_l_ring_by) = true)
    {f_l_gaps : Addr} {od_l_gaps an_l_gaps : Option Addr} {sl_l_gaps : Array (Option Value)} {oc_l_gaps kV_l_gaps dc_l_gaps pm_l_gaps cd_l_gaps ct_l_gaps : Value}
    (a_l_gaps : PySem.W.nsIn K mainGlobals "_law_gaps" = some (some (.ref f_l_gaps))) (l_l_gaps : K.lookup f_l_gaps = some ⟨oc_l_gaps, od_l_gaps, .func (PySem.W.fnOf "_law_gaps" "_law_gaps" (defArgs s_l_gaps) (defBody s_l_gaps) (defScope s_l_gaps) .none kV_l_gaps dc_l_gaps pm_l_gaps an_l_gaps cd_l_gaps ct_l_gaps), sl_l_gaps⟩) (co_l_gaps : PySem.W.codeIn K cd_l_gaps "_law_gaps" = true) (k_l_gaps : PySem.W.keepIn K (.ref f_l_gaps) = true)
    {f_l_is : Addr} {od_l_is an_l_is : Option Addr} {sl_l_is : Array (Option Value)} {oc_l_is kV_l_is dc_l_is pm_l_is cd_l_is ct_l_is : Value}
    (a_l_is : PySem.W.nsIn K mainGlobals "_law_is" = some (some (.ref f_l_is))) (l_l_is : K.lookup f_l_is = some ⟨oc_l_is, od_l_is, .func (PySem.W.fnOf "_law_is" "_law_is" (defArgs s_l_is) (defBody s_l_is) (defScope s_l_is) .none kV_l_is dc_l_is pm_l_is an_l_is cd_l_is ct_l_is), sl_l_is⟩) (co_l_is : PySem.W.codeIn K cd_l_is "_law_is" = true) (k_l_is : PySem.W.keepIn K (.ref f_l_is) = true)
    {f_law : Addr} {od_law an_law : Option Addr} {sl_law : Array (Option Value)} {oc_law kV_law dc_law pm_law cd_law ct_law : Value}
    (a_law : PySem.W.nsIn K mainGlobals "law" = some (some (.ref f_law))) (l_law : K.lookup f_law = some ⟨oc_law, od_law, .func (PySem.W.fnOf "law" "law" (defArgs s_law) (defBody s_law) (defScope s_law) .none kV_law dc_law pm_law an_law cd_law ct_law), sl_law⟩) (co_law : PySem.W.codeIn K cd_law "law" = true) (k_law : PySem.W.keepIn K (.ref f_law) = true)
    {t_FEWEST : Tok} (c_FEWEST : PySem.W.nsIn K mainGlobals "FEWEST" = some (some (.int 3 t_FEWEST)))
    {t_MOST : Tok} (c_MOST : PySem.W.nsIn K mainGlobals "MOST" = some (some (.int 16 t_MOST)))
    {t_GREATEST : Tok} (c_GREATEST : PySem.W.nsIn K mainGlobals "GREATEST" = some (some (.int 1000 t_GREATEST)))
    (z_abs : PySem.W.nsIn K mainGlobals "abs" = some none)
    (z_bool : PySem.W.nsIn K mainGlobals "bool" = some none)
    (z_int : PySem.W.nsIn K mainGlobals "int" = some none)
    (z_isinstance : PySem.W.nsIn K mainGlobals "isinstance" = some none)
    (z_len : PySem.W.nsIn K mainGlobals "len" = some none)
    (z_list : PySem.W.nsIn K mainGlobals "list" = some none)
    (z_max : PySem.W.nsIn K mainGlobals "max" = some none)
    (z_min : PySem.W.nsIn K mainGlobals "min" = some none)
    (z_range : PySem.W.nsIn K mainGlobals "range" = some none)
    (z_reversed : PySem.W.nsIn K mainGlobals "reversed" = some none)
    (z_sum : PySem.W.nsIn K mainGlobals "sum" = some none)
    (z_tuple : PySem.W.nsIn K mainGlobals "tuple" = some none)
    (z_zip : PySem.W.nsIn K mainGlobals "zip" = some none)
    : ∃ fd : FuncData, (∀ (s : Shared) (v : Value), BindsTo s fd ⟨[v], []⟩ [("script", v)]) ∧ ∀ base : Heap, K.In base → base.Ns mainGlobals mg → FnOk l.prog w K mg base CX0 4 fa fd ["script"] (sp_law K) := by
  have e := hfa.symm.trans (PySem.W.mg_of X G a_law)
  cases e
  have F_asked := fun_mk (st := s_asked) l_asked co_asked k_asked
  have b_asked := F_asked.binds (ps := ["ring"]) fun _ _ _ _ _ _ us hl => match us, hl with | [_], _ => rfl
  have F_gaps_of := fun_mk (st := s_gaps_of) l_gaps_of co_gaps_of k_gaps_of
  have b_gaps_of := F_gaps_of.binds (ps := ["ring"]) fun _ _ _ _ _ _ us hl => match us, hl with | [_], _ => rfl
  have F_gaps := fun_mk (st := s_gaps) l_gaps co_gaps k_gaps
  have b_gaps := F_gaps.binds (ps := ["ring"]) fun _ _ _ _ _ _ us hl => match us, hl with | [_], _ => rfl
  have F_walked := fun_mk (st := s_walked) l_walked co_walked k_walked
  have b_walked := F_walked.binds (ps := ["ring"]) fun _ _ _ _ _ _ us hl => match us, hl with | [_], _ => rfl
  have F_after := fun_mk (st := s_after) l_after co_after k_after
  have b_after := F_after.binds (ps := ["ring", "turns"]) fun _ _ _ _ _ _ us hl => match us, hl with | [_, _], _ => rfl
  have F_parting := fun_mk (st := s_parting) l_parting co_parting k_parting
  have b_parting := F_parting.binds (ps := ["ring"]) fun _ _ _ _ _ _ us hl => match us, hl with | [_], _ => rfl
  have F_ahead := fun_mk (st := s_ahead) l_ahead co_ahead k_ahead
  have b_ahead := F_ahead.binds (ps := ["ring"]) fun _ _ _ _ _ _ us hl => match us, hl with | [_], _ => rfl
  have F_tail_and_wheel := fun_mk (st := s_tail_and_wheel) l_tail_and_wheel co_tail_and_wheel k_tail_and_wheel
  have b_tail_and_wheel := F_tail_and_wheel.binds (ps := ["ring"]) fun _ _ _ _ _ _ us hl => match us, hl with | [_], _ => rfl
  have F_l_cell_at := fun_mk (st := s_l_cell_at) l_l_cell_at co_l_cell_at k_l_cell_at
  have b_l_cell_at := F_l_cell_at.binds (ps := ["script", "k"]) fun _ _ _ _ _ _ us hl => match us, hl with | [_, _], _ => rfl
  have F_l_draw := fun_mk (st := s_l_draw) l_l_draw co_l_draw k_l_draw
  have b_l_draw := F_l_draw.binds (ps := ["cell", "k", "bound"]) fun _ _ _ _ _ _ us hl => match us, hl with | [_, _, _], _ => rfl
  have F_l_whole := fun_mk (st := s_l_whole) l_l_whole co_l_whole k_l_whole
  have b_l_whole := F_l_whole.binds (ps := ["found"]) fun _ _ _ _ _ _ us hl => match us, hl with | [_], _ => rfl
  have F_l_ring_by := fun_mk (st := s_l_ring_by) l_l_ring_by co_l_ring_by k_l_ring_by
  have b_l_ring_by := F_l_ring_by.binds (ps := ["script", "first"]) fun _ _ _ _ _ _ us hl => match us, hl with | [_, _], _ => rfl
  have F_l_gaps := fun_mk (st := s_l_gaps) l_l_gaps co_l_gaps k_l_gaps
  have b_l_gaps := F_l_gaps.binds (ps := ["ring"]) fun _ _ _ _ _ _ us hl => match us, hl with | [_], _ => rfl
  have F_l_is := fun_mk (st := s_l_is) l_l_is co_l_is k_l_is
  have b_l_is := F_l_is.binds (ps := ["found", "due"]) fun _ _ _ _ _ _ us hl => match us, hl with | [_, _], _ => rfl
  have F_law := fun_mk (st := s_law) l_law co_law k_law
  have b_law := F_law.binds (ps := ["script"]) fun _ _ _ _ _ _ us hl => match us, hl with | [_], _ => rfl
  let T : Txt K mg := {
    f_asked := _, d_asked := _, F_asked := F_asked, b_asked := b_asked, g_asked := PySem.W.mg_of X G a_asked,
    f_gaps_of := _, d_gaps_of := _, F_gaps_of := F_gaps_of, b_gaps_of := b_gaps_of, g_gaps_of := PySem.W.mg_of X G a_gaps_of,
    f_gaps := _, d_gaps := _, F_gaps := F_gaps, b_gaps := b_gaps, g_gaps := PySem.W.mg_of X G a_gaps,
    f_walked := _, d_walked := _, F_walked := F_walked, b_walked := b_walked, g_walked := PySem.W.mg_of X G a_walked,
    f_after := _, d_after := _, F_after := F_after, b_after := b_after, g_after := PySem.W.mg_of X G a_after,
    f_parting := _, d_parting := _, F_parting := F_parting, b_parting := b_parting, g_parting := PySem.W.mg_of X G a_parting,
    f_ahead := _, d_ahead := _, F_ahead := F_ahead, b_ahead := b_ahead, g_ahead := PySem.W.mg_of X G a_ahead,
    f_tail_and_wheel := _, d_tail_and_wheel := _, F_tail_and_wheel := F_tail_and_wheel, b_tail_and_wheel := b_tail_and_wheel, g_tail_and_wheel := PySem.W.mg_of X G a_tail_and_wheel,
    f_l_cell_at := _, d_l_cell_at := _, F_l_cell_at := F_l_cell_at, b_l_cell_at := b_l_cell_at, g_l_cell_at := PySem.W.mg_of X G a_l_cell_at,
    f_l_draw := _, d_l_draw := _, F_l_draw := F_l_draw, b_l_draw := b_l_draw, g_l_draw := PySem.W.mg_of X G a_l_draw,
    f_l_whole := _, d_l_whole := _, F_l_whole := F_l_whole, b_l_whole := b_l_whole, g_l_whole := PySem.W.mg_of X G a_l_whole,
    f_l_ring_by := _, d_l_ring_by := _, F_l_ring_by := F_l_ring_by, b_l_ring_by := b_l_ring_by, g_l_ring_by := PySem.W.mg_of X G a_l_ring_by,
    f_l_gaps := _, d_l_gaps := _, F_l_gaps := F_l_gaps, b_l_gaps := b_l_gaps, g_l_gaps := PySem.W.mg_of X G a_l_gaps,
    f_l_is := _, d_l_is := _, F_l_is := F_l_is, b_l_is := b_l_is, g_l_is := PySem.W.mg_of X G a_l_is,
    f_law := _, d_law := _, F_law := F_law, b_law := b_law, g_law := PySem.W.mg_of X G a_law,
    c_FEWEST := ⟨_, PySem.W.mg_of X G c_FEWEST⟩,
    c_MOST := ⟨_, PySem.W.mg_of X G c_MOST⟩,
    c_GREATEST := ⟨_, PySem.W.mg_of X G c_GREATEST⟩,
    z_abs := PySem.W.mg_none_of X G z_abs,
    z_bool := PySem.W.mg_none_of X G z_bool,
    z_int := PySem.W.mg_none_of X G z_int,
    z_isinstance := PySem.W.mg_none_of X G z_isinstance,
    z_len := PySem.W.mg_none_of X G z_len,
    z_list := PySem.W.mg_none_of X G z_list,
    z_max := PySem.W.mg_none_of X G z_max,
    z_min := PySem.W.mg_none_of X G z_min,
    z_range := PySem.W.mg_none_of X G z_range,
    z_reversed := PySem.W.mg_none_of X G z_reversed,
    z_sum := PySem.W.mg_none_of X G z_sum,
    z_tuple := PySem.W.mg_none_of X G z_tuple,
    z_zip := PySem.W.mg_none_of X G z_zip }
  exact ⟨PySem.W.fnOf "law" "law" (defArgs s_law) (defBody s_law) (defScope s_law) .none kV_law dc_law pm_law an_law cd_law ct_law, fun s v => .of_eq rfl, fun base _ _ => ok_law T⟩
end GK
open PySem PySem.W PyProof.Rows
set_option maxHeartbeats 0 in
theorem PySem.Challenge.cw_gapring_k08_whole_each_gap_ring_has_one_holds : PySem.Challenge.rw_gapring_k08_whole_each_gap_ring_has_one.Holds := by
  w_on; o_law; k_head; (case hw => w_witness2)
  k_fill
  refine L2.walk_of (l := PySem.Challenge.rw_gapring_k08_whole_each_gap_ring_has_one) (n := 63) (k := 4) (x := "script") (CX := fun _ => L2.CX0) (sp := fun w => GK.sp_law _) rfl (by decide) rfl ⟨rfl, by decide, by decide⟩ (fun w h Y => PySem.W.kIn_of Y) ?F (fun _ _ a ns hl _ hS => ⟨a, ns, rfl, hS, hl, fun _ => rfl⟩) (fun _ _ _ _ _ h => h)
  case F =>
    intro w mg fa h KX G hmg
    refine' GK.all_mk KX G hmg ?a_asked ?l_asked ?co_asked ?k_asked ?a_gaps_of ?l_gaps_of ?co_gaps_of ?k_gaps_of ?a_gaps ?l_gaps ?co_gaps ?k_gaps ?a_walked ?l_walked ?co_walked ?k_walked ?a_after ?l_after ?co_after ?k_after ?a_parting ?l_parting ?co_parting ?k_parting ?a_ahead ?l_ahead ?co_ahead ?k_ahead ?a_tail_and_wheel ?l_tail_and_wheel ?co_tail_and_wheel ?k_tail_and_wheel ?a_l_cell_at ?l_l_cell_at ?co_l_cell_at ?k_l_cell_at ?a_l_draw ?l_l_draw ?co_l_draw ?k_l_draw ?a_l_whole ?l_l_whole ?co_l_whole ?k_l_whole ?a_l_ring_by ?l_l_ring_by ?co_l_ring_by ?k_l_ring_by ?a_l_gaps ?l_l_gaps ?co_l_gaps ?k_l_gaps ?a_l_is ?l_l_is ?co_l_is ?k_l_is ?a_law ?l_law ?co_law ?k_law ?c_FEWEST ?c_MOST ?c_GREATEST ?z_abs ?z_bool ?z_int ?z_isinstance ?z_len ?z_list ?z_max ?z_min ?z_range ?z_reversed ?z_sum ?z_tuple ?z_zip
    (case a_asked => k_is)
    (case l_asked => k_is)
    (case co_asked => k_is)
    (case k_asked => k_is)
    (case a_gaps_of => k_is)
    (case l_gaps_of => k_is)
    (case co_gaps_of => k_is)
    (case k_gaps_of => k_is)
    (case a_gaps => k_is)
    (case l_gaps => k_is)
    (case co_gaps => k_is)
    (case k_gaps => k_is)
    (case a_walked => k_is)
    (case l_walked => k_is)
    (case co_walked => k_is)
    (case k_walked => k_is)
    (case a_after => k_is)
    (case l_after => k_is)
    (case co_after => k_is)
    (case k_after => k_is)
    (case a_parting => k_is)
    (case l_parting => k_is)
    (case co_parting => k_is)
    (case k_parting => k_is)
    (case a_ahead => k_is)
    (case l_ahead => k_is)
    (case co_ahead => k_is)
    (case k_ahead => k_is)
    (case a_tail_and_wheel => k_is)
    (case l_tail_and_wheel => k_is)
    (case co_tail_and_wheel => k_is)
    (case k_tail_and_wheel => k_is)
    (case a_l_cell_at => k_is)
    (case l_l_cell_at => k_is)
    (case co_l_cell_at => k_is)
    (case k_l_cell_at => k_is)
    (case a_l_draw => k_is)
    (case l_l_draw => k_is)
    (case co_l_draw => k_is)
    (case k_l_draw => k_is)
    (case a_l_whole => k_is)
    (case l_l_whole => k_is)
    (case co_l_whole => k_is)
    (case k_l_whole => k_is)
    (case a_l_ring_by => k_is)
    (case l_l_ring_by => k_is)
    (case co_l_ring_by => k_is)
    (case k_l_ring_by => k_is)
    (case a_l_gaps => k_is)
    (case l_l_gaps => k_is)
    (case co_l_gaps => k_is)
    (case k_l_gaps => k_is)
    (case a_l_is => k_is)
    (case l_l_is => k_is)
    (case co_l_is => k_is)
    (case k_l_is => k_is)
    (case a_law => k_is)
    (case l_law => k_is)
    (case co_law => k_is)
    (case k_law => k_is)
    (case c_FEWEST => k_is)
    (case c_MOST => k_is)
    (case c_GREATEST => k_is)
    (case z_abs => k_is)
    (case z_bool => k_is)
    (case z_int => k_is)
    (case z_isinstance => k_is)
    (case z_len => k_is)
    (case z_list => k_is)
    (case z_max => k_is)
    (case z_min => k_is)
    (case z_range => k_is)
    (case z_reversed => k_is)
    (case z_sum => k_is)
    (case z_tuple => k_is)
    (case z_zip => k_is)
