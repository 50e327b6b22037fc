import PyProof.Rows.All
import Wide.All
import OpenK.AllK
import Wide.FinOn
import PySem.Challenge.RW_gapring_k15_written
import HandS.ForMost
import HandS.IsInst
import KE.KDictDisplayH
set_option Elab.async false
set_option linter.all false
set_option maxRecDepth 100000
set_option maxHeartbeats 8000000
/-! Rings of numbers and their gaps: plain mathematics. -/
namespace GR
abbrev Fn := Int → Int
def D (r : Fn) : Fn := fun i => ((r i - r (i + 1)).natAbs : Int)
def itD : Nat → Fn → Fn
  | 0, r => r
  | t + 1, r => itD t (D r)
theorem itD_add (t u : Nat) (r : Fn) : itD (t + u) r = itD u (itD t r) := by
  induction t generalizing r with
  | zero => rw [Nat.zero_add]; rfl
  | succ t ih => rw [Nat.succ_add]; exact ih (D r)
theorem itD_succ (t : Nat) (r : Fn) : itD (t + 1) r = D (itD t r) := itD_add t 1 r
/-! ### lists -/
def gp (ns : List Int) : List Int := (List.range ns.length).map fun k => ((ns.getD k 0 - ns.getD ((k + 1) % ns.length) 0).natAbs : Int)
def it : Nat → List Int → List Int
  | 0, l => l
  | t + 1, l => it t (gp l)
theorem it_add (t u : Nat) (r : List Int) : it (t + u) r = it u (it t r) := by
  induction t generalizing r with
  | zero => rw [Nat.zero_add]; rfl
  | succ t ih => rw [Nat.succ_add]; exact ih (gp r)
theorem it_succ (t : Nat) (r : List Int) : it (t + 1) r = gp (it t r) := it_add t 1 r
theorem gp_length (ns : List Int) : (gp ns).length = ns.length := by
  unfold gp
  rw [List.length_map, List.length_range]
theorem it_length (t : Nat) (ns : List Int) : (it t ns).length = ns.length := by
  induction t generalizing ns with
  | zero => rfl
  | succ t ih => exact (ih (gp ns)).trans (gp_length ns)
theorem gp_get {ns : List Int} {k : Nat} (h : k < ns.length) : (gp ns).getD k 0 = ((ns.getD k 0 - ns.getD ((k + 1) % ns.length) 0).natAbs : Int) := by
  unfold gp
  rw [List.getD_eq_getElem?_getD, List.getElem?_map, List.getElem?_range h]
  rfl
/-- a list, round and round -/
def fn (ns : List Int) : Fn := fun i => ns.getD (i % (ns.length : Int)).toNat 0
theorem fn_nat {ns : List Int} {k : Nat} (h : k < ns.length) : fn ns (k : Int) = ns.getD k 0 := by
  unfold fn
  have e : ((k : Int) % (ns.length : Int)).toNat = k := by
    rw [← Int.natCast_emod, Int.toNat_natCast]
    exact Nat.mod_eq_of_lt h
  rw [e]
theorem fn_per (ns : List Int) (i : Int) : fn ns (i + ns.length) = fn ns i := by
  unfold fn
  rw [Int.add_emod_right]
theorem fn_mod (ns : List Int) (i : Int) : fn ns (i % (ns.length : Int)) = fn ns i := by
  unfold fn
  rw [Int.emod_emod]
theorem fn_at {ns : List Int} (h : 0 < ns.length) (i : Int) : ∃ k, k < ns.length ∧ ((k : Int) = i % (ns.length : Int)) ∧ fn ns i = ns.getD k 0 := by
  have h0 : (0 : Int) ≤ i % (ns.length : Int) := Int.emod_nonneg _ (by omega)
  have h1 : i % (ns.length : Int) < (ns.length : Int) := Int.emod_lt_of_pos _ (by omega)
  refine ⟨(i % (ns.length : Int)).toNat, by omega, by omega, rfl⟩
theorem list_ext {ns ms : List Int} (hl : ns.length = ms.length) (h : fn ns = fn ms) : ns = ms := by
  apply List.ext_getElem hl
  intro k h1 h2
  have e := congrFun h (k : Int)
  rw [fn_nat h1, fn_nat h2] at e
  rw [List.getD_eq_getElem?_getD, List.getD_eq_getElem?_getD, List.getElem?_eq_getElem h1, List.getElem?_eq_getElem h2] at e
  exact e
theorem list_ext' {ns ms : List Int} (hl : ns.length = ms.length) (h : ∀ k, k < ns.length → ns.getD k 0 = ms.getD k 0) : ns = ms := by
  apply List.ext_getElem hl
  intro k h1 h2
  have e := h k h1
  rw [List.getD_eq_getElem?_getD, List.getD_eq_getElem?_getD, List.getElem?_eq_getElem h1, List.getElem?_eq_getElem h2] at e
  exact e
theorem fn_gp (ns : List Int) : fn (gp ns) = D (fn ns) := by
  by_cases h : 0 < ns.length
  · funext i
    obtain ⟨k, hk, ek, e⟩ := fn_at (ns := gp ns) (by rw [gp_length]; exact h) i
    rw [gp_length] at hk ek
    rw [e, gp_get hk]
    unfold D
    have e1 : fn ns i = ns.getD k 0 := by
      rw [← fn_mod, ← ek, fn_nat hk]
    have hm : (k + 1) % ns.length < ns.length := Nat.mod_lt _ h
    have e2 : fn ns (i + 1) = ns.getD ((k + 1) % ns.length) 0 := by
      rw [← fn_nat hm, Int.natCast_emod, fn_mod, ← fn_mod ns (i + 1), ← fn_mod ns (((k + 1 : Nat) : Int))]
      congr 1
      rw [Int.natCast_add, ek]
      exact (Int.emod_add_emod i (ns.length : Int) 1).symm
    rw [e1, e2]
  · have e : ns = [] := List.length_eq_zero_iff.mp (by omega)
    subst e
    funext i
    show fn [] i = D (fn []) i
    unfold D fn
    simp
theorem fn_it (t : Nat) (ns : List Int) : fn (it t ns) = itD t (fn ns) := by
  induction t generalizing ns with
  | zero => rfl
  | succ t ih =>
    show fn (it t (gp ns)) = itD t (D (fn ns))
    rw [ih, fn_gp]
/-! ### bounds -/
def Bd (m : Int) (r : Fn) : Prop := ∀ i, 0 ≤ r i ∧ r i ≤ m
theorem Bd.D {m : Int} {r : Fn} (h : Bd m r) : Bd m (D r) := fun i => by
  have h1 := h i
  have h2 := h (i + 1)
  unfold GR.D
  omega
theorem Bd.itD {m : Int} {r : Fn} (h : Bd m r) (t : Nat) : Bd m (itD t r) := by
  induction t generalizing r with
  | zero => exact h
  | succ t ih => exact ih h.D
def Bl (m : Int) (ns : List Int) : Prop := ∀ x ∈ ns, 0 ≤ x ∧ x ≤ m
theorem Bl.get {m : Int} {ns : List Int} (h : Bl m ns) {k : Nat} (hk : k < ns.length) : 0 ≤ ns.getD k 0 ∧ ns.getD k 0 ≤ m := by
  rw [List.getD_eq_getElem?_getD, List.getElem?_eq_getElem hk]
  exact h _ (List.getElem_mem hk)
theorem Bl.fn {m : Int} {ns : List Int} (h : Bl m ns) (hp : 0 < ns.length) : Bd m (fn ns) := fun i => by
  obtain ⟨k, hk, _, e⟩ := fn_at hp i
  rw [e]
  exact h.get hk
theorem mem_getD {ns : List Int} {x : Int} (h : x ∈ ns) : ∃ k, k < ns.length ∧ ns.getD k 0 = x := by
  obtain ⟨k, hk, e⟩ := List.getElem_of_mem h
  refine ⟨k, hk, ?_⟩
  rw [List.getD_eq_getElem?_getD, List.getElem?_eq_getElem hk]
  exact e
theorem getD_mem {ns : List Int} {k : Nat} (hk : k < ns.length) : ns.getD k 0 ∈ ns := by
  rw [List.getD_eq_getElem?_getD, List.getElem?_eq_getElem hk]
  exact List.getElem_mem hk
theorem Bl.of_fn {m : Int} {ns : List Int} (h : Bd m (GR.fn ns)) : Bl m ns := fun x hx => by
  obtain ⟨k, hk, e⟩ := mem_getD hx
  have q := h (k : Int)
  rw [fn_nat hk, e] at q
  exact q
theorem Bl.gp {m : Int} {ns : List Int} (h : Bl m ns) : Bl m (gp ns) := by
  by_cases hp : 0 < ns.length
  · refine Bl.of_fn ?_
    rw [fn_gp]
    exact (h.fn hp).D
  · have e : ns = [] := List.length_eq_zero_iff.mp (by omega)
    subst e
    exact fun x hx => nomatch hx
theorem Bl.it {m : Int} {ns : List Int} (h : Bl m ns) (t : Nat) : Bl m (it t ns) := by
  induction t generalizing ns with
  | zero => exact h
  | succ t ih => exact ih h.gp
structure Ring (ns : List Int) : Prop where
  lo : 3 ≤ ns.length
  hi : ns.length ≤ 16
  bd : Bl 1000 ns
theorem Ring.gpR {ns : List Int} (R : Ring ns) : Ring (gp ns) := ⟨by rw [gp_length]; exact R.lo, by rw [gp_length]; exact R.hi, R.bd.gp⟩
theorem Ring.itR {ns : List Int} (R : Ring ns) (t : Nat) : Ring (it t ns) := ⟨by rw [it_length]; exact R.lo, by rw [it_length]; exact R.hi, R.bd.it t⟩
theorem Ring.pos {ns : List Int} (R : Ring ns) : 0 < ns.length := Nat.lt_of_lt_of_le (by decide) R.lo
/-! ### every ring comes to a flat one -/
theorem itD_le {m : Int} {r : Fn} (h : Bd m r) (k : Nat) (i : Int) : ∃ j : Int, i ≤ j ∧ j ≤ i + k ∧ itD k r i ≤ r j := by
  induction k generalizing r with
  | zero => exact ⟨i, Int.le_refl _, by omega, Int.le_refl _⟩
  | succ k ih =>
    obtain ⟨j, h1, h2, h3⟩ := ih h.D
    have a := h j
    have b := h (j + 1)
    have e : D r j = ((r j - r (j + 1)).natAbs : Int) := rfl
    by_cases c : r j ≤ r (j + 1)
    · exact ⟨j + 1, by omega, by omega, by show itD k (D r) i ≤ r (j + 1); omega⟩
    · exact ⟨j, by omega, by omega, by show itD k (D r) i ≤ r j; omega⟩
def Two (m : Int) (r : Fn) (i j : Int) : Prop := ∀ l, i ≤ l → l ≤ j → r l = 0 ∨ r l = m
theorem two_up {m : Int} {r : Fn} (h : Bd m r) {i : Int} {k : Nat} (hd : Two m (D r) i (i + k)) {j : Int} (h1 : i ≤ j) (hj : r j = 0 ∨ r j = m) (n : Nat) (h2 : j + n ≤ i + k + 1) : r (j + n) = 0 ∨ r (j + n) = m := by
  induction n with
  | zero => simpa using hj
  | succ n ih =>
    have q := ih (by omega)
    have d := hd (j + n) (by omega) (by omega)
    have e : D r (j + n) = ((r (j + n) - r (j + n + 1)).natAbs : Int) := rfl
    have b := h (j + n + 1)
    have b0 := h (j + n)
    have e1 : j + ((n + 1 : Nat) : Int) = j + n + 1 := by omega
    rw [e1]
    omega
theorem two_down {m : Int} {r : Fn} (h : Bd m r) {i : Int} {k : Nat} (hd : Two m (D r) i (i + k)) {j : Int} (hj : r j = 0 ∨ r j = m) (h2 : j ≤ i + k + 1) (n : Nat) (h1 : i ≤ j - n) : r (j - n) = 0 ∨ r (j - n) = m := by
  induction n with
  | zero => simpa using hj
  | succ n ih =>
    have q := ih (by omega)
    have d := hd (j - n - 1) (by omega) (by omega)
    have e : D r (j - n - 1) = ((r (j - n - 1) - r (j - n - 1 + 1)).natAbs : Int) := rfl
    have e0 : j - n - 1 + 1 = j - n := by omega
    rw [e0] at e
    have b := h (j - n - 1)
    have b0 := h (j - n)
    have e1 : j - ((n + 1 : Nat) : Int) = j - n - 1 := by omega
    rw [e1]
    omega
theorem two_of {m : Int} {r : Fn} (h : Bd m r) (hm : 0 < m) (k : Nat) (i : Int) (e : itD k r i = m) : Two m r i (i + k) := by
  induction k generalizing r with
  | zero =>
    intro l h1 h2
    have z : l = i := by omega
    subst z
    exact .inr e
  | succ k ih =>
    have hd : Two m (D r) i (i + k) := ih h.D e
    obtain ⟨j, h1, h2, h3⟩ := itD_le h.D k i
    have e' : itD k (D r) i = m := e
    have b := h.D j
    have ej : D r j = m := by omega
    have ej' : D r j = ((r j - r (j + 1)).natAbs : Int) := rfl
    have b1 := h j
    have b2 := h (j + 1)
    have z : r j = 0 ∨ r j = m := by omega
    intro l hl1 hl2
    by_cases c : j ≤ l
    · have q := two_up h hd h1 z (l - j).toNat (by omega)
      have e1 : j + ((l - j).toNat : Int) = l := by omega
      rw [e1] at q
      exact q
    · have q := two_down h hd z (by omega) (j - l).toNat (by omega)
      have e1 : j - ((j - l).toNat : Int) = l := by omega
      rw [e1] at q
      exact q
def Flat (m : Int) (r : Fn) : Prop := ∀ i, r i = 0 ∨ r i = m
theorem Flat.D {m : Int} {r : Fn} (hm : 0 ≤ m) (h : Flat m r) : Flat m (D r) := fun i => by
  have h1 := h i
  have h2 := h (i + 1)
  unfold GR.D
  omega
theorem Flat.itD {m : Int} {r : Fn} (hm : 0 ≤ m) (h : Flat m r) (t : Nat) : Flat m (itD t r) := by
  induction t generalizing r with
  | zero => exact h
  | succ t ih => exact ih (h.D hm)
def Per (n : Nat) (r : Fn) : Prop := ∀ i, r (i + n) = r i
theorem Per.D {n : Nat} {r : Fn} (h : Per n r) : Per n (D r) := fun i => by
  unfold GR.D
  rw [h i, show i + (n : Int) + 1 = (i + 1) + n by omega, h (i + 1)]
theorem Per.itD {n : Nat} {r : Fn} (h : Per n r) (t : Nat) : Per n (itD t r) := by
  induction t generalizing r with
  | zero => exact h
  | succ t ih => exact ih h.D
theorem Per.mul {n : Nat} {r : Fn} (h : Per n r) (k : Nat) (i : Int) : r (i + k * n) = r i := by
  induction k with
  | zero => simp
  | succ k ih =>
    rw [show i + ((k + 1 : Nat) : Int) * n = (i + k * n) + n by rw [Int.natCast_add, Int.add_mul]; omega, h, ih]
theorem Per.mod {n : Nat} {r : Fn} (h : Per n r) (i : Int) : r (i % n) = r i := by
  have e := Int.emod_add_mul_ediv i n
  by_cases c : 0 ≤ i / n
  · have q := h.mul (i / n).toNat (i % n)
    rw [Int.toNat_of_nonneg c, Int.mul_comm (i / (n : Int)) (n : Int), e] at q
    exact q.symm
  · have q := h.mul (-(i / n)).toNat i
    rw [Int.toNat_of_nonneg (by omega), Int.neg_mul, Int.mul_comm (i / (n : Int)) (n : Int)] at q
    rw [← q]
    congr 1
    omega
theorem Per.win {n : Nat} {r : Fn} (h : Per n r) (hn : 0 < n) (i l : Int) : ∃ j, i ≤ j ∧ j < i + n ∧ r l = r j := by
  refine ⟨i + (l - i) % n, ?_, ?_, ?_⟩
  · have := Int.emod_nonneg (l - i) (b := (n : Int)) (by omega)
    omega
  · have := Int.emod_lt_of_pos (l - i) (b := (n : Int)) (by omega)
    omega
  · have s : Per n (fun x => r (i + x)) := fun x => by
      show r (i + (x + n)) = r (i + x)
      rw [← Int.add_assoc]
      exact h _
    have q := s.mod (l - i)
    have e : i + (l - i) = l := by omega
    simp only [e] at q
    exact q.symm
theorem flat_step {m : Int} {n : Nat} {r : Fn} (h : Bd (m + 1) r) (hm : 0 ≤ m) (hp : Per n r) (hn : 0 < n) (k : Nat) (hk : n ≤ k + 1) : Flat (m + 1) r ∨ Bd m (itD k r) := by
  by_cases c : ∃ i, itD k r i = m + 1
  · obtain ⟨i, e⟩ := c
    refine .inl fun l => ?_
    obtain ⟨j, h1, h2, h3⟩ := hp.win hn i l
    rw [h3]
    exact two_of h (by omega) k i e j h1 (by omega)
  · refine .inr fun i => ?_
    have b := h.itD k i
    have q : itD k r i ≠ m + 1 := fun z => c ⟨i, z⟩
    omega
theorem flat_by {n : Nat} {r : Fn} (hp : Per n r) (hn : 0 < n) (hn16 : n ≤ 16) (m : Nat) (h : Bd m r) : ∃ c : Int, 0 ≤ c ∧ c ≤ m ∧ Flat c (itD (15 * m) r) := by
  induction m generalizing r with
  | zero =>
    refine ⟨0, Int.le_refl _, by simp, fun i => ?_⟩
    have q := h i
    show r i = 0 ∨ r i = 0
    have z : ((0 : Nat) : Int) = 0 := rfl
    omega
  | succ m ih =>
    rcases flat_step (m := m) (k := 15) h (by omega) hp hn (by omega) with f | b
    · exact ⟨(m : Int) + 1, by omega, by omega, f.itD (by omega) _⟩
    · obtain ⟨c, h1, h2, h3⟩ := ih (hp.itD 15) b
      refine ⟨c, h1, by omega, ?_⟩
      rw [show 15 * (m + 1) = 15 + 15 * m by omega, itD_add]
      exact h3
/-! ### drawers -/
theorem drawers : ∀ (N n : Nat) (f : Nat → Nat), (∀ i, i < n → f i < N) → (∀ i j, i < j → j < n → f i ≠ f j) → n ≤ N
  | 0, n, f, h, _ => by
    cases n with
    | zero => exact Nat.le_refl _
    | succ n => exact absurd (h 0 (by omega)) (by omega)
  | N + 1, n, f, h, q => by
    cases n with
    | zero => exact Nat.zero_le _
    | succ n =>
      have r := drawers N n (fun i => if f i > f n then f i - 1 else f i) (fun i hi => by
          have a := h i (by omega)
          have b := h n (by omega)
          have c := q i n hi (by omega)
          show (if f i > f n then f i - 1 else f i) < N
          split <;> omega) (fun i j hij hj => by
          have a := q i j hij (by omega)
          have b := q i n (by omega) (by omega)
          have c := q j n (by omega) (by omega)
          show (if f i > f n then f i - 1 else f i) ≠ (if f j > f n then f j - 1 else f j)
          split <;> split <;> omega)
      omega
def code : List Int → Nat
  | [] => 0
  | x :: r => (if x = 0 then 0 else 1) + 2 * code r
theorem code_lt (l : List Int) : code l < 2 ^ l.length := by
  induction l with
  | nil => decide
  | cons x r ih =>
    show (if x = 0 then 0 else 1) + 2 * code r < 2 ^ (r.length + 1)
    rw [Nat.pow_succ]
    split <;> omega
theorem code_inj {c : Int} : ∀ {l m : List Int}, l.length = m.length → (∀ x ∈ l, x = 0 ∨ x = c) → (∀ x ∈ m, x = 0 ∨ x = c) → code l = code m → l = m
  | [], [], _, _, _, _ => rfl
  | x :: l, y :: m, hl, h1, h2, e => by
    have e : (if x = 0 then 0 else 1) + 2 * code l = (if y = 0 then 0 else 1) + 2 * code m := e
    have hx := h1 x (by simp)
    have hy := h2 y (by simp)
    have ec : code l = code m := by
      split at e <;> split at e <;> omega
    have exy : x = y := by
      rw [ec] at e
      split at e <;> split at e <;> omega
    rw [exy, code_inj (by simpa using hl) (fun z hz => h1 z (by simp [hz])) (fun z hz => h2 z (by simp [hz])) ec]
/-! ### the walk: how far all rings are unlike, and the place of the one that comes again -/
structure Wk (ns : List Int) (L T : Nat) : Prop where
  inj : ∀ i j, i < j → j < L → it i ns ≠ it j ns
  lt : T < L
  eq : it L ns = it T ns
theorem wk_or (ns : List Int) (n : Nat) : (∀ i j, i < j → j < n → it i ns ≠ it j ns) ∨ ∃ L T, L < n ∧ Wk ns L T := by
  induction n with
  | zero => exact .inl fun i j _ h => absurd h (Nat.not_lt_zero _)
  | succ n ih =>
    rcases ih with h | ⟨L, T, a, b⟩
    · by_cases c : ∃ i, i < n ∧ it n ns = it i ns
      · obtain ⟨i, hi, e⟩ := c
        exact .inr ⟨n, i, Nat.lt_succ_self n, h, hi, e⟩
      · refine .inl fun i j hij hj => ?_
        by_cases z : j = n
        · subst z
          exact fun e => c ⟨i, hij, e.symm⟩
        · exact h i j hij (by omega)
    · exact .inr ⟨L, T, by omega, b⟩
theorem Ring.flat {ns : List Int} (R : Ring ns) : ∃ c : Int, 0 ≤ c ∧ c ≤ 1000 ∧ ∀ t, 15000 ≤ t → Flat c (fn (it t ns)) := by
  obtain ⟨c, h1, h2, h3⟩ := flat_by (n := ns.length) (r := fn ns) (fn_per ns) R.pos R.hi 1000 (R.bd.fn R.pos)
  refine ⟨c, h1, by omega, fun t ht => ?_⟩
  rw [fn_it, show t = 15 * 1000 + (t - 15000) by omega, itD_add]
  exact h3.itD h1 _
theorem Flat.mem {c : Int} {ns : List Int} (h : Flat c (fn ns)) : ∀ x ∈ ns, x = 0 ∨ x = c := fun x hx => by
  obtain ⟨k, hk, e⟩ := mem_getD hx
  have q := h (k : Int)
  rw [fn_nat hk, e] at q
  exact q
theorem Ring.bound {ns : List Int} (R : Ring ns) {n : Nat} (h : ∀ i j, i < j → j < n → it i ns ≠ it j ns) : n ≤ 80536 := by
  obtain ⟨c, h1, h2, h3⟩ := R.flat
  have q := drawers 65536 (n - 15000) (fun i => code (it (15000 + i) ns)) (fun i hi => by
      have a := code_lt (it (15000 + i) ns)
      rw [it_length] at a
      exact Nat.lt_of_lt_of_le a (Nat.pow_le_pow_right (by decide) R.hi)) (fun i j hij hj e => by
      refine h (15000 + i) (15000 + j) (by omega) (by omega) (code_inj (c := c) (by rw [it_length, it_length]) (h3 _ (by omega)).mem (h3 _ (by omega)).mem e))
  omega
theorem Ring.walk {ns : List Int} (R : Ring ns) : ∃ L T, L ≤ 80536 ∧ Wk ns L T := by
  rcases wk_or ns 80537 with h | ⟨L, T, a, b⟩
  · have := R.bound h
    omega
  · exact ⟨L, T, by omega, b⟩
theorem Wk.unique {ns : List Int} {L T L' T' : Nat} (w : Wk ns L T) (w' : Wk ns L' T') : L = L' ∧ T = T' := by
  have e : L = L' := by
    rcases Nat.lt_trichotomy L L' with h | h | h
    · exact absurd w.eq.symm (w'.inj T L w.lt h)
    · exact h
    · exact absurd w'.eq.symm (w.inj T' L' w'.lt h)
  subst e
  refine ⟨rfl, ?_⟩
  have e2 : it T ns = it T' ns := w.eq.symm.trans w'.eq
  rcases Nat.lt_trichotomy T T' with h | h | h
  · exact absurd e2 (w.inj T T' h w'.lt)
  · exact h
  · exact absurd e2.symm (w.inj T' T h w.lt)
theorem Wk.le {ns : List Int} {L T : Nat} (w : Wk ns L T) (R : Ring ns) : L ≤ 80536 := R.bound w.inj
theorem it_shift {ns : List Int} {t p : Nat} (h : it (t + p) ns = it t ns) (u : Nat) (hu : t ≤ u) : it (u + p) ns = it u ns := by
  rw [show u + p = (t + p) + (u - t) by omega, it_add, h, ← it_add]
  congr 1
  omega
theorem it_shift_mul {ns : List Int} {t p : Nat} (h : it (t + p) ns = it t ns) (k : Nat) (u : Nat) (hu : t ≤ u) : it (u + k * p) ns = it u ns := by
  induction k with
  | zero => simp
  | succ k ih =>
    rw [show u + (k + 1) * p = (u + k * p) + p by rw [Nat.succ_mul]; omega, it_shift h _ (by omega), ih]
theorem Wk.per {ns : List Int} {L T : Nat} (w : Wk ns L T) : it (T + (L - T)) ns = it T ns := by
  have h := w.lt
  rw [show T + (L - T) = L by omega]
  exact w.eq
theorem Wk.red {ns : List Int} {L T t : Nat} (w : Wk ns L T) (h : T ≤ t) : it (T + (t - T) % (L - T)) ns = it t ns := by
  have e := Nat.mod_add_div (t - T) (L - T)
  have q := it_shift_mul w.per ((t - T) / (L - T)) (T + (t - T) % (L - T)) (by omega)
  rw [← q]
  congr 1
  rw [Nat.mul_comm]
  omega
/-- every ring behind some turns stands in the walk -/
theorem Wk.all {ns : List Int} {L T : Nat} (w : Wk ns L T) (t : Nat) : ∃ i, i < L ∧ it i ns = it t ns := by
  by_cases h : t < L
  · exact ⟨t, h, rfl⟩
  · have hl := w.lt
    refine ⟨T + (t - T) % (L - T), ?_, w.red (by omega)⟩
    have := Nat.mod_lt (t - T) (show 0 < L - T by omega)
    omega
/-- the tail: the least number of turns behind which a ring comes that comes again -/
theorem Wk.tail {ns : List Int} {L T t p : Nat} (w : Wk ns L T) (hp : 0 < p) (h : it (t + p) ns = it t ns) : T ≤ t := by
  refine Nat.le_of_not_lt fun c => ?_
  -- t < T: t itself stands alone among the first L; but it t = it (t + k p) for all k
  have hl := w.lt
  have q := it_shift_mul h L t (Nat.le_refl _)
  have hb : T ≤ t + L * p := by
    have : L * 1 ≤ L * p := Nat.mul_le_mul_left L hp
    omega
  have r := w.red hb
  rw [q] at r
  have m := Nat.mod_lt (t + L * p - T) (show 0 < L - T by omega)
  exact w.inj t (T + (t + L * p - T) % (L - T)) (by omega) (by omega) r.symm
theorem Wk.wheel {ns : List Int} {L T t p : Nat} (w : Wk ns L T) (h : it (t + p) ns = it t ns) (ht : T ≤ t) : (L - T) ∣ p := by
  have hl := w.lt
  have e1 := w.red (t := t) ht
  have e2 := w.red (t := t + p) (by omega)
  rw [h, ← e1] at e2
  have m1 := Nat.mod_lt (t - T) (show 0 < L - T by omega)
  have m2 := Nat.mod_lt (t + p - T) (show 0 < L - T by omega)
  have e3 : (t + p - T) % (L - T) = (t - T) % (L - T) := by
    rcases Nat.lt_trichotomy ((t + p - T) % (L - T)) ((t - T) % (L - T)) with c | c | c
    · exact absurd e2 (w.inj _ _ (by omega) (by omega))
    · exact c
    · exact absurd e2.symm (w.inj _ _ (by omega) (by omega))
  have e4 : (t + p - T) = (t - T) + p := by omega
  rw [e4] at e3
  have e5 : ((t - T) + p - (t - T)) % (L - T) = 0 := by
    have := Nat.sub_mod_eq_zero_of_mod_eq e3
    exact this
  rw [show (t - T) + p - (t - T) = p by omega] at e5
  exact Nat.dvd_of_mod_eq_zero e5
theorem Wk.mk_of {ns : List Int} {T P : Nat} (hp : 0 < P) (he : it (T + P) ns = it T ns) (ht : ∀ t p, 0 < p → it (t + p) ns = it t ns → T ≤ t) (hw : ∀ p, 0 < p → it (T + p) ns = it T ns → P ≤ p) : Wk ns (T + P) T := by
  refine ⟨fun i j hij hj e => ?_, by omega, he⟩
  have h1 : it (i + (j - i)) ns = it i ns := by
    rw [show i + (j - i) = j by omega]
    exact e.symm
  have h2 := ht i (j - i) (by omega) h1
  -- behind T the period is P
  have h3 := it_shift h1 (T + (P - (i - T) + (i - T)) - 0) (by omega)
  have h4 : it (T + (j - i)) ns = it T ns := by
    have a := it_shift_mul he (i + 1) T (Nat.le_refl _)
    have hb : i ≤ T + (i + 1) * P := by
      have : (i + 1) * 1 ≤ (i + 1) * P := Nat.mul_le_mul_left (i + 1) hp
      omega
    have b := it_shift h1 (T + (i + 1) * P) hb
    have c := it_shift_mul he (i + 1) (T + (j - i)) (by omega)
    rw [show T + (i + 1) * P + (j - i) = T + (j - i) + (i + 1) * P by omega, c, a] at b
    exact b
  have h5 := hw (j - i) (by omega) h4
  omega
end GR
/-! ### small words over the hand layer -/
namespace GL
open PySem PySem.Spec PyProof.Rows L2
theorem bt_len : bootBuiltins "len" = some (.builtin "len") := by decide +kernel
theorem bt_abs : bootBuiltins "abs" = some (.builtin "abs") := by decide +kernel
theorem bt_max : bootBuiltins "max" = some (.builtin "max") := by decide +kernel
theorem bt_min : bootBuiltins "min" = some (.builtin "min") := by decide +kernel
theorem bt_sum : bootBuiltins "sum" = some (.builtin "sum") := by decide +kernel
theorem bt_isinstance : bootBuiltins "isinstance" = some (.builtin "isinstance") := by decide +kernel
theorem bt_int : bootBuiltins "int" = some (.type "int") := by decide +kernel
theorem bt_bool : bootBuiltins "bool" = some (.type "bool") := by decide +kernel
theorem bt_str : bootBuiltins "str" = some (.type "str") := by decide +kernel
theorem bt_list : bootBuiltins "list" = some (.type "list") := by decide +kernel
theorem bt_tuple : bootBuiltins "tuple" = some (.type "tuple") := by decide +kernel
theorem bt_zip : bootBuiltins "zip" = some (.type "zip") := by decide +kernel
theorem bt_reversed : bootBuiltins "reversed" = some (.type "reversed") := by decide +kernel
theorem bt_ValueError : bootBuiltins "ValueError" = some (.type "ValueError") := by decide +kernel
theorem ifN {c : Prop} [Decidable c] {A B : Prop} (hc : ¬ c) (h : B) : if decide c = true then A else B := by
  rw [decide_eq_false hc]
  exact iteF h
theorem ifY {c : Prop} [Decidable c] {A B : Prop} (hc : c) (h : A) : if decide c = true then A else B := by
  rw [decide_eq_true hc]
  exact iteT h
theorem if2 {c : Prop} [Decidable c] {A B : Prop} (h1 : c → A) (h2 : ¬ c → B) : if decide c = true then A else B := by
  by_cases h : c
  · exact ifY h (h1 h)
  · exact ifN h (h2 h)
theorem ifnN {c : Prop} [Decidable c] {A B : Prop} (hc : c) (h : B) : if (!decide c) = true then A else B := by
  rw [decide_eq_true hc]
  exact iteF h
theorem ifnY {c : Prop} [Decidable c] {A B : Prop} (hc : ¬ c) (h : A) : if (!decide c) = true then A else B := by
  rw [decide_eq_false hc]
  exact iteT h
theorem if2B {c : Bool} {A B : Prop} (h1 : c = true → A) (h2 : c = false → B) : if c = true then A else B := by
  cases c with
  | true => exact iteT (h1 rfl)
  | false => exact iteF (h2 rfl)
theorem vint {i j : Int} (h : i = j) : V.int i = V.int j := by rw [h]
theorem vint_ne {i j : Int} (h : i ≠ j) : V.int i ≠ V.int j := fun e => h (V.int.inj e)
/-- what holds behind a statement, said once for all its ways -/
theorem cut {t u : TS} {D : Ends} {σ : L2.St} {H : Hp} (P : L2.St → Hp → Prop) (h1 : ∀ N : L2.St → Hp → Prop, (∀ σ' H', P σ' H' → N σ' H') → t { D with nx := N } σ H) (h2 : ∀ σ' H', P σ' H' → u D σ' H') : tSeq t u D σ H := h1 (u D) h2
/-! ### heaps -/
theorem _root_.L2.Same.new {H : Hp} {p : Addr} {o : HO} (h : H p = none) : Same H (upd H p o) := fun b x e => by
  rw [upd_ne (ne_of_none e h)]
  exact e
theorem _root_.L2.Same.put {H H' : Hp} {p : Addr} {o : HO} (s : Same H H') (h : H p = none) : Same H (upd H' p o) := fun b x e => by
  rw [upd_ne (ne_of_none e h)]
  exact s b x e
theorem _root_.L2.Same.none {H H' : Hp} (s : Same H H') {p : Addr} (h : H' p = none) : H p = none := s.free h
theorem _root_.L2.Same.sqT {K : PySem.W.Frag} {H H' : Hp} {a : Addr} {xs : List V} (e : Same H H') (h : SqT K H a xs) : SqT K H' a xs := by
  rcases h with (h | ⟨o, h⟩) | h
  · exact .inl (.inl (e _ _ h))
  · exact .inl (.inr ⟨o, e _ _ h⟩)
  · exact .inr h
theorem new_ne {H : Hp} {u v : Addr} {o : HO} (h : upd H u o v = none) : u ≠ v := fun z => by
  rw [z, upd_same] at h
  cases h
theorem new_old {H : Hp} {u v : Addr} {o : HO} (h : upd H u o v = none) : H v = none := by
  rw [upd_ne (new_ne h).symm] at h
  exact h
/-- an own list is changed: what was there ahead of it stands -/
theorem _root_.L2.Same.own {H H' : Hp} {p : Addr} {o : HO} (s : Same H H') (h : H p = none) : Same H (upd H' p o) := s.put h
theorem at_ne {H : Hp} {a p : Addr} {o : HO} {x : Option HO} (h : H a = x) (ne : a ≠ p) : upd H p o a = x := by
  rw [upd_ne ne]
  exact h
/-! ### lists of ints -/
abbrev vi (ns : List Int) : List V := ns.map V.int
theorem vi_at {ns : List Int} {i : Nat} {x : V} (h : (vi ns)[i]? = some x) : ∃ z, ns[i]? = some z ∧ x = .int z := by
  rw [List.getElem?_map] at h
  cases e : ns[i]? with
  | none => rw [e] at h; cases h
  | some z => rw [e] at h; exact ⟨z, rfl, (Option.some.inj h).symm⟩
theorem vi_get {ns : List Int} {i : Nat} {z : Int} (h : ns[i]? = some z) : (vi ns)[i]? = some (.int z) := by
  rw [List.getElem?_map, h]
  rfl
theorem vi_len (ns : List Int) : (vi ns).length = ns.length := List.length_map _
theorem getD_some {ns : List Int} {k : Nat} (h : k < ns.length) : ns[k]? = some (ns.getD k 0) := by
  rw [List.getD_eq_getElem?_getD, List.getElem?_eq_getElem h]
  rfl
theorem vi_nth {ns : List Int} {k : Nat} (h : k < ns.length) : (vi ns)[k]? = some (.int (ns.getD k 0)) := vi_get (getD_some h)
theorem atI_of {xs : List V} {i : Int} {j : Nat} {v : V} (e : i = (j : Int)) (h : xs[j]? = some v) : atI xs i = some v := by
  rw [e]
  exact atI_nat h
theorem atI_neg {xs : List V} {v : V} (h : xs[xs.length - 1]? = some v) : atI xs (-1) = some v := by
  have hl : 0 < xs.length := by
    rcases Nat.eq_zero_or_pos xs.length with z | z
    · rw [List.getElem?_eq_none (by omega)] at h
      cases h
    · exact z
  unfold atI ixN
  rw [if_neg (by decide), if_pos (by omega)]
  have e : (-1 + (xs.length : Int)).toNat = xs.length - 1 := by omega
  rw [e]
  exact h
theorem abs_eq (i : Int) : (if i < 0 then -i else i) = (i.natAbs : Int) := by
  split <;> omega
theorem line_lt {n : Nat} (h : n ≤ 1000000) : n < sizeLine := Nat.lt_of_le_of_lt h (by decide)
theorem line_le {n : Nat} (h : n ≤ 1000000) : n ≤ sizeLine := Nat.le_of_lt (line_lt h)
/-- a list of ints as plain data -/
def dI (ns : List Int) : PyData := .list (ns.map PyData.int)
theorem dp_vi {K : PySem.W.Frag} {H : Hp} : ∀ ns : List Int, DpAll K H (vi ns) (ns.map PyData.int)
  | [] => .nil
  | x :: r => .cons (.int x) (dp_vi r)
theorem dp_list {K : PySem.W.Frag} {H : Hp} {a : Addr} {ns : List Int} (h : SqL K H a (vi ns)) : Dp K H (.ref a) (dI ns) := .lst h (dp_vi ns)
/-! ### comprehensions whose elements change nothing -/
theorem wipe1 (σ : L2.St) (v : Nat) (x : Option V) : wipe ((wipe σ [v]).set v x) [v] = wipe σ [v] := by
  show ((σ.set v none).set v x).set v none = σ.set v none
  rw [List.set_set, List.set_set]
theorem yes_of {σ : L2.St} {H : Hp} {Q : Bool → Hp → Prop} (h : Q true H) : tYes σ H Q := h
theorem lc_grow {lo : Int} {n : Nat} {te : TE} {v : Nat} {σ : L2.St} {H1 : Hp} {D : Addr} {Qd : Hp → Prop} (R : Nat → V → Prop) (nD : H1 D = none) (hn : n ≤ 1000)
    (hs : ∀ i H', i < n → Same H1 H' → ∀ Q' : VK, (∀ y H2, Same H' H2 → R i y → Q' y H2) → te ((wipe σ [v]).set v (some (.int (lo + i)))) H' Q')
    (hd : ∀ H' ys, ys.length = n → (∀ i y, ys[i]? = some y → R i y) → Same H1 H' → H' D = some (.lst ys) → Qd H') :
    ∃ W : Nat → Nat → Hp → Prop, (∃ m, W 0 m (upd H1 D (.lst []))) ∧ ∀ i m H, W i m H →
      ((Itr lo n).stop i H ∧ Qd H) ∨ ((Itr lo n).go i H ∧ ∃ Nx : Hp → Prop, (∀ H', Nx H' → ∃ m', m' < m ∧ W (i + 1) m' H') ∧ ∀ x H', (Itr lo n).yld i H x H' → gName v x (wipe σ [v]) H' fun σ2 H2 => wipe σ2 [v] = wipe σ [v] ∧ tYes σ2 H2 fun b H3 =>
        if b = true then te σ2 H3 fun y H4 => ∃ acc, H4 D = some (.lst acc) ∧ acc.length < sizeLine ∧ Nx (upd H4 D (.lst (acc ++ [y]))) else Nx H3) := by
  refine lc_range (lo := lo) (n := n) (fun i H' => Same H1 H' ∧ ∃ ys, H' D = some (.lst ys) ∧ ys.length = i ∧ ∀ j y, ys[j]? = some y → R j y) ⟨Same.new nD, [], upd_same, rfl, fun j y h => by simp at h⟩ ?_ ?_
  · rintro i H' hi ⟨sm, ys, eD, hl, hR⟩
    refine ⟨wipe1 _ _ _, ?_⟩
    refine yes_of ?_
    refine iteT (hs i H' hi sm _ fun y H4 s4 hy => ⟨ys, s4 _ _ eD, line_lt (by omega), (sm.trans s4).put nD, ys ++ [y], upd_same, by rw [List.length_append, hl]; rfl, fun j z hz => ?_⟩)
    by_cases c : j < ys.length
    · rw [List.getElem?_append_left c] at hz
      exact hR j z hz
    · rw [List.getElem?_append_right (by omega)] at hz
      have e0 : j - ys.length = 0 := by
        rcases Nat.eq_zero_or_pos (j - ys.length) with q | q
        · exact q
        · rw [List.getElem?_eq_none (by simp only [List.length_cons, List.length_nil]; omega)] at hz
          cases hz
      rw [e0] at hz
      have ez : y = z := Option.some.inj hz
      have ej : j = i := by omega
      rw [← ez, ej]
      exact hy
  · rintro H' ⟨sm, ys, eD, hl, hR⟩
    exact hd H' ys hl hR sm eD
theorem lc_pure {lo : Int} {n : Nat} {te : TE} {v : Nat} {σ : L2.St} {H1 : Hp} {D : Addr} {Qd : Hp → Prop} (R : Nat → V → Prop) (nD : H1 D = none) (hn : n ≤ 1000)
    (hs : ∀ i H', i < n → Same H1 H' → ∀ Q' : VK, (∀ y, R i y → Q' y H') → te ((wipe σ [v]).set v (some (.int (lo + i)))) H' Q')
    (hd : ∀ H' ys, ys.length = n → (∀ i y, ys[i]? = some y → R i y) → Same H1 H' → H' D = some (.lst ys) → Qd H') :
    ∃ W : Nat → Nat → Hp → Prop, (∃ m, W 0 m (upd H1 D (.lst []))) ∧ ∀ i m H, W i m H →
      ((Itr lo n).stop i H ∧ Qd H) ∨ ((Itr lo n).go i H ∧ ∃ Nx : Hp → Prop, (∀ H', Nx H' → ∃ m', m' < m ∧ W (i + 1) m' H') ∧ ∀ x H', (Itr lo n).yld i H x H' → gName v x (wipe σ [v]) H' fun σ2 H2 => wipe σ2 [v] = wipe σ [v] ∧ tYes σ2 H2 fun b H3 =>
        if b = true then te σ2 H3 fun y H4 => ∃ acc, H4 D = some (.lst acc) ∧ acc.length < sizeLine ∧ Nx (upd H4 D (.lst (acc ++ [y]))) else Nx H3) :=
  lc_grow R nD hn (fun i H' hi sm Q' hQ => hs i H' hi sm Q' fun y hy => hQ y H' (Same.refl _) hy) hd
theorem lc_pureL {K : PySem.W.Frag} {a : Addr} {xs : List V} {te : TE} {v : Nat} {σ : L2.St} {H1 : Hp} {D : Addr} {Qd : Hp → Prop} (R : Nat → V → Prop) (hA : SqL K H1 a xs) (nD : H1 D = none) (hn : xs.length ≤ 1000)
    (hs : ∀ i x H', xs[i]? = some x → Same H1 H' → ∀ Q' : VK, (∀ y, R i y → Q' y H') → te ((wipe σ [v]).set v (some x)) H' Q')
    (hd : ∀ H' ys, ys.length = xs.length → (∀ i y, ys[i]? = some y → R i y) → Same H1 H' → H' D = some (.lst ys) → Qd H') :
    ∃ W : Nat → Nat → Hp → Prop, (∃ m, W 0 m (upd H1 D (.lst []))) ∧ ∀ i m H, W i m H →
      ((Itl K a).stop i H ∧ Qd H) ∨ ((Itl K a).go i H ∧ ∃ Nx : Hp → Prop, (∀ H', Nx H' → ∃ m', m' < m ∧ W (i + 1) m' H') ∧ ∀ x H', (Itl K a).yld i H x H' → gName v x (wipe σ [v]) H' fun σ2 H2 => wipe σ2 [v] = wipe σ [v] ∧ tYes σ2 H2 fun b H3 =>
        if b = true then te σ2 H3 fun y H4 => ∃ acc, H4 D = some (.lst acc) ∧ acc.length < sizeLine ∧ Nx (upd H4 D (.lst (acc ++ [y]))) else Nx H3) := by
  refine lc_list (K := K) (a := a) (xs := xs) (fun i H' => Same H1 H' ∧ ∃ ys, H' D = some (.lst ys) ∧ ys.length = i ∧ ∀ j y, ys[j]? = some y → R j y) ⟨Same.new nD, [], upd_same, rfl, fun j y h => by simp at h⟩ (fun i H' _ h => h.1.seq hA) ?_ ?_
  · rintro i x H' hi ⟨sm, ys, eD, hl, hR⟩
    have hil : i < xs.length := (List.getElem?_eq_some_iff.mp hi).1
    refine ⟨wipe1 _ _ _, ?_⟩
    refine yes_of ?_
    refine iteT (hs i x H' hi sm _ fun y hy => ⟨ys, eD, line_lt (by omega), sm.put nD, ys ++ [y], upd_same, by rw [List.length_append, hl]; rfl, fun j z hz => ?_⟩)
    by_cases c : j < ys.length
    · rw [List.getElem?_append_left c] at hz
      exact hR j z hz
    · rw [List.getElem?_append_right (by omega)] at hz
      have e0 : j - ys.length = 0 := by
        rcases Nat.eq_zero_or_pos (j - ys.length) with q | q
        · exact q
        · rw [List.getElem?_eq_none (by simp only [List.length_cons, List.length_nil]; omega)] at hz
          cases hz
      rw [e0] at hz
      have ez : y = z := Option.some.inj hz
      have ej : j = i := by omega
      rw [← ez, ej]
      exact hy
  · rintro H' ⟨sm, ys, eD, hl, hR⟩
    exact hd H' ys hl hR sm eD
theorem all_ints {n : Nat} {ys : List V} {P : Nat → Int → Prop} (hl : ys.length = n) (h : ∀ i y, ys[i]? = some y → ∃ z, y = .int z ∧ P i z) : ∃ zs, ys = vi zs ∧ zs.length = n ∧ ∀ i, i < n → P i (zs.getD i 0) := by
  induction ys generalizing n P with
  | nil => exact ⟨[], rfl, hl, fun i hi => by simp at hl; omega⟩
  | cons y r ih =>
    obtain ⟨z, ez, pz⟩ := h 0 y rfl
    obtain ⟨zs, e, l, q⟩ := ih (n := r.length) (P := fun i => P (i + 1)) rfl (fun i y hy => h (i + 1) y hy)
    refine ⟨z :: zs, by rw [ez, e]; rfl, by simp only [List.length_cons] at hl ⊢; omega, fun i hi => ?_⟩
    cases i with
    | zero => exact pz
    | succ i =>
      simp only [List.length_cons] at hl
      exact q i (by omega)
theorem lc_ints {lo : Int} {n : Nat} {te : TE} {v : Nat} {σ : L2.St} {H1 : Hp} {D : Addr} {Qd : Hp → Prop} (P : Nat → Int → Prop) (nD : H1 D = none) (hn : n ≤ 1000)
    (hs : ∀ i H', i < n → Same H1 H' → ∀ Q' : VK, (∀ z, P i z → Q' (.int z) H') → te ((wipe σ [v]).set v (some (.int (lo + i)))) H' Q')
    (hd : ∀ H' zs, zs.length = n → (∀ i, i < n → P i (zs.getD i 0)) → Same H1 H' → H' D = some (.lst (vi zs)) → Qd H') :
    ∃ W : Nat → Nat → Hp → Prop, (∃ m, W 0 m (upd H1 D (.lst []))) ∧ ∀ i m H, W i m H →
      ((Itr lo n).stop i H ∧ Qd H) ∨ ((Itr lo n).go i H ∧ ∃ Nx : Hp → Prop, (∀ H', Nx H' → ∃ m', m' < m ∧ W (i + 1) m' H') ∧ ∀ x H', (Itr lo n).yld i H x H' → gName v x (wipe σ [v]) H' fun σ2 H2 => wipe σ2 [v] = wipe σ [v] ∧ tYes σ2 H2 fun b H3 =>
        if b = true then te σ2 H3 fun y H4 => ∃ acc, H4 D = some (.lst acc) ∧ acc.length < sizeLine ∧ Nx (upd H4 D (.lst (acc ++ [y]))) else Nx H3) :=
  lc_pure (fun i y => ∃ z, y = .int z ∧ P i z) nD hn (fun i H' hi sm Q' hQ => hs i H' hi sm Q' fun z hz => hQ _ ⟨z, rfl, hz⟩) fun H' ys hl hR sm e => by
    obtain ⟨zs, ez, l, q⟩ := all_ints hl hR
    rw [ez] at e
    exact hd H' zs l q sm e
theorem lc_intsG {lo : Int} {n : Nat} {te : TE} {v : Nat} {σ : L2.St} {H1 : Hp} {D : Addr} {Qd : Hp → Prop} (P : Nat → Int → Prop) (nD : H1 D = none) (hn : n ≤ 1000)
    (hs : ∀ i H', i < n → Same H1 H' → ∀ Q' : VK, (∀ z H2, Same H' H2 → P i z → Q' (.int z) H2) → te ((wipe σ [v]).set v (some (.int (lo + i)))) H' Q')
    (hd : ∀ H' zs, zs.length = n → (∀ i, i < n → P i (zs.getD i 0)) → Same H1 H' → H' D = some (.lst (vi zs)) → Qd H') :
    ∃ W : Nat → Nat → Hp → Prop, (∃ m, W 0 m (upd H1 D (.lst []))) ∧ ∀ i m H, W i m H →
      ((Itr lo n).stop i H ∧ Qd H) ∨ ((Itr lo n).go i H ∧ ∃ Nx : Hp → Prop, (∀ H', Nx H' → ∃ m', m' < m ∧ W (i + 1) m' H') ∧ ∀ x H', (Itr lo n).yld i H x H' → gName v x (wipe σ [v]) H' fun σ2 H2 => wipe σ2 [v] = wipe σ [v] ∧ tYes σ2 H2 fun b H3 =>
        if b = true then te σ2 H3 fun y H4 => ∃ acc, H4 D = some (.lst acc) ∧ acc.length < sizeLine ∧ Nx (upd H4 D (.lst (acc ++ [y]))) else Nx H3) :=
  lc_grow (fun i y => ∃ z, y = .int z ∧ P i z) nD hn (fun i H' hi sm Q' hQ => hs i H' hi sm Q' fun z H2 s2 hz => hQ _ H2 s2 ⟨z, rfl, hz⟩) fun H' ys hl hR sm e => by
    obtain ⟨zs, ez, l, q⟩ := all_ints hl hR
    rw [ez] at e
    exact hd H' zs l q sm e
theorem lc_intsL {K : PySem.W.Frag} {a : Addr} {xs : List V} {te : TE} {v : Nat} {σ : L2.St} {H1 : Hp} {D : Addr} {Qd : Hp → Prop} (P : Nat → Int → Prop) (hA : SqL K H1 a xs) (nD : H1 D = none) (hn : xs.length ≤ 1000)
    (hs : ∀ i x H', xs[i]? = some x → Same H1 H' → ∀ Q' : VK, (∀ z, P i z → Q' (.int z) H') → te ((wipe σ [v]).set v (some x)) H' Q')
    (hd : ∀ H' zs, zs.length = xs.length → (∀ i, i < xs.length → P i (zs.getD i 0)) → Same H1 H' → H' D = some (.lst (vi zs)) → Qd H') :
    ∃ W : Nat → Nat → Hp → Prop, (∃ m, W 0 m (upd H1 D (.lst []))) ∧ ∀ i m H, W i m H →
      ((Itl K a).stop i H ∧ Qd H) ∨ ((Itl K a).go i H ∧ ∃ Nx : Hp → Prop, (∀ H', Nx H' → ∃ m', m' < m ∧ W (i + 1) m' H') ∧ ∀ x H', (Itl K a).yld i H x H' → gName v x (wipe σ [v]) H' fun σ2 H2 => wipe σ2 [v] = wipe σ [v] ∧ tYes σ2 H2 fun b H3 =>
        if b = true then te σ2 H3 fun y H4 => ∃ acc, H4 D = some (.lst acc) ∧ acc.length < sizeLine ∧ Nx (upd H4 D (.lst (acc ++ [y]))) else Nx H3) :=
  lc_pureL (fun i y => ∃ z, y = .int z ∧ P i z) hA nD hn (fun i x H' hi sm Q' hQ => hs i x H' hi sm Q' fun z hz => hQ _ ⟨z, rfl, hz⟩) fun H' ys hl hR sm e => by
    obtain ⟨zs, ez, l, q⟩ := all_ints hl hR
    rw [ez] at e
    exact hd H' zs l q sm e
theorem eqvAll_ints : ∀ a b : List Int, PyData.eqvAll (a.map PyData.int) (b.map PyData.int) = decide (a = b)
  | [], [] => rfl
  | [], _ :: _ => rfl
  | _ :: _, [] => rfl
  | x :: r, y :: q => by
    show (PyData.eqv (.int x) (.int y) && PyData.eqvAll (r.map PyData.int) (q.map PyData.int)) = decide (x :: r = y :: q)
    rw [eqvAll_ints r q]
    show ((x == y) && decide (r = q)) = decide (x :: r = y :: q)
    by_cases e : x = y
    · by_cases e2 : r = q
      · simp [e, e2]
      · simp [e, e2]
    · simp [e]
theorem eqv_dI (a b : List Int) : PyData.eqv (dI a) (dI b) = decide (a = b) := eqvAll_ints a b
theorem canLay_ints : ∀ a : List Int, PyData.canLayAll0 (a.map PyData.int) = true
  | [] => rfl
  | x :: r => by
    show (PyData.canLay0 (.int x) && PyData.canLayAll0 (r.map PyData.int)) = true
    rw [canLay_ints r]
    rfl
theorem depth_ints : ∀ a : List Int, PyData.depthAll (a.map PyData.int) = 0
  | [] => rfl
  | x :: r => by
    show max (PyData.depth (.int x)) (PyData.depthAll (r.map PyData.int)) = 0
    rw [depth_ints r]
    rfl
theorem shaped_dI (a : List Int) : SeqAt.shaped (dI a) = true := by
  show (PyData.canLay0 (dI a) && decide ((dI a).depth ≤ 64)) = true
  have e1 : PyData.canLay0 (dI a) = true := canLay_ints a
  have e2 : (dI a).depth = 1 := by
    show PyData.depthAll (a.map PyData.int) + 1 = 1
    rw [depth_ints]
  rw [e1, e2]
  rfl
/-- a pair of ints as plain data -/
def dT2 (i j : Int) : PyData := .tuple [.int i, .int j]
theorem dp_pair {K : PySem.W.Frag} {H : Hp} {a : Addr} {i j : Int} (h : SqT K H a [.int i, .int j]) : Dp K H (.ref a) (dT2 i j) := .tup h (.cons (.int i) (.cons (.int j) .nil))
theorem eqT {K : PySem.W.Frag} {H : Hp} {a b : Addr} {i j k l : Int} {Q : VK} (h1 : SqT K H a [.int i, .int j]) (h2 : SqT K H b [.int k, .int l]) (q : Q (.bl ((i == k) && ((j == l) && true))) H) : rEqD K (.ref a) (.ref b) H Q :=
  ⟨dT2 i j, dT2 k l, dp_pair h1, dp_pair h2, rfl, rfl, q⟩
theorem neT {K : PySem.W.Frag} {H : Hp} {a b : Addr} {i j k l : Int} {Q : VK} (h1 : SqT K H a [.int i, .int j]) (h2 : SqT K H b [.int k, .int l]) (q : Q (.bl (!((i == k) && ((j == l) && true)))) H) : rNeD K (.ref a) (.ref b) H Q :=
  ⟨dT2 i j, dT2 k l, dp_pair h1, dp_pair h2, rfl, rfl, q⟩
/-- == and != of two lists of ints, said with decide -/
theorem eqL {K : PySem.W.Frag} {H : Hp} {a b : Addr} {ns ms : List Int} {Q : VK} (h1 : SqL K H a (vi ns)) (h2 : SqL K H b (vi ms)) (q : Q (.bl (decide (ns = ms))) H) : rEqD K (.ref a) (.ref b) H Q :=
  ⟨dI ns, dI ms, dp_list h1, dp_list h2, shaped_dI _, shaped_dI _, by rw [eqv_dI]; exact q⟩
theorem neL {K : PySem.W.Frag} {H : Hp} {a b : Addr} {ns ms : List Int} {Q : VK} (h1 : SqL K H a (vi ns)) (h2 : SqL K H b (vi ms)) (q : Q (.bl (!decide (ns = ms))) H) : rNeD K (.ref a) (.ref b) H Q :=
  ⟨dI ns, dI ms, dp_list h1, dp_list h2, shaped_dI _, shaped_dI _, by rw [eqv_dI]; exact q⟩
section
variable {X : Cx}
/-- a module's whole number -/
theorem pe_num {x : Str} {i : Int} {pos : Pos} (h : ∃ t, X.mg x = some (.int i t)) (hg : Gl X x := by rfl) (hd : (x == ("__debug__" : Str)) = false := by decide) : PE X (.Name x pos) (tC (.int i)) := by
  obtain ⟨t, h⟩ := h
  exact pe_glob hg h ⟨t, rfl⟩ hd
/-- a built-in class as a value -/
theorem pe_cls {x : Str} {n : String} {pos : Pos} (hm : X.mg x = none) (hv : bootBuiltins x = some (.type n)) (hg : Gl X x := by rfl) (hn : x ≠ "__name__" := by decide) (hd : (x == ("__debug__" : Str)) = false := by decide) : PE X (.Name x pos) (tC (.ty n)) :=
  pe_bltn hg hm hv rfl hn hd
/-- rules that name the written part, for the blocks of comprehensions -/
theorem ixL (K : PySem.W.Frag) (h : X.K = K) : IxR X (rIxL K) := h ▸ ix_list
theorem ixT (K : PySem.W.Frag) (h : X.K = K) : IxR X (rIxT K) := h ▸ ix_tup
theorem lenL (K : PySem.W.Frag) (h : X.K = K) : CallR X (.builtin "len") (fun xs H Q => ∃ p ys, xs = [.ref p] ∧ (SqL K H p ys ∨ SqT K H p ys) ∧ Q (.int ys.length) H) := h ▸ call_len_seq
theorem maxL (K : PySem.W.Frag) (hc : X.calm = true) (h : X.K = K) : CallR X (.builtin "max") (rMax K) := h ▸ cr_max hc
theorem isiL (K : PySem.W.Frag) (h : X.K = K) : CallR X (.builtin "isinstance") (rIsi K) := h ▸ call_isi
theorem listL (K : PySem.W.Frag) (h : X.K = K) : CallR X (.type "list") (fun xs H Q => ∃ p ys, xs = [.ref p] ∧ (SqL K H p ys ∨ SqT K H p ys) ∧ ∀ l, H l = none → Q (.ref l) (upd H l (.lst ys))) := h ▸ call_list_of
theorem tupleL (K : PySem.W.Frag) (h : X.K = K) : CallR X (.type "tuple") (fun xs H Q => ∃ p ys, xs = [.ref p] ∧ ((SqL K H p ys ∧ ∀ l, H l = none → Q (.ref l) (upd H l (.tup ys))) ∨ (SqT K H p ys ∧ Q (.ref p) H))) := h ▸ call_tuple_of
end
end GL
/-! ### texts -/
namespace GL
open PySem PySem.Spec L2 TL
section
variable {X : Cx}
theorem pe_text {x : Str} {z : Str} {pos : Pos} (h : ∃ t, X.mg x = some (.str z t)) (hg : Gl X x := by rfl) (hd : (x == ("__debug__" : Str)) = false := by decide) : PE X (.Name x pos) (tC (.str z)) := by
  obtain ⟨t, h⟩ := h
  exact pe_glob hg h ⟨t, rfl⟩ hd
end
theorem for_str {x : Str} {g : TG} {tb : TS} {D : Ends} {σ : L2.St} {H : Hp} (Pv : Nat → L2.St → Hp → Prop) (h0 : Pv 0 σ H)
    (hs : ∀ (i : Nat) (c : Nat) (σ : L2.St) (H : Hp), x.cps[i]? = some c → Pv i σ H → g (.str ⟨#[c]⟩) σ H fun σ2 H2 => tb { D with nx := Pv (i + 1), ct := Pv (i + 1), bk := D.nx } σ2 H2) (hd : ∀ σ H, Pv x.cps.size σ H → D.nx σ H) :
    ∃ W : Nat → Nat → L2.St → Hp → Prop, (∃ m, W 0 m σ H) ∧ ∀ i m σ H, W i m σ H →
      ((Its x).stop i H ∧ D.nx σ H) ∨ ((Its x).go i H ∧ ∃ N : L2.St → Hp → Prop, (∀ σ' H', N σ' H' → ∃ m', m' < m ∧ W (i + 1) m' σ' H') ∧ ∀ v H', (Its x).yld i H v H' → g v σ H' fun σ2 H2 => tb { D with nx := N, ct := N, bk := D.nx } σ2 H2) := by
  refine ⟨fun i m σ H => m = x.cps.size - i ∧ i ≤ x.cps.size ∧ Pv i σ H, ⟨x.cps.size, rfl, Nat.zero_le _, h0⟩, ?_⟩
  rintro i m σ H ⟨rfl, hi, p⟩
  by_cases hlt : i < x.cps.size
  · refine .inr ⟨hlt, Pv (i + 1), fun σ' H' p' => ⟨x.cps.size - (i + 1), by omega, rfl, hlt, p'⟩, fun v H' y => ?_⟩
    obtain ⟨rfl, c, e, rfl⟩ := y
    exact hs i c σ _ e p
  · have e : i = x.cps.size := by omega
    subst e
    exact .inl ⟨Nat.le_refl _, hd σ H p⟩
/-- a number's text -/
def sI (n : Int) : Str := Str.ofString (toString n)
theorem tl_sI (n : Nat) : tl (sI (n : Int)) = numL n := tl_num n
theorem tl_sI' {z : Int} (h : 0 ≤ z) : tl (sI z) = numL z.toNat := by
  have e : z = ((z.toNat : Nat) : Int) := by omega
  rw [e, tl_sI]
  rfl
theorem numL_head : ∀ n : Nat, 1 ≤ n → ∃ c r, numL n = c :: r ∧ 49 ≤ c := by
  intro n
  induction n using Nat.strongRecOn with
  | _ n ih =>
    intro h
    by_cases h10 : n < 10
    · exact ⟨48 + n, [], numL_lt h10, by omega⟩
    · obtain ⟨c, r, e, hc⟩ := ih (n / 10) (by omega) (by omega)
      exact ⟨c, r ++ [48 + n % 10], by rw [numL_step (by omega), e]; rfl, hc⟩
theorem numL_pos (n : Nat) : 1 ≤ (numL n).length := by
  rcases Nat.eq_zero_or_pos (numL n).length with h | h
  · exact absurd (List.length_eq_zero_iff.mp h) (numL_ne n)
  · exact h
theorem numL_4 {n : Nat} (h : n ≤ 9999) : (numL n).length ≤ 4 := numL_len (by decide) (Nat.lt_of_le_of_lt h (by decide))
theorem figs : tl (Str.ofString "0123456789") = [48, 49, 50, 51, 52, 53, 54, 55, 56, 57] := by decide +kernel
theorem blank1 : tl (Str.ofString " ") = [32] := by decide +kernel
theorem in_figs {c : Nat} : c ∈ tl (Str.ofString "0123456789") ↔ 48 ≤ c ∧ c ≤ 57 := by
  rw [figs]
  simp only [List.mem_cons, List.not_mem_nil, or_false]
  omega
theorem len_sI {n : Nat} : (sI (n : Int)).length = (numL n).length := by rw [len_tl, tl_sI]
/-- a text's signs by place -/
theorem cps_at {x : Str} {i c : Nat} (h : x.cps[i]? = some c) : (tl x)[i]? = some c := by
  rw [← h]
  exact Array.getElem?_toList
theorem sign1 (c : Nat) : (⟨#[c]⟩ : Str) = Str.ofString "0" ↔ c = 48 := by
  have e : tl (Str.ofString "0") = [48] := by decide +kernel
  constructor
  · intro h
    have q := congrArg tl h
    rw [e] at q
    exact (List.cons.inj q).1
  · intro h
    refine ext_tl ?_
    rw [e, h]
theorem join_snoc (y : Str) : ∀ (l : List Str) (x : Str), l ≠ [] → Str.join y (l ++ [x]) = Str.join y l ++ y ++ x
  | [], _, h => absurd rfl h
  | [a], x, _ => by
    refine ext_tl ?_
    rw [tl_append, tl_append]
    show tl (a ++ y ++ x) = tl a ++ tl y ++ tl x
    rw [tl_append, tl_append]
  | a :: b :: r, x, _ => by
    have ih := join_snoc y (b :: r) x (by simp)
    refine ext_tl ?_
    show tl (a ++ y ++ Str.join y ((b :: r) ++ [x])) = _
    rw [ih]
    rw [tl_append, tl_append, tl_append, tl_append, tl_append, tl_append]
    show tl a ++ tl y ++ (tl (Str.join y (b :: r)) ++ tl y ++ tl x) = tl (a ++ y ++ Str.join y (b :: r)) ++ tl y ++ tl x
    rw [tl_append, tl_append]
    simp only [List.append_assoc]
theorem empty_append (x : Str) : (Str.ofString "" : Str) ++ x = x := by
  refine ext_tl ?_
  rw [tl_append, show tl (Str.ofString "") = [] by decide +kernel]
  rfl
theorem joinL_len (S : List Nat) : ∀ (ps : List (List Nat)) (m : Nat), (∀ p ∈ ps, p.length ≤ m) → (joinL S ps).length ≤ ps.length * (m + S.length)
  | [], _, _ => Nat.zero_le _
  | [p], m, h => by
    have := h p (by simp)
    show p.length ≤ 1 * (m + S.length)
    omega
  | p :: q :: r, m, h => by
    have a := h p (by simp)
    have b := joinL_len S (q :: r) m (fun x hx => h x (by simp at hx ⊢; right; exact hx))
    show (p ++ (S ++ joinL S (q :: r))).length ≤ (r.length + 1 + 1) * (m + S.length)
    rw [List.length_append, List.length_append]
    have e : (r.length + 1 + 1) * (m + S.length) = (r.length + 1) * (m + S.length) + (m + S.length) := Nat.succ_mul _ _
    have b' : (joinL S (q :: r)).length ≤ (r.length + 1) * (m + S.length) := b
    omega
end GL
/-! ### the text by places -/
namespace GK
open PySem PySem.Spec PyProof.Rows L2 GL
def topS (i : Nat) : Stmt := PySem.Challenge.pw_gapring_k15_written.main.body.getD i (.Pass ⟨0, 0, 0, 0⟩)
abbrev s_asked : Stmt := topS 8
abbrev s_shown : Stmt := topS 11
abbrev s_number_of : Stmt := topS 12
abbrev s_read : Stmt := topS 13
abbrev s_l_cell_at : Stmt := topS 15
abbrev s_l_draw : Stmt := topS 16
abbrev s_l_whole : Stmt := topS 17
abbrev s_l_ring_by : Stmt := topS 18
abbrev s_l_is : Stmt := topS 19
abbrev s_law : Stmt := topS 20
abbrev N_asked : List Str := ["ring", "number"]
theorem sc_asked : FnScope N_asked ["ring"] (defScope s_asked) := ⟨rfl, rfl, rfl, by decide +kernel, rfl, by decide +kernel, by decide +kernel⟩
abbrev N_shown : List Str := ["ring", "number"]
theorem sc_shown : FnScope N_shown ["ring"] (defScope s_shown) := ⟨rfl, rfl, rfl, by decide +kernel, rfl, by decide +kernel, by decide +kernel⟩
abbrev N_number_of : List Str := ["word", "sign"]
theorem sc_number_of : FnScope N_number_of ["word"] (defScope s_number_of) := ⟨rfl, rfl, rfl, by decide +kernel, rfl, by decide +kernel, by decide +kernel⟩
abbrev N_read : List Str := ["text", "ring", "word"]
theorem sc_read : FnScope N_read ["text"] (defScope s_read) := ⟨rfl, rfl, rfl, by decide +kernel, rfl, by decide +kernel, by decide +kernel⟩
abbrev N_l_cell_at : List Str := ["script", "k"]
theorem sc_l_cell_at : FnScope N_l_cell_at ["script", "k"] (defScope s_l_cell_at) := ⟨rfl, rfl, rfl, by decide +kernel, rfl, by decide +kernel, by decide +kernel⟩
abbrev N_l_draw : List Str := ["cell", "k", "bound", "stir"]
theorem sc_l_draw : FnScope N_l_draw ["cell", "k", "bound"] (defScope s_l_draw) := ⟨rfl, rfl, rfl, by decide +kernel, rfl, by decide +kernel, by decide +kernel⟩
abbrev N_l_whole : List Str := ["found"]
theorem sc_l_whole : FnScope N_l_whole ["found"] (defScope s_l_whole) := ⟨rfl, rfl, rfl, by decide +kernel, rfl, by decide +kernel, by decide +kernel⟩
abbrev N_l_ring_by : List Str := ["script", "first", "cell", "size", "bound", "ring", "k", "number"]
theorem sc_l_ring_by : FnScope N_l_ring_by ["script", "first"] (defScope s_l_ring_by) := ⟨rfl, rfl, rfl, by decide +kernel, rfl, by decide +kernel, by decide +kernel⟩
abbrev N_l_is : List Str := ["found", "due", "number"]
theorem sc_l_is : FnScope N_l_is ["found", "due"] (defScope s_l_is) := ⟨rfl, rfl, rfl, by decide +kernel, rfl, by decide +kernel, by decide +kernel⟩
abbrev N_law : List Str := ["script", "ring", "due", "k", "handed", "text", "found"]
theorem sc_law : FnScope N_law ["script"] (defScope s_law) := ⟨rfl, rfl, rfl, by decide +kernel, rfl, by decide +kernel, by decide +kernel⟩
/-- what the top has left -/
structure Txt (K : PySem.W.Frag) (mg : Str → Option Value) where
  f_asked : Addr
  d_asked : FuncData
  F_asked : Fun K "asked" "asked" s_asked f_asked d_asked
  b_asked : Binds K d_asked ["ring"] []
  g_asked : mg "asked" = some (.ref f_asked)
  f_shown : Addr
  d_shown : FuncData
  F_shown : Fun K "shown" "shown" s_shown f_shown d_shown
  b_shown : Binds K d_shown ["ring"] []
  g_shown : mg "shown" = some (.ref f_shown)
  f_number_of : Addr
  d_number_of : FuncData
  F_number_of : Fun K "number_of" "number_of" s_number_of f_number_of d_number_of
  b_number_of : Binds K d_number_of ["word"] []
  g_number_of : mg "number_of" = some (.ref f_number_of)
  f_read : Addr
  d_read : FuncData
  F_read : Fun K "read" "read" s_read f_read d_read
  b_read : Binds K d_read ["text"] []
  g_read : mg "read" = some (.ref f_read)
  f_l_cell_at : Addr
  d_l_cell_at : FuncData
  F_l_cell_at : Fun K "_law_cell_at" "_law_cell_at" s_l_cell_at f_l_cell_at d_l_cell_at
  b_l_cell_at : Binds K d_l_cell_at ["script", "k"] []
  g_l_cell_at : mg "_law_cell_at" = some (.ref f_l_cell_at)
  f_l_draw : Addr
  d_l_draw : FuncData
  F_l_draw : Fun K "_law_draw" "_law_draw" s_l_draw f_l_draw d_l_draw
  b_l_draw : Binds K d_l_draw ["cell", "k", "bound"] []
  g_l_draw : mg "_law_draw" = some (.ref f_l_draw)
  f_l_whole : Addr
  d_l_whole : FuncData
  F_l_whole : Fun K "_law_whole" "_law_whole" s_l_whole f_l_whole d_l_whole
  b_l_whole : Binds K d_l_whole ["found"] []
  g_l_whole : mg "_law_whole" = some (.ref f_l_whole)
  f_l_ring_by : Addr
  d_l_ring_by : FuncData
  F_l_ring_by : Fun K "_law_ring_by" "_law_ring_by" s_l_ring_by f_l_ring_by d_l_ring_by
  b_l_ring_by : Binds K d_l_ring_by ["script", "first"] []
  g_l_ring_by : mg "_law_ring_by" = some (.ref f_l_ring_by)
  f_l_is : Addr
  d_l_is : FuncData
  F_l_is : Fun K "_law_is" "_law_is" s_l_is f_l_is d_l_is
  b_l_is : Binds K d_l_is ["found", "due"] []
  g_l_is : mg "_law_is" = some (.ref f_l_is)
  f_law : Addr
  d_law : FuncData
  F_law : Fun K "law" "law" s_law f_law d_law
  b_law : Binds K d_law ["script"] []
  g_law : mg "law" = some (.ref f_law)
  c_FEWEST : ∃ t, mg "FEWEST" = some (.int 3 t)
  c_MOST : ∃ t, mg "MOST" = some (.int 16 t)
  c_GREATEST : ∃ t, mg "GREATEST" = some (.int 1000 t)
  c_FIGURES : ∃ t, mg "FIGURES" = some (.str "0123456789" t)
  z_bool : mg "bool" = none
  z_int : mg "int" = none
  z_isinstance : mg "isinstance" = none
  z_len : mg "len" = none
  z_list : mg "list" = none
  z_range : mg "range" = none
  z_str : mg "str" = none
section
variable {P : Program} {w : World} {K : PySem.W.Frag} {mg : Str → Option Value} {base : Heap}
/-! ### asked: a ring passes -/
def sp_asked (K : PySem.W.Frag) : Sp := fun vs H Q _ => ∃ (a : Addr) (ns : List Int), vs = [.ref a] ∧ SqL K H a (vi ns) ∧ GR.Ring ns ∧ Q .non H
theorem ok_asked (T : Txt K mg) : FnOk P w K mg base CX0 1 T.f_asked T.d_asked ["ring"] (sp_asked K) := by
  refine T.F_asked.ok sc_asked (fun vs H Q E h => ?_) (fun cdv A outer s H vs Q E hr h => ?_)
  · obtain ⟨a, ns, rfl, _⟩ := h
    rfl
  · obtain ⟨a, ns, rfl, hS, R, q⟩ := h
    refine ⟨_, pss_cons (ps_if (PW.pt (pw_or (pt_cmpR op_lt (pe_callB call_len_seq (by rfl) T.z_len bt_len (pa_cons (pv 0) pa_nil)) (pe_num T.c_FEWEST) (nomark _))
        (pw_or1 (pt_cmpR op_gt (pe_callB call_len_seq (by rfl) T.z_len bt_len (pa_cons (pv 0) pa_nil)) (pe_num T.c_MOST) (nomark _))))) pss_never pss_nil)
      (pss_one (ps_for PassesOwn.never rfl (pi_list (pv 0)) (pg_name (i := 1) sc_asked.nd rfl (.inl rfl))
        (pss_one (ps_if (PW.pt (pw_or (pt_cmpR op_lt (pv 1) pe_int (nomark _)) (pw_or1 (pt_cmpR op_gt (pv 1) (pe_num T.c_GREATEST) (nomark _))))) pss_never pss_nil)))), ?_⟩
    have h3 := R.lo
    have h16 := R.hi
    refine ⟨_, rfl, a, _, rfl, .inl hS, _, _, rfl, rfl, _, rfl, ifN (by rw [vi_len]; omega) ?_⟩
    refine ⟨_, rfl, a, _, rfl, .inl hS, _, _, rfl, rfl, _, rfl, ifN (by rw [vi_len]; omega) ?_⟩
    refine ⟨_, rfl, a, rfl, ⟨_, hS⟩, for_list (K := K) (a := a) (xs := vi ns) (fun i σ H' => ∃ v, σ = [some (.ref a), v] ∧ H' = H) ⟨none, rfl, rfl⟩ (fun i σ H' _ ⟨_, _, e⟩ => e ▸ hS) ?_ ?_⟩
    · rintro i x σ H' hi ⟨v, rfl, rfl⟩
      obtain ⟨z, hz, rfl⟩ := vi_at hi
      have b := R.bd z (List.mem_of_getElem? hz)
      refine ⟨_, rfl, _, _, rfl, rfl, _, rfl, ifN (by omega) ?_⟩
      exact ⟨_, rfl, _, _, rfl, rfl, _, rfl, ifN (by omega) ⟨_, rfl, rfl⟩⟩
    · rintro σ H' ⟨v, rfl, rfl⟩
      exact q
/-! ### _law_cell_at -/
def cell (ns : List Int) (k : Int) : Int := ns.getD k.toNat 0
def sp_l_cell_at (K : PySem.W.Frag) : Sp := fun vs H Q _ => ∃ (a : Addr) (ns : List Int) (k : Int), vs = [.ref a, .int k] ∧ SqL K H a (vi ns) ∧ 0 ≤ k ∧ Q (.int (cell ns k)) H
theorem ok_l_cell_at (T : Txt K mg) : FnOk P w K mg base CX0 1 T.f_l_cell_at T.d_l_cell_at ["script", "k"] (sp_l_cell_at K) := by
  refine T.F_l_cell_at.ok sc_l_cell_at (fun vs H Q E h => ?_) (fun cdv A outer s H vs Q E hr h => ?_)
  · obtain ⟨a, ns, k, rfl, _⟩ := h
    rfl
  · obtain ⟨a, ns, k, rfl, hS, hk, q⟩ := h
    refine ⟨_, pss_cons (ps_if (pt_cmpR op_lt (pv 1) (pe_callB call_len_seq (by rfl) T.z_len bt_len (pa_cons (pv 0) pa_nil)) (nomark _)) (pss_one (ps_ret (pe_ix ix_list (pv 0) (pv 1) (fun _ _ => rfl)))) pss_nil)
      (pss_one (ps_ret pe_int)), ?_⟩
    refine ⟨_, rfl, _, rfl, a, _, rfl, .inl hS, _, _, rfl, rfl, _, rfl, if2 (fun c => ?_) (fun c => ?_)⟩
    · rw [vi_len] at c
      have h1 : k.toNat < ns.length := by omega
      exact ⟨_, rfl, _, rfl, a, _, _, _, rfl, rfl, hS, atI_of (j := k.toNat) (by omega) (vi_nth h1), q⟩
    · rw [vi_len] at c
      have e : cell ns k = 0 := by
        unfold cell
        rw [List.getD_eq_getElem?_getD, List.getElem?_eq_none (by omega)]
        rfl
      rw [e] at q
      exact q
/-! ### _law_draw -/
def sp_l_draw : Sp := fun vs H Q _ => ∃ (c k b : Int), vs = [.int c, .int k, .int b] ∧ 0 < b ∧ ∀ x : Int, 0 ≤ x → x < b → Q (.int x) H
theorem ok_l_draw (T : Txt K mg) : FnOk P w K mg base CX0 1 T.f_l_draw T.d_l_draw ["cell", "k", "bound"] sp_l_draw := by
  refine T.F_l_draw.ok sc_l_draw (fun vs H Q E h => ?_) (fun cdv A outer s H vs Q E hr h => ?_)
  · obtain ⟨c, k, b, rfl, _⟩ := h
    rfl
  · obtain ⟨c, k, b, rfl, hb, q⟩ := h
    refine ⟨_, pss_cons (ps_set (i := 3) sc_l_draw.nd rfl (.inl rfl) (pe_op op_mod (pe_op op_mul (pe_op op_add (pe_op op_add (pe_op op_mod (pv 0) pe_int) (pe_op op_mul pe_int (pv 1))) pe_int) pe_int) pe_int))
      (pss_cons (ps_set (i := 3) sc_l_draw.nd rfl (.inl rfl) (pe_op op_mod (pe_op op_mul (pv 3) (pv 3)) pe_int))
      (pss_cons (ps_set (i := 3) sc_l_draw.nd rfl (.inl rfl) (pe_op op_mod (pe_op op_mul (pe_op op_add (pv 3) (pe_op op_mul pe_int (pe_op op_add (pv 1) pe_int))) pe_int) pe_int))
      (pss_one (ps_ret (pe_op op_mod (pe_op op_fdiv (pv 3) pe_int) (pv 2)))))), ?_⟩
    refine ⟨_, rfl, _, _, rfl, rfl, (by show (0 : Int) < 2147483647; decide), _, rfl, _, _, rfl, rfl, .inl ⟨by decide, by decide⟩, _, _, rfl, rfl, _, _, rfl, rfl, _, _, rfl, rfl, .inr ⟨by decide, by decide⟩, _, _, rfl, rfl, (by show (0 : Int) < 2147483647; decide), ?_⟩
    generalize hs1 : ((c % 2147483647 + 977 * k + 1) * 48271 % 2147483647 : Int) = s1
    have a1 : 0 ≤ s1 := by rw [← hs1]; exact Int.emod_nonneg _ (by decide)
    have a2 : s1 < 2147483647 := by rw [← hs1]; exact Int.emod_lt_of_pos _ (by decide)
    refine ⟨_, rfl, _, rfl, _, _, rfl, rfl, .inl ⟨by omega, by omega⟩, _, _, rfl, rfl, (by show (0 : Int) < 2147483629; decide), ?_⟩
    refine ⟨_, rfl, _, rfl, _, _, rfl, rfl, _, _, rfl, rfl, .inl ⟨by decide, by decide⟩, _, _, rfl, rfl, _, _, rfl, rfl, .inr ⟨by decide, by decide⟩, _, _, rfl, rfl, (by show (0 : Int) < 2147483647; decide), ?_⟩
    refine ⟨_, rfl, _, _, rfl, rfl, ⟨by decide, by decide⟩, _, rfl, _, _, rfl, rfl, hb, ?_⟩
    exact q _ (Int.emod_nonneg _ (by omega)) (Int.emod_lt_of_pos _ hb)
/-! ### _law_whole -/
def sp_l_whole : Sp := fun vs H Q _ => ∃ i : Int, vs = [.int i] ∧ Q (.bl true) H
theorem ok_l_whole (T : Txt K mg) : FnOk P w K mg base CX0 1 T.f_l_whole T.d_l_whole ["found"] sp_l_whole := by
  refine T.F_l_whole.ok sc_l_whole (fun vs H Q E h => ?_) (fun cdv A outer s H vs Q E hr h => ?_)
  · obtain ⟨i, rfl, _⟩ := h
    rfl
  · obtain ⟨i, rfl, q⟩ := h
    refine ⟨_, pss_one (ps_ret (pe_and (pe_callB call_isi (by rfl) T.z_isinstance bt_isinstance (pa_cons (pv 0) (pa_cons (pe_cls T.z_int bt_int) pa_nil))) (pe_one (pe_not (pe_callB call_isi (by rfl) T.z_isinstance bt_isinstance (pa_cons (pv 0) (pa_cons (pe_cls T.z_bool bt_bool) pa_nil))))))), ?_⟩
    refine ⟨_, rfl, _, _, _, _, true, rfl, .ty "int", .base (.int i), kit_ty (by decide +kernel), _, rfl, iteT ?_⟩
    exact ⟨_, rfl, _, _, _, _, false, rfl, .ty "bool", .base (.int i), kit_ty (by decide +kernel), _, rfl, q⟩
/-! ### _law_ring_by: some ring -/
theorem ring_of {zs : List Int} {n : Nat} (hl : zs.length = n) (h3 : 3 ≤ n) (h16 : n ≤ 16) (h : ∀ i, i < n → 0 ≤ zs.getD i 0 ∧ zs.getD i 0 ≤ 1000) : GR.Ring zs :=
  ⟨by omega, by omega, fun x hx => by
    obtain ⟨k, hk, e⟩ := GR.mem_getD hx
    have q := h k (by omega)
    rw [e] at q
    exact q⟩
theorem cut_to (ns : List Int) (n : Nat) : cutV (vi ns) none (some (n : Int)) = vi (ns.take n) := by
  unfold cutV
  rw [show HT.sIx (vi ns).length (vi ns).length (some (n : Int)) = min n (vi ns).length from HT.sIx_nat _ _ n, HT.sIx_none]
  rw [List.drop_zero, Nat.sub_zero, vi_len]
  show (List.map V.int ns).take (min n ns.length) = List.map V.int (ns.take n)
  rw [← List.map_take]
  congr 1
  rw [List.take_eq_take_iff]
  omega
theorem cut_from (ns : List Int) (n : Nat) : cutV (vi ns) (some (n : Int)) none = vi (ns.drop n) := by
  unfold cutV
  rw [show HT.sIx (vi ns).length 0 (some (n : Int)) = min n (vi ns).length from HT.sIx_nat _ _ n, HT.sIx_none, vi_len]
  show ((List.map V.int ns).drop (min n ns.length)).take (ns.length - min n ns.length) = List.map V.int (ns.drop n)
  rw [← List.map_drop, ← List.map_take]
  congr 1
  by_cases c : n ≤ ns.length
  · rw [Nat.min_eq_left c]
    exact List.take_of_length_le (by rw [List.length_drop]; omega)
  · rw [List.drop_eq_nil_of_le (by omega), List.drop_eq_nil_of_le (by omega)]
    exact List.take_nil
def sp_l_ring_by (K : PySem.W.Frag) : Sp := fun vs H Q _ => ∃ (a : Addr) (ns : List Int) (f : Int), vs = [.ref a, .int f] ∧ SqL K H a (vi ns) ∧ 0 ≤ f ∧
  ∀ H' p rs, Same H H' → H p = none → H' p = some (.lst (vi rs)) → GR.Ring rs → Q (.ref p) H'
theorem ok_l_ring_by (T : Txt K mg) : FnOk P w K mg base CX0 2 T.f_l_ring_by T.d_l_ring_by ["script", "first"] (sp_l_ring_by K) := by
  refine T.F_l_ring_by.ok sc_l_ring_by (fun vs H Q E h => ?_) (fun cdv A outer s H vs Q E hr h => ?_)
  · obtain ⟨a, ns, f, rfl, _⟩ := h
    rfl
  · obtain ⟨a, ns, f, rfl, hS, hf, q⟩ := h
    have hrc : ∀ {X : Cx}, X.A = A.deeper (envOfC "_law_ring_by" (defScope s_l_ring_by) s.heap.objs.size T.f_l_ring_by cdv) → Room 1 X.A := fun e => e ▸ hr
    refine ⟨_, pss_cons (ps_set (i := 2) sc_l_ring_by.nd rfl (.inl rfl) (pe_call (ok_l_cell_at T) hr (by rfl) T.g_l_cell_at T.F_l_cell_at.kp T.b_l_cell_at .nil pass0 (pa_cons (pv 0) (pa_cons (pv 1) pa_nil))))
      (pss_cons (ps_set (i := 3) sc_l_ring_by.nd rfl (.inl rfl) (pe_op op_add pe_int (pe_op op_mod (pv 2) pe_int)))
      (pss_cons (ps_if (pt_cmpR op_eq (pe_op op_mod (pe_op op_fdiv (pv 2) pe_int) pe_int) pe_int (nomark _))
        (pss_one (ps_ret (pe_lc (own := [("k", 6)]) (g := gName 6) (tt := tYes) rfl sc_l_ring_by.nd (pi_range1 (by rfl) T.z_range (pa_cons (pe_op op_add pe_int (pe_op op_mod (pv 2) pe_int)) pa_nil))
          (blkOk_by (own := [("k", 6)]) (N := N_l_ring_by) (sc := defScope s_l_ring_by) (by decide +kernel)) (fun _ _ _ _ _ => pg_name (i := 6) sc_l_ring_by.nd rfl (Or.inl rfl)) (fun _ _ _ _ _ => pts_nil)
          (fun _ _ _ _ _ => pe_call (ok_l_draw T) hr (by rfl) T.g_l_draw T.F_l_draw.kp T.b_l_draw .nil pass0 (pa_cons (pe_call (ok_l_cell_at T) hr (by rfl) T.g_l_cell_at T.F_l_cell_at.kp T.b_l_cell_at .nil pass0 (pa_cons (pv 0) (pa_cons (pe_op op_add (pv 1) pe_int) pa_nil))) (pa_cons (pv 6) (pa_cons pe_int pa_nil))))))) pss_nil)
      (pss_cons (ps_if (pt_cmpR op_eq (pe_op op_mod (pe_op op_fdiv (pv 2) pe_int) pe_int) pe_int (nomark _))
        (pss_one (ps_ret (pe_lc (own := [("k", 6)]) (g := gName 6) (tt := tYes) rfl sc_l_ring_by.nd (pi_range1 (by rfl) T.z_range (pa_cons (pe_op op_add pe_int (pe_op op_mod (pv 2) pe_int)) pa_nil))
          (blkOk_by (own := [("k", 6)]) (N := N_l_ring_by) (sc := defScope s_l_ring_by) (by decide +kernel)) (fun _ _ _ _ _ => pg_name (i := 6) sc_l_ring_by.nd rfl (Or.inl rfl)) (fun _ _ _ _ _ => pts_nil)
          (fun _ _ _ _ _ => pe_op op_mod (pe_call (ok_l_cell_at T) hr (by rfl) T.g_l_cell_at T.F_l_cell_at.kp T.b_l_cell_at .nil pass0 (pa_cons (pv 0) (pa_cons (pe_op op_add (pe_op op_add (pv 1) pe_int) (pv 6)) pa_nil))) pe_int)))) pss_nil)
      (pss_cons (ps_set (i := 4) sc_l_ring_by.nd rfl (.inr rfl) (pe_ix ix_list (pe_lst (pa_cons pe_int (pa_cons pe_int (pa_cons pe_int (pa_cons pe_int (pa_cons pe_int pa_nil)))))) (pe_op op_mod (pe_op op_fdiv (pv 2) pe_int) pe_int) (fun _ _ => rfl)))
      (pss_cons (ps_setLc (i := 5) (own := [("k", 6)]) (g := gName 6) (tt := tYes) rfl sc_l_ring_by.nd rfl rfl (sw_true rfl rfl rfl (by decide +kernel)) (pi_range1 (by rfl) T.z_range (pa_cons (pv 3) pa_nil))
          (blkOk_by (own := [("k", 6)]) (N := N_l_ring_by) (sc := defScope s_l_ring_by) (by decide +kernel)) (fun _ _ _ _ _ => pg_name (i := 6) sc_l_ring_by.nd rfl (Or.inl rfl)) (fun _ _ _ _ _ => pts_nil)
          (fun _ _ _ _ _ => pe_call (ok_l_draw T) hr (by rfl) T.g_l_draw T.F_l_draw.kp T.b_l_draw .nil pass0 (pa_cons (pe_call (ok_l_cell_at T) hr (by rfl) T.g_l_cell_at T.F_l_cell_at.kp T.b_l_cell_at .nil pass0 (pa_cons (pv 0) (pa_cons (pe_op op_add (pv 1) pe_int) pa_nil))) (pa_cons (pv 6) (pa_cons (pv 4) pa_nil)))))
      (pss_cons (ps_if (pt_cmpR op_eq (pv 4) pe_int (nomark _))
        (pss_one (ps_setLc (i := 5) (own := [("number", 7)]) (g := gName 7) (tt := tYes) rfl sc_l_ring_by.nd rfl rfl (sw_true rfl rfl rfl (by decide +kernel)) (pi_list (pv 5))
          (blkOk_by (own := [("number", 7)]) (N := N_l_ring_by) (sc := defScope s_l_ring_by) (by decide +kernel)) (fun _ _ _ _ _ => pg_name (i := 7) sc_l_ring_by.nd rfl (Or.inl rfl)) (fun _ _ _ _ _ => pts_nil)
          (fun _ _ _ _ _ => pe_op op_mul (pv 7) (pe_op op_mod (pv 7) pe_int)))) pss_nil)
      (pss_cons (ps_if (pt_cmpR op_eq (pe_op op_mod (pe_op op_fdiv (pv 2) pe_int) pe_int) pe_int (nomark _))
        (pss_one (ps_ret (pe_op op_cat (pe_slice sl_list (pv 5) po_none (po_some pe_int)) (pe_slice sl_list (pv 5) po_none (po_some pe_int))))) pss_nil)
      (pss_one (ps_ret (pv 5)))))))))), ?_⟩
    refine ⟨_, rfl, _, rfl, a, ns, f, rfl, hS, hf, ?_⟩
    generalize cell ns f = c
    refine ⟨_, rfl, _, _, rfl, rfl, (by show (0 : Int) < 14; decide), _, _, rfl, rfl, ?_⟩
    have z14 := Int.emod_nonneg c (b := 14) (by decide)
    have y14 := Int.emod_lt_of_pos c (b := 14) (by decide)
    have z3 := Int.emod_nonneg c (b := 3) (by decide)
    have y3 := Int.emod_lt_of_pos c (b := 3) (by decide)
    have z5 := Int.emod_nonneg c (b := 5) (by decide)
    have y5 := Int.emod_lt_of_pos c (b := 5) (by decide)
    refine ⟨_, rfl, _, _, rfl, rfl, ⟨by decide, by decide⟩, _, _, rfl, rfl, (by show (0 : Int) < 4; decide), rfl, _, rfl, if2 (fun _ => ?_) (fun _ => ?_)⟩
    · refine ⟨_, rfl, _, _, rfl, rfl, (by show (0 : Int) < 3; decide), _, _, rfl, rfl, _, rfl, by omega, by omega, fun D nD => ?_⟩
      refine lc_ints (fun i z => 0 ≤ z ∧ z ≤ 1000) nD (by omega) (fun i H' hi sm Q' hQ => ?_) (fun H' zs hl hR sm e => ?_)
      · refine ⟨_, rfl, _, rfl, _, _, rfl, rfl, a, ns, f + 1, rfl, sm.seq hS, by omega, _, rfl, _, _, _, rfl, by decide, fun x h0 h1 => hQ x ⟨h0, by omega⟩⟩
      · exact q H' D zs sm nD e (ring_of hl (by omega) (by omega) hR)
    refine ⟨_, rfl, _, _, rfl, rfl, ⟨by decide, by decide⟩, _, _, rfl, rfl, (by show (0 : Int) < 4; decide), rfl, _, rfl, if2 (fun _ => ?_) (fun _ => ?_)⟩
    · refine ⟨_, rfl, _, _, rfl, rfl, (by show (0 : Int) < 5; decide), _, _, rfl, rfl, _, rfl, by omega, by omega, fun D nD => ?_⟩
      refine lc_ints (fun i z => 0 ≤ z ∧ z ≤ 1000) nD (by omega) (fun i H' hi sm Q' hQ => ?_) (fun H' zs hl hR sm e => ?_)
      · refine ⟨_, rfl, _, rfl, _, _, rfl, rfl, _, rfl, _, _, rfl, rfl, a, ns, f + 10 + (0 + i), rfl, sm.seq hS, by omega, _, _, rfl, rfl, (by show (0 : Int) < 1001; decide), hQ _ ?_⟩
        have z1 := Int.emod_nonneg (cell ns (f + 10 + (0 + i))) (b := 1001) (by decide)
        have y1 := Int.emod_lt_of_pos (cell ns (f + 10 + (0 + i))) (b := 1001) (by decide)
        exact ⟨z1, by omega⟩
      · exact q H' D zs sm nD e (ring_of hl (by omega) (by omega) hR)
    refine ⟨by decide, fun B nB => ?_⟩
    have zb := Int.emod_nonneg (c / 14) (b := 5) (by decide)
    have yb := Int.emod_lt_of_pos (c / 14) (b := 5) (by decide)
    refine ⟨_, rfl, _, _, rfl, rfl, ⟨by decide, by decide⟩, _, _, rfl, rfl, (by show (0 : Int) < 5; decide), ?_⟩
    obtain ⟨bd, hb, b0, b1⟩ : ∃ bd : Int, ([.int 2, .int 3, .int 10, .int 41, .int 7] : List V)[(c / 14 % 5).toNat]? = some (.int bd) ∧ 0 < bd ∧ bd ≤ 41 := by
      have hc : c / 14 % 5 = 0 ∨ c / 14 % 5 = 1 ∨ c / 14 % 5 = 2 ∨ c / 14 % 5 = 3 ∨ c / 14 % 5 = 4 := by omega
      rcases hc with e | e | e | e | e <;> rw [e]
      · exact ⟨2, rfl, by decide, by decide⟩
      · exact ⟨3, rfl, by decide, by decide⟩
      · exact ⟨10, rfl, by decide, by decide⟩
      · exact ⟨41, rfl, by decide, by decide⟩
      · exact ⟨7, rfl, by decide, by decide⟩
    refine ⟨B, _, _, _, rfl, rfl, SqL.of upd_same, atI_of (j := (c / 14 % 5).toNat) (by omega) hb, ?_⟩
    have sB : Same H (upd H B (.lst [.int 2, .int 3, .int 10, .int 41, .int 7])) := Same.new nB
    refine ⟨_, rfl, _, rfl, by omega, by omega, fun D nD => ?_⟩
    have nD0 := sB.free nD
    refine lc_ints (fun i z => 0 ≤ z ∧ z ≤ 40) nD (by omega) (fun i H' hi sm Q' hQ => ?_) (fun H1 zs hl hR sm eD => ?_)
    · exact ⟨_, rfl, _, rfl, _, _, rfl, rfl, a, ns, f + 1, rfl, sm.seq (sB.seq hS), by omega, _, rfl, _, rfl, _, _, _, rfl, b0, fun x h0 h1 => hQ x ⟨h0, by omega⟩⟩
    have s1 : Same H H1 := sB.trans sm
    -- what follows the drawing: a ring r at some place of its own
    have tail : ∀ (H2 : Hp) (p : Addr) (rs : List Int) (y6 y7 : Option V), Same H H2 → H p = none → H2 p = some (.lst (vi rs)) → GR.Ring rs →
        tSeq (tIfS (tTest (tOp rEq (tOp (rI (fun _ j => 0 < j) fun i j => .int (i % j)) (tOp (rI CDiv fun i j => .int (i / j)) (tVar 2) (tC (.int 70))) (tC (.int 4))) (tC (.int 3))))
          (tRet (tOp rCat (tSl (rSlL K) (tVar 5) tNoPart (tPart (tC (.int 8)))) (tSl (rSlL K) (tVar 5) tNoPart (tPart (tC (.int 8)))))) tNext) (tRet (tVar 5)) { nx := fun _ H' => Q .non H', rt := Q }
          [some (.ref a), some (.int f), some (.int c), some (.int (3 + c % 14)), some (.int bd), some (.ref p), y6, y7] H2 := by
      intro H2 p rs y6 y7 sm2 np ep R
      have hP : SqL K H2 p (vi rs) := SqL.of ep
      refine ⟨_, rfl, _, _, rfl, rfl, ⟨by decide, by decide⟩, _, _, rfl, rfl, (by show (0 : Int) < 4; decide), rfl, _, rfl, if2 (fun _ => ?_) (fun _ => ?_)⟩
      · refine ⟨_, rfl, _, rfl, p, _, rfl, hP, fun u nu => ?_⟩
        have su := Same.new (o := .lst (cutV (vi rs) none (some 8))) nu
        refine ⟨_, rfl, _, rfl, p, _, rfl, su.seq hP, fun v nv => ?_⟩
        have nuv : u ≠ v := new_ne nv
        have e8 : cutV (vi rs) none (some 8) = vi (rs.take 8) := cut_to rs 8
        have l3 := R.lo
        refine ⟨u, v, _, _, rfl, rfl, by rw [upd_ne nuv]; exact upd_same, upd_same, ?_, fun x nx => ?_⟩
        · rw [e8, vi_len, List.length_take]
          exact line_le (by omega)
        · have nxv : H2 x = none := (su.trans (Same.new nv)).free nx
          refine q _ x (rs.take 8 ++ rs.take 8) (((sm2.put (sm2.free nu)).put (sm2.free (su.free nv))).put (sm2.free nxv)) (sm2.free nxv) ?_ ⟨?_, ?_, ?_⟩
          · rw [upd_same, e8, ← List.map_append]
          · rw [List.length_append, List.length_take]
            omega
          · rw [List.length_append, List.length_take]
            omega
          · intro z hz
            rcases List.mem_append.mp hz with h | h
            · exact R.bd z (List.mem_of_mem_take h)
            · exact R.bd z (List.mem_of_mem_take h)
      · exact ⟨_, rfl, q H2 p rs sm2 np ep R⟩
    refine ⟨_, rfl, rfl, _, rfl, if2 (fun _ => ?_) (fun _ => ?_)⟩
    · -- ring = [number * (number % 3) ..]
      have hD : SqL K H1 D (vi zs) := SqL.of eD
      refine ⟨_, rfl, D, rfl, ⟨_, hD⟩, fun C nC => ?_⟩
      have lz : (vi zs).length ≤ 1000 := by rw [vi_len]; omega
      refine lc_intsL (a := D) (xs := vi zs) (fun i z => 0 ≤ z ∧ z ≤ 1000) hD nC lz (fun i x H' hi sm' Q' hQ => ?_) (fun H2 ws hl2 hR2 sm2 e2 => ?_)
      · obtain ⟨z, hz, rfl⟩ := vi_at hi
        have hi2 : i < zs.length := (List.getElem?_eq_some_iff.mp hz).1
        have b := hR i (by omega)
        rw [getD_some hi2] at hz
        have ez := Option.some.inj hz
        rw [ez] at b
        have m0 := Int.emod_nonneg z (b := 3) (by decide)
        have m1 := Int.emod_lt_of_pos z (b := 3) (by decide)
        refine ⟨_, rfl, _, rfl, _, _, rfl, rfl, (by show (0 : Int) < 3; decide), _, _, rfl, rfl, .inl ⟨by omega, by omega⟩, hQ _ ⟨Int.mul_nonneg b.1 m0, ?_⟩⟩
        exact Int.le_trans (Int.mul_le_mul b.2 (show z % 3 ≤ 2 by omega) m0 (by decide)) (by decide)
      · rw [vi_len] at hl2 hR2
        exact tail H2 C ws _ _ (s1.trans sm2) (s1.free nC) e2 (ring_of hl2 (by omega) (by omega) hR2)
    · exact tail H1 D zs _ _ s1 nD0 eD (ring_of hl (by omega) (by omega) fun i hi => by have := hR i hi; omega)
/-! ### _law_is: two lists of whole numbers -/
def sp_l_is (K : PySem.W.Frag) : Sp := fun vs H Q _ => ∃ (a b : Addr) (ns ms : List Int), vs = [.ref a, .ref b] ∧ H a = some (.lst (vi ns)) ∧ SqL K H b (vi ms) ∧ Q (.bl (decide (ns = ms))) H
theorem ok_l_is (T : Txt K mg) : FnOk P w K mg base CX0 2 T.f_l_is T.d_l_is ["found", "due"] (sp_l_is K) := by
  refine T.F_l_is.ok sc_l_is (fun vs H Q E h => ?_) (fun cdv A outer s H vs Q E hr h => ?_)
  · obtain ⟨a, b, ns, ms, rfl, _⟩ := h
    rfl
  · obtain ⟨a, b, ns, ms, rfl, hA, hB, q⟩ := h
    refine ⟨_, pss_cons (ps_if (PW.pt (pw_or (pt_not (pt_val (pe_callB call_isi (by rfl) T.z_isinstance bt_isinstance (pa_cons (pv 0) (pa_cons (pe_cls T.z_list bt_list) pa_nil)))))
        (pw_or1 (pt_cmpR op_ne (pe_callB call_len_seq (by rfl) T.z_len bt_len (pa_cons (pv 0) pa_nil)) (pe_callB call_len_seq (by rfl) T.z_len bt_len (pa_cons (pv 1) pa_nil)) (nomark _))))) (pss_one (ps_ret pe_bl)) pss_nil)
      (pss_cons (ps_for PassesOwn.never rfl (pi_list (pv 0)) (pg_name (i := 2) sc_l_is.nd rfl (.inl rfl))
        (pss_one (ps_if (pt_not (pt_val (pe_call (ok_l_whole T) hr (by rfl) T.g_l_whole T.F_l_whole.kp T.b_l_whole .nil pass0 (pa_cons (pv 2) pa_nil)))) (pss_one (ps_ret pe_bl)) pss_nil)))
      (pss_one (ps_ret (pe_cmpR (op_eqD hr.units) (pv 0) (pv 1) (nomark _))))), ?_⟩
    refine ⟨_, rfl, _, _, _, _, true, rfl, .ty "list", .base (.lst hA), kit_ty (by decide +kernel), _, rfl, iteF ?_⟩
    refine ⟨_, rfl, a, _, rfl, .inl (SqL.of hA), _, rfl, b, _, rfl, .inl hB, rfl, _, rfl, ?_⟩
    by_cases hl : ns.length = ms.length
    · refine ifnN (by rw [vi_len, vi_len, hl]) ?_
      refine ⟨_, rfl, a, rfl, ⟨_, SqL.of hA⟩, for_list (K := K) (a := a) (xs := vi ns) (fun i σ H' => ∃ v, σ = [some (.ref a), some (.ref b), v] ∧ H' = H) ⟨none, rfl, rfl⟩ (fun i σ H' _ ⟨_, _, e⟩ => e ▸ SqL.of hA) ?_ ?_⟩
      · rintro i x σ H' hi ⟨v, rfl, rfl⟩
        obtain ⟨z, hz, rfl⟩ := vi_at hi
        exact ⟨_, rfl, z, rfl, _, rfl, iteF ⟨_, rfl, rfl⟩⟩
      · rintro σ H' ⟨v, rfl, rfl⟩
        exact ⟨_, rfl, _, rfl, eqL (SqL.of hA) hB q⟩
    · refine ifnY (fun e => hl ?_) ?_
      · have := V.int.inj e
        rw [vi_len, vi_len] at this
        omega
      · have e : decide (ns = ms) = false := decide_eq_false fun e => hl (by rw [e])
        rw [e] at q
        exact q
/-! ### shown -/
open TL
theorem strs_sI {zs : List V} {rs : List Int} (hl : zs.length = (vi rs).length) (h : ∀ (i : Nat) y, zs[i]? = some y → ∃ z, rs[i]? = some z ∧ y = .str (sI z)) : zs = (rs.map sI).map V.str := by
  rw [List.map_map]
  apply List.ext_getElem?
  intro i
  by_cases c : i < zs.length
  · obtain ⟨z, e1, e2⟩ := h i zs[i] (List.getElem?_eq_getElem c)
    rw [List.getElem?_eq_getElem c, e2, List.getElem?_map, e1]
    rfl
  · rw [vi_len] at hl
    rw [List.getElem?_eq_none (by omega), List.getElem?_eq_none (by rw [List.length_map]; omega)]
theorem sum_le4 : ∀ (l : List Nat) (m : Nat), (∀ x ∈ l, x ≤ m) → l.sum ≤ l.length * m
  | [], _, _ => Nat.zero_le _
  | x :: r, m, h => by
    have a := h x (by simp)
    have b := sum_le4 r m fun y hy => h y (by simp [hy])
    rw [List.sum_cons, List.length_cons, Nat.succ_mul]
    omega
def sp_shown (K : PySem.W.Frag) : Sp := fun vs H Q _ => ∃ (a : Addr) (ns : List Int), vs = [.ref a] ∧ SqL K H a (vi ns) ∧ GR.Ring ns ∧
  ∀ H', Same H H' → Q (.str (Str.join (Str.ofString " ") (ns.map sI))) H'
theorem ok_shown (T : Txt K mg) : FnOk P w K mg base CX0 2 T.f_shown T.d_shown ["ring"] (sp_shown K) := by
  refine T.F_shown.ok sc_shown (fun vs H Q E h => ?_) (fun cdv A outer s H vs Q E hr h => ?_)
  · obtain ⟨a, ns, rfl, _⟩ := h
    rfl
  · obtain ⟨a, ns, rfl, hS, R, q⟩ := h
    have R16 := R.hi
    refine ⟨_, (pss_cons (ps_expr (pe_call (ok_asked T) (hr.mono (by decide)) (by rfl) T.g_asked T.F_asked.kp T.b_asked .nil pass0 (pa_cons (pv 0) pa_nil)))
      (pss_one (ps_ret (pe_join pe_str (pe_lc (own := [("number", 1)]) (g := gName 1) (tt := tYes) rfl sc_shown.nd (pi_list (pv 0)) (blkOk_by (own := [("number", 1)]) (N := N_shown) (sc := defScope s_shown) (by decide +kernel)) (fun _ _ _ _ _ => (pg_name (i := 1) sc_shown.nd rfl (Or.inl rfl))) (fun _ _ _ _ _ => pts_nil) (fun _ _ _ _ _ => (pe_callTy call_str_int (by rfl) T.z_str bt_str (pa_cons (pv 1) pa_nil)))))))), ?_⟩
    refine ⟨_, rfl, a, ns, rfl, hS, R, ?_⟩
    refine ⟨⟨_, rfl⟩, ?_⟩
    refine ⟨_, rfl, a, rfl, ⟨_, hS⟩, fun D nD => ?_⟩
    refine lc_pureL (a := a) (xs := vi ns) (fun i y => ∃ z, ns[i]? = some z ∧ y = .str (sI z)) hS nD (by rw [vi_len]; omega) (fun i x H' hi sm Q' hQ => ?_) (fun H' zs hl hR sm e => ?_)
    · obtain ⟨z, hz, rfl⟩ := vi_at hi
      have b := R.bd z (List.mem_of_getElem? hz)
      refine ⟨_, rfl, _, rfl, ?_, hQ _ ⟨z, hz, rfl⟩⟩
      have h1 : z.natAbs < 2 ^ 1920 := Nat.lt_of_le_of_lt (show z.natAbs ≤ 1000 by omega) (by decide)
      by_cases z0 : z.natAbs = 0
      · rw [z0]
        decide
      · exact (Nat.log2_lt z0).mpr h1
    · have ezs := strs_sI hl hR
      rw [ezs] at e
      refine ⟨_, D, ns.map sI, rfl, rfl, .inl (SqL.of e), ?_, ?_⟩
      · have h4 := sum_le4 ((ns.map sI).map (·.length)) 4 fun x hx => by
          obtain ⟨y, hy, rfl⟩ := List.mem_map.mp hx
          obtain ⟨z, hz, rfl⟩ := List.mem_map.mp hy
          have b := R.bd z hz
          rw [len_tl, tl_sI' b.1]
          exact numL_4 (by omega)
        rw [List.length_map, List.length_map] at h4
        have e1 : (Str.ofString " ").length = 1 := by rw [len_tl, blank1]; rfl
        rw [e1, List.length_map]
        omega
      · rw [join_eq]
        exact q H' sm
/-! ### number_of, of a number's text -/
open TL
theorem small_line {n : Nat} (h : n ≤ 640) : n ≤ sizeLine := line_le (by omega)
def sp_number_of : Sp := fun vs H Q _ => ∃ n : Nat, vs = [.str (sI (n : Int))] ∧ n ≤ 9999 ∧ Q (.int n) H
theorem ok_number_of (T : Txt K mg) : FnOk P w K mg base CX0 1 T.f_number_of T.d_number_of ["word"] sp_number_of := by
  refine T.F_number_of.ok sc_number_of (fun vs H Q E h => ?_) (fun cdv A outer s H vs Q E hr h => ?_)
  · obtain ⟨n, rfl, _⟩ := h
    rfl
  · obtain ⟨n, rfl, hn, q⟩ := h
    have h1 := numL_pos n
    have h4 := numL_4 hn
    have hl : (sI (n : Int)).length = (numL n).length := len_sI
    refine ⟨_, (pss_cons (ps_if (PW.pt (pw_or (pt_not (pt_chain op_le op_le pe_int (pe_callB call_len_str (by rfl) T.z_len bt_len (pa_cons (pv 0) pa_nil)) pe_int)) (pw_or1 (PW.pt (pw_and (pt_cmpR op_eq (pe_ix ix_str (pv 0) pe_int (fun _ _ => rfl)) pe_str (nomark _)) (pw_and1 (pt_cmpR op_gt (pe_callB call_len_str (by rfl) T.z_len bt_len (pa_cons (pv 0) pa_nil)) pe_int (nomark _)))))))) pss_never pss_nil)
      (pss_cons (ps_for PassesOwn.never rfl (pi_str (pv 0)) (pg_name (i := 1) sc_number_of.nd rfl (.inl rfl)) (pss_one (ps_if (pt_cmpR op_notIn_sign (pv 1) (pe_text T.c_FIGURES) (by rfl)) pss_never pss_nil)))
      (pss_one (ps_ret (pe_callTy call_int_str (by rfl) T.z_int bt_int (pa_cons (pv 0) pa_nil)))))), ?_⟩
    refine ⟨_, rfl, _, rfl, small_line (by omega), _, _, rfl, rfl, _, rfl, ?_⟩
    refine ifY (by rw [hl]; omega) ⟨_, _, rfl, rfl, _, rfl, ?_⟩
    rw [decide_eq_true (show ((sI (n : Int)).length : Int) ≤ 4 by rw [hl]; omega)]
    refine iteF ?_
    obtain ⟨c, r, ec⟩ : ∃ c r, numL n = c :: r := by
      cases e : numL n with
      | nil => exact absurd e (numL_ne n)
      | cons c r => exact ⟨c, r, rfl⟩
    have e0 : (sI (n : Int)).cps.toList[0]? = some c := by
      show (tl (sI (n : Int)))[0]? = some c
      rw [tl_sI, ec]
      rfl
    refine ⟨_, rfl, _, _, c, rfl, rfl, small_line (by omega), atI_nat (j := 0) e0, rfl, _, rfl, ?_⟩
    refine if2 (fun hz => ?_) (fun hz => iteF ?_)
    · have hc : c = 48 := (sign1 c).mp (V.str.inj hz)
      have n0 : n = 0 := by
        rcases Nat.eq_zero_or_pos n with z | z
        · exact z
        · obtain ⟨c', r', e', h49⟩ := numL_head n z
          rw [ec] at e'
          have := (List.cons.inj e').1
          omega
      have l1 : (numL n).length = 1 := by rw [n0, numL_lt (by decide)]; rfl
      refine ⟨_, rfl, _, rfl, small_line (by omega), _, _, rfl, rfl, _, rfl, ifN (by rw [hl]; omega) ?_⟩
      refine ⟨_, rfl, _, rfl, for_str (fun i σ H' => ∃ v, σ = [some (.str (sI (n : Int))), v] ∧ H = H') ⟨none, rfl, rfl⟩ ?_ ?_⟩
      · rintro i c σ H' hi ⟨v, rfl, rfl⟩
        have hm := List.mem_of_getElem? (cps_at hi)
        rw [tl_sI] at hm
        refine ⟨_, rfl, c, _, rfl, rfl, _, rfl, ifnN (in_figs.mpr (by have := numL_digits n c hm; omega)) ⟨_, rfl, rfl⟩⟩
      · rintro σ H' ⟨v, rfl, rfl⟩
        exact ⟨_, rfl, _, _, rfl, int_num (by omega), by rw [hl]; omega, q⟩
    · refine ⟨_, rfl, _, rfl, for_str (fun i σ H' => ∃ v, σ = [some (.str (sI (n : Int))), v] ∧ H = H') ⟨none, rfl, rfl⟩ ?_ ?_⟩
      · rintro i c σ H' hi ⟨v, rfl, rfl⟩
        have hm := List.mem_of_getElem? (cps_at hi)
        rw [tl_sI] at hm
        refine ⟨_, rfl, c, _, rfl, rfl, _, rfl, ifnN (in_figs.mpr (by have := numL_digits n c hm; omega)) ⟨_, rfl, rfl⟩⟩
      · rintro σ H' ⟨v, rfl, rfl⟩
        exact ⟨_, rfl, _, _, rfl, int_num (by omega), by rw [hl]; omega, q⟩
/-! ### read, of what is written -/
theorem blank_kind : (Str.ofString " ").cps.all (· < 256) = true := by decide +kernel
theorem split_back {ns : List Int} (R : GR.Ring ns) : Txt.split (Str.join (Str.ofString " ") (ns.map sI)) (Str.ofString " ") = ns.map sI := by
  have q := split_join (y := Str.ofString " ") (s := 32) (S := []) blank1 blank_kind (parts := ns.map sI) (fun e => by have := R.pos; rw [List.map_eq_nil_iff.mp e] at this; exact absurd this (by decide)) (fun p hp => by
    obtain ⟨z, hz, rfl⟩ := List.mem_map.mp hp
    rw [tl_sI' (R.bd z hz).1]
    exact numL_free (by omega))
  rw [join_eq] at q
  exact q
theorem join_len {ns : List Int} (R : GR.Ring ns) : (Str.join (Str.ofString " ") (ns.map sI)).length ≤ 80 := by
  rw [len_tl, tl_join, blank1]
  have q := joinL_len [32] ((ns.map sI).map tl) 4 fun p hp => by
    obtain ⟨y, hy, rfl⟩ := List.mem_map.mp hp
    obtain ⟨z, hz, rfl⟩ := List.mem_map.mp hy
    have b := R.bd z hz
    rw [tl_sI' b.1]
    exact numL_4 (by omega)
  rw [List.length_map, List.length_map] at q
  have h16 := R.hi
  show _ ≤ 80
  have e : ([32] : List Nat).length = 1 := rfl
  rw [e] at q
  omega
def sp_read (K : PySem.W.Frag) : Sp := fun vs H Q _ => ∃ (ns : List Int), vs = [.str (Str.join (Str.ofString " ") (ns.map sI))] ∧ GR.Ring ns ∧
  ∀ H' p, Same H H' → H p = none → H' p = some (.lst (vi ns)) → Q (.ref p) H'
theorem ok_read (T : Txt K mg) : FnOk P w K mg base CX0 2 T.f_read T.d_read ["text"] (sp_read K) := by
  refine T.F_read.ok sc_read (fun vs H Q E h => ?_) (fun cdv A outer s H vs Q E hr h => ?_)
  · obtain ⟨ns, rfl, _⟩ := h
    rfl
  · obtain ⟨ns, rfl, R, q⟩ := h
    have R16 := R.hi
    have jl := join_len R
    refine ⟨_, (pss_cons (ps_setLc (i := 1) (own := [("word", 2)]) (g := gName 2) (tt := tYes) rfl sc_read.nd rfl rfl (sw_true rfl rfl rfl (by decide +kernel)) (pi_list (pe_split (pv 0) pe_str)) (blkOk_by (own := [("word", 2)]) (N := N_read) (sc := defScope s_read) (by decide +kernel)) (fun _ _ _ _ _ => (pg_name (i := 2) sc_read.nd rfl (Or.inl rfl))) (fun _ _ _ _ _ => pts_nil) (fun _ _ _ _ _ => (pe_call (ok_number_of T) (hr.mono (by decide)) (by rfl) T.g_number_of T.F_number_of.kp T.b_number_of .nil pass0 (pa_cons (pv 2) pa_nil))))
      (pss_cons (ps_expr (pe_call (ok_asked T) (hr.mono (by decide)) (by rfl) T.g_asked T.F_asked.kp T.b_asked .nil pass0 (pa_cons (pv 1) pa_nil)))
      (pss_one (ps_ret (pv 1))))), ?_⟩
    refine ⟨_, rfl, ⟨_, rfl⟩, _, _, rfl, rfl, by decide +kernel, line_le (by omega), fun p np => ?_⟩
    rw [split_back R]
    have sp := Same.new (o := .lst ((ns.map sI).map V.str)) np
    have hp : SqL K (upd H p (.lst ((ns.map sI).map V.str))) p ((ns.map sI).map V.str) := SqL.of upd_same
    refine ⟨p, rfl, ⟨_, hp⟩, fun D nD => ?_⟩
    refine lc_intsL (a := p) (xs := (ns.map sI).map V.str) (fun i z => z = ns.getD i 0) hp nD (by rw [List.length_map, List.length_map]; omega) (fun i x H' hi sm Q' hQ => ?_) (fun H' zs hl hR sm e => ?_)
    · rw [List.map_map, List.getElem?_map] at hi
      have hil : i < ns.length := by
        rcases Nat.lt_or_ge i ns.length with c | c
        · exact c
        · rw [List.getElem?_eq_none c] at hi
          cases hi
      rw [getD_some hil] at hi
      have ex : x = .str (sI (ns.getD i 0)) := (Option.some.inj hi).symm
      subst ex
      have b := R.bd _ (GR.getD_mem hil)
      obtain ⟨n, hn⟩ : ∃ n : Nat, ns.getD i 0 = (n : Int) := ⟨(ns.getD i 0).toNat, by omega⟩
      rw [hn] at b hQ ⊢
      exact ⟨_, rfl, n, rfl, by omega, hQ _ rfl⟩
    · rw [List.length_map, List.length_map] at hl hR
      have ezs : zs = ns := GR.list_ext' hl fun k hk => hR k (by omega)
      subst ezs
      refine ⟨_, rfl, D, zs, rfl, SqL.of e, R, _, rfl, ?_⟩
      exact q H' D (sp.trans sm) (sp.free nD) e
/-! ### the law -/
def sp_law (K : PySem.W.Frag) : Sp := fun vs H Q _ => ∃ (a : Addr) (ns : List Int), vs = [.ref a] ∧ SqL K H a (ns.map V.int) ∧ ns.length ≤ 63 ∧ ∀ H', Q (.bl true) H'
theorem at_blank (i : Nat) : atI ([.str (Str.ofString " "), .str (Str.ofString "")] : List V) (if decide (V.int ((0 : Int) + (i : Int)) = V.int 0) = true then 1 else 0) = some (.str (if i = 0 then Str.ofString "" else Str.ofString " ")) := by
  by_cases c : i = 0
  · rw [if_pos c, decide_eq_true (vint (by omega)), if_pos rfl]
    rfl
  · rw [if_neg c, decide_eq_false (vint_ne (by omega)), if_neg (by decide)]
    rfl
theorem join_step {rs : List Int} {i : Nat} (hi : i < rs.length) {d : Str} (e : d = (if i = 0 then Str.ofString "" else Str.join (Str.ofString " ") ((rs.take i).map sI))) :
    d ++ (if i = 0 then Str.ofString "" else Str.ofString " ") ++ sI (rs.getD i 0) = Str.join (Str.ofString " ") ((rs.take (i + 1)).map sI) := by
  rw [List.take_add_one, getD_some hi, List.map_append]
  by_cases c : i = 0
  · subst c
    rw [if_pos rfl] at e ⊢
    rw [e, empty_append, empty_append]
    rfl
  · rw [if_neg c] at e ⊢
    rw [e]
    refine (join_snoc _ _ _ (fun z => ?_)).symm
    have := congrArg List.length z
    rw [List.length_map, List.length_take] at this
    have q : min i rs.length = 0 := this
    omega
theorem str_len (x y : Str) : (x ++ y).length = x.length + y.length := by
  rw [len_tl, len_tl, len_tl, tl_append, List.length_append]
theorem ok_law (T : Txt K mg) : FnOk P w K mg base CX0 4 T.f_law T.d_law ["script"] (sp_law K) := by
  refine T.F_law.ok sc_law (fun vs H Q E h => ?_) (fun cdv A outer s H vs Q E hr h => ?_)
  · obtain ⟨a, ns, rfl, _⟩ := h
    rfl
  · obtain ⟨a, ns, rfl, hS, hlen, q⟩ := h
    refine ⟨_, (pss_cons (ps_set (i := 1) sc_law.nd rfl (.inl rfl) (pe_call (ok_l_ring_by T) (hr.mono (by decide)) (by rfl) T.g_l_ring_by T.F_l_ring_by.kp T.b_l_ring_by .nil pass0 (pa_cons (pv 0) (pa_cons pe_int pa_nil))))
      (pss_cons (ps_set (i := 2) sc_law.nd rfl (.inl rfl) pe_str)
      (pss_cons (ps_for PassesOwn.never rfl (pi_range1 (by rfl) T.z_range (pa_cons (pe_callB (lenL K rfl) (by rfl) T.z_len bt_len (pa_cons (pv 1) pa_nil)) pa_nil)) (pg_name (i := 3) sc_law.nd rfl (.inl rfl)) (pss_one (ps_set (i := 2) sc_law.nd rfl (.inl rfl) (pe_op op_add_str (pe_op op_add_str (pv 2) (pe_ix (ixL K rfl) (pe_lst (pa_cons pe_str (pa_cons pe_str pa_nil))) (pe_callTy call_int1 (by rfl) T.z_int bt_int (pa_cons (pe_cmpR op_eq (pv 3) pe_int (nomark _)) pa_nil)) (fun _ _ => rfl))) (pe_callTy call_str_int (by rfl) T.z_str bt_str (pa_cons (pe_ix (ixL K rfl) (pv 1) (pv 3) (fun _ _ => rfl)) pa_nil))))))
      (pss_cons (ps_set (i := 4) sc_law.nd rfl (.inl rfl) (pe_callTy (listL K rfl) (by rfl) T.z_list bt_list (pa_cons (pv 1) pa_nil)))
      (pss_cons (ps_set (i := 5) sc_law.nd rfl (.inl rfl) (pe_call (ok_shown T) (hr.mono (by decide)) (by rfl) T.g_shown T.F_shown.kp T.b_shown .nil pass0 (pa_cons (pv 4) pa_nil)))
      (pss_cons (ps_if (PW.pt (pw_or (pt_not (pt_val (pe_callB (isiL K rfl) (by rfl) T.z_isinstance bt_isinstance (pa_cons (pv 5) (pa_cons (pe_cls T.z_str bt_str) pa_nil))))) (pw_or (pt_cmpR op_ne (pv 5) (pv 2) (nomark _)) (pw_or1 (pt_cmpR (op_neD hr.units) (pv 4) (pv 1) (nomark _)))))) (pss_one (ps_ret pe_bl)) pss_nil)
      (pss_cons (ps_set (i := 6) sc_law.nd rfl (.inl rfl) (pe_call (ok_read T) (hr.mono (by decide)) (by rfl) T.g_read T.F_read.kp T.b_read .nil pass0 (pa_cons (pv 2) pa_nil)))
      (pss_cons (ps_if (pt_not (pt_val (pe_call (ok_l_is T) (hr.mono (by decide)) (by rfl) T.g_l_is T.F_l_is.kp T.b_l_is .nil pass0 (pa_cons (pv 6) (pa_cons (pv 1) pa_nil))))) (pss_one (ps_ret pe_bl)) pss_nil)
      (pss_cons (ps_expr (pe_bm0 PySem.F.plainAttrs_list PySem.F.slot_list_clear PySem.F.type_list_clear mt_clear (pv 6)))
      (pss_one (ps_ret (pe_call (ok_l_is T) (hr.mono (by decide)) (by rfl) T.g_l_is T.F_l_is.kp T.b_l_is .nil pass0 (pa_cons (pe_call (ok_read T) (hr.mono (by decide)) (by rfl) T.g_read T.F_read.kp T.b_read .nil pass0 (pa_cons (pv 2) pa_nil)) (pa_cons (pv 1) pa_nil)))))))))))))), ?_⟩
    refine ⟨_, rfl, a, ns, 0, rfl, hS, by decide, fun H1 r rs s1 nr er R => ?_⟩
    have R3 := R.lo
    have R16 := R.hi
    -- due, grown
    refine ⟨_, rfl, r, _, rfl, .inl (SqL.of er), _, rfl, by rw [vi_len]; omega, by rw [vi_len]; omega, for_range (lo := 0) (n := _) (fun i σ G => ∃ (d : Str) (v : Option V), σ = [some (.ref a), some (.ref r), some (.str d), v, none, none, none] ∧ Same H1 G ∧ d = (if i = 0 then Str.ofString "" else Str.join (Str.ofString " ") ((rs.take i).map sI)) ∧ d.length ≤ 6 * i)
      ⟨_, none, rfl, Same.refl _, by rw [if_pos rfl], by decide +kernel⟩ ?_ ?_⟩
    · rintro i σ G hi ⟨d, v, rfl, sg, ed, hdl⟩
      rw [vi_len] at hi
      have hi : i < rs.length := by omega
      have er' := sg _ _ er
      have b := R.bd _ (GR.getD_mem hi)
      have hlog : (rs.getD i 0).natAbs.log2 < 1920 := by
        have h1 : (rs.getD i 0).natAbs < 2 ^ 1920 := Nat.lt_of_le_of_lt (show (rs.getD i 0).natAbs ≤ 1000 by omega) (by decide)
        by_cases z0 : (rs.getD i 0).natAbs = 0
        · rw [z0]
          decide
        · exact (Nat.log2_lt z0).mpr h1
      have l1 : (if i = 0 then Str.ofString "" else Str.ofString " " : Str).length ≤ 1 := by
        split <;> decide +kernel
      have l4 : (sI (rs.getD i 0)).length ≤ 4 := by
        rw [len_tl, tl_sI' b.1]
        exact numL_4 (by omega)
      refine ⟨_, rfl, by show 2 ≤ sizeLine; decide, fun B nB => ?_⟩
      have sB := Same.new (o := .lst [.str (Str.ofString " "), .str (Str.ofString "")]) nB
      refine ⟨_, rfl, rfl, .inr ⟨_, rfl, B, _, _, _, rfl, rfl, SqL.of upd_same, at_blank i, _, _, rfl, rfl, line_le (by omega), ?_⟩⟩
      refine ⟨_, rfl, _, rfl, r, _, _, _, rfl, rfl, SqL.of (sB _ _ er'), atI_of (j := i) (by omega) (vi_nth hi), _, rfl, hlog, _, _, rfl, rfl, line_le (by rw [str_len]; show _ + (sI (rs.getD i 0)).length ≤ _; omega), ?_⟩
      refine ⟨_, _, rfl, sg.trans sB, ?_, ?_⟩
      · rw [if_neg (Nat.succ_ne_zero i)]
        exact join_step hi ed
      · show (d ++ (if i = 0 then Str.ofString "" else Str.ofString " ") ++ sI (rs.getD i 0)).length ≤ 6 * (i + 1)
        rw [str_len, str_len]
        omega
    · rintro σ G ⟨d, v, rfl, sg, ed, hdl⟩
      have en : ((vi rs).length : Int).toNat = rs.length := by rw [vi_len]; omega
      rw [en] at ed
      rw [if_neg (by omega), List.take_length] at ed
      subst ed
      have er2 := sg _ _ er
      refine ⟨_, rfl, r, _, rfl, .inl (SqL.of er2), fun h nh => ?_⟩
      have sh := Same.new (o := .lst (vi rs)) nh
      refine ⟨_, rfl, h, rs, rfl, SqL.of upd_same, R, fun H3 s3 => ?_⟩
      have eh3 := s3 _ _ (upd_same : upd G h (.lst (vi rs)) h = _)
      have er3 := s3 _ _ (sh _ _ er2)
      refine ⟨_, rfl, _, _, _, _, true, rfl, .ty "str", .base (.str _), kit_ty (by decide +kernel), _, rfl, iteF ?_⟩
      refine ⟨_, rfl, _, rfl, rfl, _, rfl, ifnN rfl ?_⟩
      refine ⟨_, rfl, _, rfl, neL (SqL.of eh3) (SqL.of er3) ⟨_, rfl, ifnN rfl ?_⟩⟩
      -- found = read(due)
      refine ⟨_, rfl, rs, rfl, R, fun H4 f s4 nf ef => ?_⟩
      have er4 := s4 _ _ er3
      refine ⟨_, rfl, _, rfl, f, r, _, _, rfl, ef, SqL.of er4, _, rfl, ?_⟩
      rw [decide_eq_true rfl]
      refine iteF ?_
      refine ⟨_, rfl, .inl ⟨rfl, _, SqL.of ef⟩, f, _, rfl, rfl, ef, ?_⟩
      have nfr : r ≠ f := ne_of_none er3 nf
      have er5 := at_ne (o := .lst []) er4 nfr
      refine ⟨_, rfl, rs, rfl, R, fun H6 g s6 ng eg => ⟨_, rfl, g, r, _, _, rfl, eg, SqL.of (s6 _ _ er5), ?_⟩⟩
      rw [decide_eq_true rfl]
      exact q _
end
/-! ### what the top has written; the law's own head -/
theorem all_mk {l : PySem.W.OpenLaw} {w : World} {K : PySem.W.Frag} {h : Heap} {mg : Str → Option Value} {fa : Addr} (X : K.In h) (G : h.Ns mainGlobals mg) (hfa : mg "law" = some (.ref fa))
    {f_asked : Addr} {od_asked an_asked : Option Addr} {sl_asked : Array (Option Value)} {oc_asked kV_asked dc_asked pm_asked cd_asked ct_asked : Value}
    (a_asked : PySem.W.nsIn K mainGlobals "asked" = some (some (.ref f_asked))) (l_asked : K.lookup f_asked = some ⟨oc_asked, od_asked, .func (PySem.W.fnOf "asked" "asked" (defArgs s_asked) (defBody s_asked) (defScope s_asked) .none kV_asked dc_asked pm_asked an_asked cd_asked ct_asked), sl_asked⟩) (co_asked : PySem.W.codeIn K cd_asked "asked" = true) (k_asked : PySem.W.keepIn K (.ref f_asked) = true)
    {f_shown : Addr} {od_shown an_shown : Option Addr} {sl_shown : Array (Option Value)} {oc_shown kV_shown dc_shown pm_shown cd_shown ct_shown : Value}
    (a_shown : PySem.W.nsIn K mainGlobals "shown" = some (some (.ref f_shown))) (l_shown : K.lookup f_shown = some ⟨oc_shown, od_shown, .func (PySem.W.fnOf "shown" "shown" (defArgs s_shown) (defBody s_shown) (defScope s_shown) .none kV_shown dc_shown pm_shown an_shown cd_shown ct_shown), sl_shown⟩) (co_shown : PySem.W.codeIn K cd_shown "shown" = true) (k_shown : PySem.W.keepIn K (.ref f_shown) = true)
    {f_number_of : Addr} {od_number_of an_number_of : Option Addr} {sl_number_of : Array (Option Value)} {oc_number_of kV_number_of dc_number_of pm_number_of cd_number_of ct_number_of : Value}
    (a_number_of : PySem.W.nsIn K mainGlobals "number_of" = some (some (.ref f_number_of))) (l_number_of : K.lookup f_number_of = some ⟨oc_number_of, od_number_of, .func (PySem.W.fnOf "number_of" "number_of" (defArgs s_number_of) (defBody s_number_of) (defScope s_number_of) .none kV_number_of dc_number_of pm_number_of an_number_of cd_number_of ct_number_of), sl_number_of⟩) (co_number_of : PySem.W.codeIn K cd_number_of "number_of" = true) (k_number_of : PySem.W.keepIn K (.ref f_number_of) = true)
    {f_read : Addr} {od_read an_read : Option Addr} {sl_read : Array (Option Value)} {oc_read kV_read dc_read pm_read cd_read ct_read : Value}
    (a_read : PySem.W.nsIn K mainGlobals "read" = some (some (.ref f_read))) (l_read : K.lookup f_read = some ⟨oc_read, od_read, .func (PySem.W.fnOf "read" "read" (defArgs s_read) (defBody s_read) (defScope s_read) .none kV_read dc_read pm_read an_read cd_read ct_read), sl_read⟩) (co_read : PySem.W.codeIn K cd_read "read" = true) (k_read : PySem.W.keepIn K (.ref f_read) = true)
    {f_l_cell_at : Addr} {od_l_cell_at an_l_cell_at : Option Addr} {sl_l_cell_at : Array (Option Value)} {oc_l_cell_at kV_l_cell_at dc_l_cell_at pm_l_cell_at cd_l_cell_at ct_l_cell_at : Value}
    (a_l_cell_at : PySem.W.nsIn K mainGlobals "_law_cell_at" = some (some (.ref f_l_cell_at))) (l_l_cell_at : K.lookup f_l_cell_at = some ⟨oc_l_cell_at, od_l_cell_at, .func (PySem.W.fnOf "_law_cell_at" "_law_cell_at" (defArgs s_l_cell_at) (defBody s_l_cell_at) (defScope s_l_cell_at) .none kV_l_cell_at dc_l_cell_at pm_l_cell_at an_l_cell_at cd_l_cell_at ct_l_cell_at), sl_l_cell_at⟩) (co_l_cell_at : PySem.W.codeIn K cd_l_cell_at "_law_cell_at" = true) (k_l_cell_at : PySem.W.keepIn K (.ref f_l_cell_at) = true)
    {f_l_draw : Addr} {od_l_draw an_l_draw : Option Addr} {sl_l_draw : Array (Option Value)} {oc_l_draw kV_l_draw dc_l_draw pm_l_draw cd_l_draw ct_l_draw : Value}
    (a_l_draw : PySem.W.nsIn K mainGlobals "_law_draw" = some (some (.ref f_l_draw))) (l_l_draw : K.lookup f_l_draw = some ⟨oc_l_draw, od_l_draw, .func (PySem.W.fnOf "_law_draw" "_law_draw" (defArgs s_l_draw) (defBody s_l_draw) (defScope s_l_draw) .none kV_l_draw dc_l_draw pm_l_draw an_l_draw cd_l_draw ct_l_draw), sl_l_draw⟩) (co_l_draw : PySem.W.codeIn K cd_l_draw "_law_draw" = true) (k_l_draw : PySem.W.keepIn K (.ref f_l_draw) = true)
    {f_l_whole : Addr} {od_l_whole an_l_whole : Option Addr} {sl_l_whole : Array (Option Value)} {oc_l_whole kV_l_whole dc_l_whole pm_l_whole cd_l_whole ct_l_whole : Value}
    (a_l_whole : PySem.W.nsIn K mainGlobals "_law_whole" = some (some (.ref f_l_whole))) (l_l_whole : K.lookup f_l_whole = some ⟨oc_l_whole, od_l_whole, .func (PySem.W.fnOf "_law_whole" "_law_whole" (defArgs s_l_whole) (defBody s_l_whole) (defScope s_l_whole) .none kV_l_whole dc_l_whole pm_l_whole an_l_whole cd_l_whole ct_l_whole), sl_l_whole⟩) (co_l_whole : PySem.W.codeIn K cd_l_whole "_law_whole" = true) (k_l_whole : PySem.W.keepIn K (.ref f_l_whole) = true)
    {f_l_ring_by : Addr} {od_l_ring_by an_l_ring_by : Option Addr} {sl_l_ring_by : Array (Option Value)} {oc_l_ring_by kV_l_ring_by dc_l_ring_by pm_l_ring_by cd_l_ring_by ct_l_ring_by : Value}
    (a_l_ring_by : PySem.W.nsIn K mainGlobals "_law_ring_by" = some (some (.ref f_l_ring_by))) (l_l_ring_by : K.lookup f_l_ring_by = some ⟨oc_l_ring_by, od_l_ring_by, .func (PySem.W.fnOf "_law_ring_by" "_law_ring_by" (defArgs s_l_ring_by) (defBody s_l_ring_by) (defScope s_l_ring_by) .none kV_l_ring_by dc_l_ring_by pm_l_ring_by an_l_ring_by cd_l_ring_by ct_l_ring_by), sl_l_ring_by⟩) (co_l_ring_by : PySem.W.codeIn K cd_l_ring_by "_law_ring_by" = true) (k_l_ring_by : PySem.W.keepIn K (.ref f_l_ring_by) = true)
    {f_l_is : Addr} {od_l_is an_l_is : Option Addr} {sl_l_is : Array (Option Value)} {oc_l_is kV_l_is dc_l_is pm_l_is cd_l_is ct_l_is : Value}
    (a_l_is : PySem.W.nsIn K mainGlobals "_law_is" = some (some (.ref f_l_is))) (l_l_is : K.lookup f_l_is = some ⟨oc_l_is, od_l_is, .func (PySem.W.fnOf "_law_is" "_law_is" (defArgs s_l_is) (defBody s_l_is) (defScope s_l_is) .none kV_l_is dc_l_is pm_l_is an_l_is cd_l_is ct_l_is), sl_l_is⟩) (co_l_is : PySem.W.codeIn K cd_l_is "_law_is" = true) (k_l_is : PySem.W.keepIn K (.ref f_l_is) = true)
    {f_law : Addr} {od_law an_law : Option Addr} {sl_law : Array (Option Value)} {oc_law kV_law dc_law pm_law cd_law ct_law : Value}
    (a_law : PySem.W.nsIn K mainGlobals "law" = some (some (.ref f_law))) (l_law : K.lookup f_law = some ⟨oc_law, od_law, .func (PySem.W.fnOf "law" "law" (defArgs s_law) (defBody s_law) (defScope s_law) .none kV_law dc_law pm_law an_law cd_law ct_law), sl_law⟩) (co_law : PySem.W.codeIn K cd_law "law" = true) (k_law : PySem.W.keepIn K (.ref f_law) = true)
    {t_FEWEST : Tok} (c_FEWEST : PySem.W.nsIn K mainGlobals "FEWEST" = some (some (.int 3 t_FEWEST)))
    {t_MOST : Tok} (c_MOST : PySem.W.nsIn K mainGlobals "MOST" = some (some (.int 16 t_MOST)))
    {t_GREATEST : Tok} (c_GREATEST : PySem.W.nsIn K mainGlobals "GREATEST" = some (some (.int 1000 t_GREATEST)))
    {t_FIGURES : Tok} (c_FIGURES : PySem.W.nsIn K mainGlobals "FIGURES" = some (some (.str "0123456789" t_FIGURES)))
    (z_bool : PySem.W.nsIn K mainGlobals "bool" = some none)
    (z_int : PySem.W.nsIn K mainGlobals "int" = some none)
    (z_isinstance : PySem.W.nsIn K mainGlobals "isinstance" = some none)
    (z_len : PySem.W.nsIn K mainGlobals "len" = some none)
    (z_list : PySem.W.nsIn K mainGlobals "list" = some none)
    (z_range : PySem.W.nsIn K mainGlobals "range" = some none)
    (z_str : PySem.W.nsIn K mainGlobals "str" = some none)
    : ∃ fd : FuncData, (∀ (s : Shared) (v : Value), BindsTo s fd ⟨[v], []⟩ [("script", v)]) ∧ ∀ base : Heap, K.In base → base.Ns mainGlobals mg → FnOk l.prog w K mg base CX0 4 fa fd ["script"] (sp_law K) := by
  have e := hfa.symm.trans (PySem.W.mg_of X G a_law)
  cases e
  have F_asked := fun_mk (st := s_asked) l_asked co_asked k_asked
  have b_asked := F_asked.binds (ps := ["ring"]) fun _ _ _ _ _ _ us hl => match us, hl with | [_], _ => rfl
  have F_shown := fun_mk (st := s_shown) l_shown co_shown k_shown
  have b_shown := F_shown.binds (ps := ["ring"]) fun _ _ _ _ _ _ us hl => match us, hl with | [_], _ => rfl
  have F_number_of := fun_mk (st := s_number_of) l_number_of co_number_of k_number_of
  have b_number_of := F_number_of.binds (ps := ["word"]) fun _ _ _ _ _ _ us hl => match us, hl with | [_], _ => rfl
  have F_read := fun_mk (st := s_read) l_read co_read k_read
  have b_read := F_read.binds (ps := ["text"]) fun _ _ _ _ _ _ us hl => match us, hl with | [_], _ => rfl
  have F_l_cell_at := fun_mk (st := s_l_cell_at) l_l_cell_at co_l_cell_at k_l_cell_at
  have b_l_cell_at := F_l_cell_at.binds (ps := ["script", "k"]) fun _ _ _ _ _ _ us hl => match us, hl with | [_, _], _ => rfl
  have F_l_draw := fun_mk (st := s_l_draw) l_l_draw co_l_draw k_l_draw
  have b_l_draw := F_l_draw.binds (ps := ["cell", "k", "bound"]) fun _ _ _ _ _ _ us hl => match us, hl with | [_, _, _], _ => rfl
  have F_l_whole := fun_mk (st := s_l_whole) l_l_whole co_l_whole k_l_whole
  have b_l_whole := F_l_whole.binds (ps := ["found"]) fun _ _ _ _ _ _ us hl => match us, hl with | [_], _ => rfl
  have F_l_ring_by := fun_mk (st := s_l_ring_by) l_l_ring_by co_l_ring_by k_l_ring_by
  have b_l_ring_by := F_l_ring_by.binds (ps := ["script", "first"]) fun _ _ _ _ _ _ us hl => match us, hl with | [_, _], _ => rfl
  have F_l_is := fun_mk (st := s_l_is) l_l_is co_l_is k_l_is
  have b_l_is := F_l_is.binds (ps := ["found", "due"]) fun _ _ _ _ _ _ us hl => match us, hl with | [_, _], _ => rfl
  have F_law := fun_mk (st := s_law) l_law co_law k_law
  have b_law := F_law.binds (ps := ["script"]) fun _ _ _ _ _ _ us hl => match us, hl with | [_], _ => rfl
  let T : Txt K mg := {
    f_asked := _, d_asked := _, F_asked := F_asked, b_asked := b_asked, g_asked := PySem.W.mg_of X G a_asked,
    f_shown := _, d_shown := _, F_shown := F_shown, b_shown := b_shown, g_shown := PySem.W.mg_of X G a_shown,
    f_number_of := _, d_number_of := _, F_number_of := F_number_of, b_number_of := b_number_of, g_number_of := PySem.W.mg_of X G a_number_of,
    f_read := _, d_read := _, F_read := F_read, b_read := b_read, g_read := PySem.W.mg_of X G a_read,
    f_l_cell_at := _, d_l_cell_at := _, F_l_cell_at := F_l_cell_at, b_l_cell_at := b_l_cell_at, g_l_cell_at := PySem.W.mg_of X G a_l_cell_at,
    f_l_draw := _, d_l_draw := _, F_l_draw := F_l_draw, b_l_draw := b_l_draw, g_l_draw := PySem.W.mg_of X G a_l_draw,
    f_l_whole := _, d_l_whole := _, F_l_whole := F_l_whole, b_l_whole := b_l_whole, g_l_whole := PySem.W.mg_of X G a_l_whole,
    f_l_ring_by := _, d_l_ring_by := _, F_l_ring_by := F_l_ring_by, b_l_ring_by := b_l_ring_by, g_l_ring_by := PySem.W.mg_of X G a_l_ring_by,
    f_l_is := _, d_l_is := _, F_l_is := F_l_is, b_l_is := b_l_is, g_l_is := PySem.W.mg_of X G a_l_is,
    f_law := _, d_law := _, F_law := F_law, b_law := b_law, g_law := PySem.W.mg_of X G a_law,
    c_FEWEST := ⟨_, PySem.W.mg_of X G c_FEWEST⟩,
    c_MOST := ⟨_, PySem.W.mg_of X G c_MOST⟩,
    c_GREATEST := ⟨_, PySem.W.mg_of X G c_GREATEST⟩,
    c_FIGURES := ⟨_, PySem.W.mg_of X G c_FIGURES⟩,
    z_bool := PySem.W.mg_none_of X G z_bool,
    z_int := PySem.W.mg_none_of X G z_int,
    z_isinstance := PySem.W.mg_none_of X G z_isinstance,
    z_len := PySem.W.mg_none_of X G z_len,
    z_list := PySem.W.mg_none_of X G z_list,
    z_range := PySem.W.mg_none_of X G z_range,
    z_str := PySem.W.mg_none_of X G z_str }
  exact ⟨PySem.W.fnOf "law" "law" (defArgs s_law) (defBody s_law) (defScope s_law) .none kV_law dc_law pm_law an_law cd_law ct_law, fun s v => .of_eq rfl, fun base _ _ => ok_law T⟩
end GK
open PySem PySem.W PyProof.Rows
set_option maxHeartbeats 0 in
theorem PySem.Challenge.cw_gapring_k15_written_holds : PySem.Challenge.rw_gapring_k15_written.Holds := by
  w_on; o_law; k_head; (case hw => w_witness2)
  k_fill
  refine L2.walk_of (l := PySem.Challenge.rw_gapring_k15_written) (n := 63) (k := 4) (x := "script") (CX := fun _ => L2.CX0) (sp := fun w => GK.sp_law _) rfl (by decide) rfl ⟨rfl, by decide, by decide⟩ (fun w h Y => PySem.W.kIn_of Y) ?F (fun _ _ a ns hl _ hS => ⟨a, ns, rfl, hS, hl, fun _ => rfl⟩) (fun _ _ _ _ _ h => h)
  case F =>
    intro w mg fa h KX G hmg
    refine' GK.all_mk KX G hmg ?a_asked ?l_asked ?co_asked ?k_asked ?a_shown ?l_shown ?co_shown ?k_shown ?a_number_of ?l_number_of ?co_number_of ?k_number_of ?a_read ?l_read ?co_read ?k_read ?a_l_cell_at ?l_l_cell_at ?co_l_cell_at ?k_l_cell_at ?a_l_draw ?l_l_draw ?co_l_draw ?k_l_draw ?a_l_whole ?l_l_whole ?co_l_whole ?k_l_whole ?a_l_ring_by ?l_l_ring_by ?co_l_ring_by ?k_l_ring_by ?a_l_is ?l_l_is ?co_l_is ?k_l_is ?a_law ?l_law ?co_law ?k_law ?c_FEWEST ?c_MOST ?c_GREATEST ?c_FIGURES ?z_bool ?z_int ?z_isinstance ?z_len ?z_list ?z_range ?z_str
    (case a_asked => k_is)
    (case l_asked => k_is)
    (case co_asked => k_is)
    (case k_asked => k_is)
    (case a_shown => k_is)
    (case l_shown => k_is)
    (case co_shown => k_is)
    (case k_shown => k_is)
    (case a_number_of => k_is)
    (case l_number_of => k_is)
    (case co_number_of => k_is)
    (case k_number_of => k_is)
    (case a_read => k_is)
    (case l_read => k_is)
    (case co_read => k_is)
    (case k_read => k_is)
    (case a_l_cell_at => k_is)
    (case l_l_cell_at => k_is)
    (case co_l_cell_at => k_is)
    (case k_l_cell_at => k_is)
    (case a_l_draw => k_is)
    (case l_l_draw => k_is)
    (case co_l_draw => k_is)
    (case k_l_draw => k_is)
    (case a_l_whole => k_is)
    (case l_l_whole => k_is)
    (case co_l_whole => k_is)
    (case k_l_whole => k_is)
    (case a_l_ring_by => k_is)
    (case l_l_ring_by => k_is)
    (case co_l_ring_by => k_is)
    (case k_l_ring_by => k_is)
    (case a_l_is => k_is)
    (case l_l_is => k_is)
    (case co_l_is => k_is)
    (case k_l_is => k_is)
    (case a_law => k_is)
    (case l_law => k_is)
    (case co_law => k_is)
    (case k_law => k_is)
    (case c_FEWEST => k_is)
    (case c_MOST => k_is)
    (case c_GREATEST => k_is)
    (case c_FIGURES => k_is)
    (case z_bool => k_is)
    (case z_int => k_is)
    (case z_isinstance => k_is)
    (case z_len => k_is)
    (case z_list => k_is)
    (case z_range => k_is)
    (case z_str => k_is)
