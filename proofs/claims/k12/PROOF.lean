import PyProof.Rows.All
import Wide.All
import OpenK.AllK
import Wide.FinOn
import PySem.Challenge.RW_gapring_k12_whole_turned
import HandS.ForMost
import HandS.IsInst
import KE.KDictDisplayH
import HandS.Rev
set_option Elab.async false
set_option linter.all false
set_option maxRecDepth 100000
set_option maxHeartbeats 8000000
/-! Rings of numbers and their gaps: plain mathematics. -/
namespace GR
abbrev Fn := Int → Int
def D (r : Fn) : Fn := fun i => ((r i - r (i + 1)).natAbs : Int)
def itD : Nat → Fn → Fn
  | 0, r => r
  | t + 1, r => itD t (D r)
theorem itD_add (t u : Nat) (r : Fn) : itD (t + u) r = itD u (itD t r) := by
  induction t generalizing r with
  | zero => rw [Nat.zero_add]; rfl
  | succ t ih => rw [Nat.succ_add]; exact ih (D r)
theorem itD_succ (t : Nat) (r : Fn) : itD (t + 1) r = D (itD t r) := itD_add t 1 r
/-! ### lists -/
def gp (ns : List Int) : List Int := (List.range ns.length).map fun k => ((ns.getD k 0 - ns.getD ((k + 1) % ns.length) 0).natAbs : Int)
def it : Nat → List Int → List Int
  | 0, l => l
  | t + 1, l => it t (gp l)
theorem it_add (t u : Nat) (r : List Int) : it (t + u) r = it u (it t r) := by
  induction t generalizing r with
  | zero => rw [Nat.zero_add]; rfl
  | succ t ih => rw [Nat.succ_add]; exact ih (gp r)
theorem it_succ (t : Nat) (r : List Int) : it (t + 1) r = gp (it t r) := it_add t 1 r
theorem gp_length (ns : List Int) : (gp ns).length = ns.length := by
  unfold gp
  rw [List.length_map, List.length_range]
theorem it_length (t : Nat) (ns : List Int) : (it t ns).length = ns.length := by
  induction t generalizing ns with
  | zero => rfl
  | succ t ih => exact (ih (gp ns)).trans (gp_length ns)
theorem gp_get {ns : List Int} {k : Nat} (h : k < ns.length) : (gp ns).getD k 0 = ((ns.getD k 0 - ns.getD ((k + 1) % ns.length) 0).natAbs : Int) := by
  unfold gp
  rw [List.getD_eq_getElem?_getD, List.getElem?_map, List.getElem?_range h]
  rfl
/-- a list, round and round -/
def fn (ns : List Int) : Fn := fun i => ns.getD (i % (ns.length : Int)).toNat 0
theorem fn_nat {ns : List Int} {k : Nat} (h : k < ns.length) : fn ns (k : Int) = ns.getD k 0 := by
  unfold fn
  have e : ((k : Int) % (ns.length : Int)).toNat = k := by
    rw [← Int.natCast_emod, Int.toNat_natCast]
    exact Nat.mod_eq_of_lt h
  rw [e]
theorem fn_per (ns : List Int) (i : Int) : fn ns (i + ns.length) = fn ns i := by
  unfold fn
  rw [Int.add_emod_right]
theorem fn_mod (ns : List Int) (i : Int) : fn ns (i % (ns.length : Int)) = fn ns i := by
  unfold fn
  rw [Int.emod_emod]
theorem fn_at {ns : List Int} (h : 0 < ns.length) (i : Int) : ∃ k, k < ns.length ∧ ((k : Int) = i % (ns.length : Int)) ∧ fn ns i = ns.getD k 0 := by
  have h0 : (0 : Int) ≤ i % (ns.length : Int) := Int.emod_nonneg _ (by omega)
  have h1 : i % (ns.length : Int) < (ns.length : Int) := Int.emod_lt_of_pos _ (by omega)
  refine ⟨(i % (ns.length : Int)).toNat, by omega, by omega, rfl⟩
theorem list_ext {ns ms : List Int} (hl : ns.length = ms.length) (h : fn ns = fn ms) : ns = ms := by
  apply List.ext_getElem hl
  intro k h1 h2
  have e := congrFun h (k : Int)
  rw [fn_nat h1, fn_nat h2] at e
  rw [List.getD_eq_getElem?_getD, List.getD_eq_getElem?_getD, List.getElem?_eq_getElem h1, List.getElem?_eq_getElem h2] at e
  exact e
theorem list_ext' {ns ms : List Int} (hl : ns.length = ms.length) (h : ∀ k, k < ns.length → ns.getD k 0 = ms.getD k 0) : ns = ms := by
  apply List.ext_getElem hl
  intro k h1 h2
  have e := h k h1
  rw [List.getD_eq_getElem?_getD, List.getD_eq_getElem?_getD, List.getElem?_eq_getElem h1, List.getElem?_eq_getElem h2] at e
  exact e
theorem fn_gp (ns : List Int) : fn (gp ns) = D (fn ns) := by
  by_cases h : 0 < ns.length
  · funext i
    obtain ⟨k, hk, ek, e⟩ := fn_at (ns := gp ns) (by rw [gp_length]; exact h) i
    rw [gp_length] at hk ek
    rw [e, gp_get hk]
    unfold D
    have e1 : fn ns i = ns.getD k 0 := by
      rw [← fn_mod, ← ek, fn_nat hk]
    have hm : (k + 1) % ns.length < ns.length := Nat.mod_lt _ h
    have e2 : fn ns (i + 1) = ns.getD ((k + 1) % ns.length) 0 := by
      rw [← fn_nat hm, Int.natCast_emod, fn_mod, ← fn_mod ns (i + 1), ← fn_mod ns (((k + 1 : Nat) : Int))]
      congr 1
      rw [Int.natCast_add, ek]
      exact (Int.emod_add_emod i (ns.length : Int) 1).symm
    rw [e1, e2]
  · have e : ns = [] := List.length_eq_zero_iff.mp (by omega)
    subst e
    funext i
    show fn [] i = D (fn []) i
    unfold D fn
    simp
theorem fn_it (t : Nat) (ns : List Int) : fn (it t ns) = itD t (fn ns) := by
  induction t generalizing ns with
  | zero => rfl
  | succ t ih =>
    show fn (it t (gp ns)) = itD t (D (fn ns))
    rw [ih, fn_gp]
/-! ### bounds -/
def Bd (m : Int) (r : Fn) : Prop := ∀ i, 0 ≤ r i ∧ r i ≤ m
theorem Bd.D {m : Int} {r : Fn} (h : Bd m r) : Bd m (D r) := fun i => by
  have h1 := h i
  have h2 := h (i + 1)
  unfold GR.D
  omega
theorem Bd.itD {m : Int} {r : Fn} (h : Bd m r) (t : Nat) : Bd m (itD t r) := by
  induction t generalizing r with
  | zero => exact h
  | succ t ih => exact ih h.D
def Bl (m : Int) (ns : List Int) : Prop := ∀ x ∈ ns, 0 ≤ x ∧ x ≤ m
theorem Bl.get {m : Int} {ns : List Int} (h : Bl m ns) {k : Nat} (hk : k < ns.length) : 0 ≤ ns.getD k 0 ∧ ns.getD k 0 ≤ m := by
  rw [List.getD_eq_getElem?_getD, List.getElem?_eq_getElem hk]
  exact h _ (List.getElem_mem hk)
theorem Bl.fn {m : Int} {ns : List Int} (h : Bl m ns) (hp : 0 < ns.length) : Bd m (fn ns) := fun i => by
  obtain ⟨k, hk, _, e⟩ := fn_at hp i
  rw [e]
  exact h.get hk
theorem mem_getD {ns : List Int} {x : Int} (h : x ∈ ns) : ∃ k, k < ns.length ∧ ns.getD k 0 = x := by
  obtain ⟨k, hk, e⟩ := List.getElem_of_mem h
  refine ⟨k, hk, ?_⟩
  rw [List.getD_eq_getElem?_getD, List.getElem?_eq_getElem hk]
  exact e
theorem getD_mem {ns : List Int} {k : Nat} (hk : k < ns.length) : ns.getD k 0 ∈ ns := by
  rw [List.getD_eq_getElem?_getD, List.getElem?_eq_getElem hk]
  exact List.getElem_mem hk
theorem Bl.of_fn {m : Int} {ns : List Int} (h : Bd m (GR.fn ns)) : Bl m ns := fun x hx => by
  obtain ⟨k, hk, e⟩ := mem_getD hx
  have q := h (k : Int)
  rw [fn_nat hk, e] at q
  exact q
theorem Bl.gp {m : Int} {ns : List Int} (h : Bl m ns) : Bl m (gp ns) := by
  by_cases hp : 0 < ns.length
  · refine Bl.of_fn ?_
    rw [fn_gp]
    exact (h.fn hp).D
  · have e : ns = [] := List.length_eq_zero_iff.mp (by omega)
    subst e
    exact fun x hx => nomatch hx
theorem Bl.it {m : Int} {ns : List Int} (h : Bl m ns) (t : Nat) : Bl m (it t ns) := by
  induction t generalizing ns with
  | zero => exact h
  | succ t ih => exact ih h.gp
structure Ring (ns : List Int) : Prop where
  lo : 3 ≤ ns.length
  hi : ns.length ≤ 16
  bd : Bl 1000 ns
theorem Ring.gpR {ns : List Int} (R : Ring ns) : Ring (gp ns) := ⟨by rw [gp_length]; exact R.lo, by rw [gp_length]; exact R.hi, R.bd.gp⟩
theorem Ring.itR {ns : List Int} (R : Ring ns) (t : Nat) : Ring (it t ns) := ⟨by rw [it_length]; exact R.lo, by rw [it_length]; exact R.hi, R.bd.it t⟩
theorem Ring.pos {ns : List Int} (R : Ring ns) : 0 < ns.length := Nat.lt_of_lt_of_le (by decide) R.lo
/-! ### every ring comes to a flat one -/
theorem itD_le {m : Int} {r : Fn} (h : Bd m r) (k : Nat) (i : Int) : ∃ j : Int, i ≤ j ∧ j ≤ i + k ∧ itD k r i ≤ r j := by
  induction k generalizing r with
  | zero => exact ⟨i, Int.le_refl _, by omega, Int.le_refl _⟩
  | succ k ih =>
    obtain ⟨j, h1, h2, h3⟩ := ih h.D
    have a := h j
    have b := h (j + 1)
    have e : D r j = ((r j - r (j + 1)).natAbs : Int) := rfl
    by_cases c : r j ≤ r (j + 1)
    · exact ⟨j + 1, by omega, by omega, by show itD k (D r) i ≤ r (j + 1); omega⟩
    · exact ⟨j, by omega, by omega, by show itD k (D r) i ≤ r j; omega⟩
def Two (m : Int) (r : Fn) (i j : Int) : Prop := ∀ l, i ≤ l → l ≤ j → r l = 0 ∨ r l = m
theorem two_up {m : Int} {r : Fn} (h : Bd m r) {i : Int} {k : Nat} (hd : Two m (D r) i (i + k)) {j : Int} (h1 : i ≤ j) (hj : r j = 0 ∨ r j = m) (n : Nat) (h2 : j + n ≤ i + k + 1) : r (j + n) = 0 ∨ r (j + n) = m := by
  induction n with
  | zero => simpa using hj
  | succ n ih =>
    have q := ih (by omega)
    have d := hd (j + n) (by omega) (by omega)
    have e : D r (j + n) = ((r (j + n) - r (j + n + 1)).natAbs : Int) := rfl
    have b := h (j + n + 1)
    have b0 := h (j + n)
    have e1 : j + ((n + 1 : Nat) : Int) = j + n + 1 := by omega
    rw [e1]
    omega
theorem two_down {m : Int} {r : Fn} (h : Bd m r) {i : Int} {k : Nat} (hd : Two m (D r) i (i + k)) {j : Int} (hj : r j = 0 ∨ r j = m) (h2 : j ≤ i + k + 1) (n : Nat) (h1 : i ≤ j - n) : r (j - n) = 0 ∨ r (j - n) = m := by
  induction n with
  | zero => simpa using hj
  | succ n ih =>
    have q := ih (by omega)
    have d := hd (j - n - 1) (by omega) (by omega)
    have e : D r (j - n - 1) = ((r (j - n - 1) - r (j - n - 1 + 1)).natAbs : Int) := rfl
    have e0 : j - n - 1 + 1 = j - n := by omega
    rw [e0] at e
    have b := h (j - n - 1)
    have b0 := h (j - n)
    have e1 : j - ((n + 1 : Nat) : Int) = j - n - 1 := by omega
    rw [e1]
    omega
theorem two_of {m : Int} {r : Fn} (h : Bd m r) (hm : 0 < m) (k : Nat) (i : Int) (e : itD k r i = m) : Two m r i (i + k) := by
  induction k generalizing r with
  | zero =>
    intro l h1 h2
    have z : l = i := by omega
    subst z
    exact .inr e
  | succ k ih =>
    have hd : Two m (D r) i (i + k) := ih h.D e
    obtain ⟨j, h1, h2, h3⟩ := itD_le h.D k i
    have e' : itD k (D r) i = m := e
    have b := h.D j
    have ej : D r j = m := by omega
    have ej' : D r j = ((r j - r (j + 1)).natAbs : Int) := rfl
    have b1 := h j
    have b2 := h (j + 1)
    have z : r j = 0 ∨ r j = m := by omega
    intro l hl1 hl2
    by_cases c : j ≤ l
    · have q := two_up h hd h1 z (l - j).toNat (by omega)
      have e1 : j + ((l - j).toNat : Int) = l := by omega
      rw [e1] at q
      exact q
    · have q := two_down h hd z (by omega) (j - l).toNat (by omega)
      have e1 : j - ((j - l).toNat : Int) = l := by omega
      rw [e1] at q
      exact q
def Flat (m : Int) (r : Fn) : Prop := ∀ i, r i = 0 ∨ r i = m
theorem Flat.D {m : Int} {r : Fn} (hm : 0 ≤ m) (h : Flat m r) : Flat m (D r) := fun i => by
  have h1 := h i
  have h2 := h (i + 1)
  unfold GR.D
  omega
theorem Flat.itD {m : Int} {r : Fn} (hm : 0 ≤ m) (h : Flat m r) (t : Nat) : Flat m (itD t r) := by
  induction t generalizing r with
  | zero => exact h
  | succ t ih => exact ih (h.D hm)
def Per (n : Nat) (r : Fn) : Prop := ∀ i, r (i + n) = r i
theorem Per.D {n : Nat} {r : Fn} (h : Per n r) : Per n (D r) := fun i => by
  unfold GR.D
  rw [h i, show i + (n : Int) + 1 = (i + 1) + n by omega, h (i + 1)]
theorem Per.itD {n : Nat} {r : Fn} (h : Per n r) (t : Nat) : Per n (itD t r) := by
  induction t generalizing r with
  | zero => exact h
  | succ t ih => exact ih h.D
theorem Per.mul {n : Nat} {r : Fn} (h : Per n r) (k : Nat) (i : Int) : r (i + k * n) = r i := by
  induction k with
  | zero => simp
  | succ k ih =>
    rw [show i + ((k + 1 : Nat) : Int) * n = (i + k * n) + n by rw [Int.natCast_add, Int.add_mul]; omega, h, ih]
theorem Per.mod {n : Nat} {r : Fn} (h : Per n r) (i : Int) : r (i % n) = r i := by
  have e := Int.emod_add_mul_ediv i n
  by_cases c : 0 ≤ i / n
  · have q := h.mul (i / n).toNat (i % n)
    rw [Int.toNat_of_nonneg c, Int.mul_comm (i / (n : Int)) (n : Int), e] at q
    exact q.symm
  · have q := h.mul (-(i / n)).toNat i
    rw [Int.toNat_of_nonneg (by omega), Int.neg_mul, Int.mul_comm (i / (n : Int)) (n : Int)] at q
    rw [← q]
    congr 1
    omega
theorem Per.win {n : Nat} {r : Fn} (h : Per n r) (hn : 0 < n) (i l : Int) : ∃ j, i ≤ j ∧ j < i + n ∧ r l = r j := by
  refine ⟨i + (l - i) % n, ?_, ?_, ?_⟩
  · have := Int.emod_nonneg (l - i) (b := (n : Int)) (by omega)
    omega
  · have := Int.emod_lt_of_pos (l - i) (b := (n : Int)) (by omega)
    omega
  · have s : Per n (fun x => r (i + x)) := fun x => by
      show r (i + (x + n)) = r (i + x)
      rw [← Int.add_assoc]
      exact h _
    have q := s.mod (l - i)
    have e : i + (l - i) = l := by omega
    simp only [e] at q
    exact q.symm
theorem flat_step {m : Int} {n : Nat} {r : Fn} (h : Bd (m + 1) r) (hm : 0 ≤ m) (hp : Per n r) (hn : 0 < n) (k : Nat) (hk : n ≤ k + 1) : Flat (m + 1) r ∨ Bd m (itD k r) := by
  by_cases c : ∃ i, itD k r i = m + 1
  · obtain ⟨i, e⟩ := c
    refine .inl fun l => ?_
    obtain ⟨j, h1, h2, h3⟩ := hp.win hn i l
    rw [h3]
    exact two_of h (by omega) k i e j h1 (by omega)
  · refine .inr fun i => ?_
    have b := h.itD k i
    have q : itD k r i ≠ m + 1 := fun z => c ⟨i, z⟩
    omega
theorem flat_by {n : Nat} {r : Fn} (hp : Per n r) (hn : 0 < n) (hn16 : n ≤ 16) (m : Nat) (h : Bd m r) : ∃ c : Int, 0 ≤ c ∧ c ≤ m ∧ Flat c (itD (15 * m) r) := by
  induction m generalizing r with
  | zero =>
    refine ⟨0, Int.le_refl _, by simp, fun i => ?_⟩
    have q := h i
    show r i = 0 ∨ r i = 0
    have z : ((0 : Nat) : Int) = 0 := rfl
    omega
  | succ m ih =>
    rcases flat_step (m := m) (k := 15) h (by omega) hp hn (by omega) with f | b
    · exact ⟨(m : Int) + 1, by omega, by omega, f.itD (by omega) _⟩
    · obtain ⟨c, h1, h2, h3⟩ := ih (hp.itD 15) b
      refine ⟨c, h1, by omega, ?_⟩
      rw [show 15 * (m + 1) = 15 + 15 * m by omega, itD_add]
      exact h3
/-! ### drawers -/
theorem drawers : ∀ (N n : Nat) (f : Nat → Nat), (∀ i, i < n → f i < N) → (∀ i j, i < j → j < n → f i ≠ f j) → n ≤ N
  | 0, n, f, h, _ => by
    cases n with
    | zero => exact Nat.le_refl _
    | succ n => exact absurd (h 0 (by omega)) (by omega)
  | N + 1, n, f, h, q => by
    cases n with
    | zero => exact Nat.zero_le _
    | succ n =>
      have r := drawers N n (fun i => if f i > f n then f i - 1 else f i) (fun i hi => by
          have a := h i (by omega)
          have b := h n (by omega)
          have c := q i n hi (by omega)
          show (if f i > f n then f i - 1 else f i) < N
          split <;> omega) (fun i j hij hj => by
          have a := q i j hij (by omega)
          have b := q i n (by omega) (by omega)
          have c := q j n (by omega) (by omega)
          show (if f i > f n then f i - 1 else f i) ≠ (if f j > f n then f j - 1 else f j)
          split <;> split <;> omega)
      omega
def code : List Int → Nat
  | [] => 0
  | x :: r => (if x = 0 then 0 else 1) + 2 * code r
theorem code_lt (l : List Int) : code l < 2 ^ l.length := by
  induction l with
  | nil => decide
  | cons x r ih =>
    show (if x = 0 then 0 else 1) + 2 * code r < 2 ^ (r.length + 1)
    rw [Nat.pow_succ]
    split <;> omega
theorem code_inj {c : Int} : ∀ {l m : List Int}, l.length = m.length → (∀ x ∈ l, x = 0 ∨ x = c) → (∀ x ∈ m, x = 0 ∨ x = c) → code l = code m → l = m
  | [], [], _, _, _, _ => rfl
  | x :: l, y :: m, hl, h1, h2, e => by
    have e : (if x = 0 then 0 else 1) + 2 * code l = (if y = 0 then 0 else 1) + 2 * code m := e
    have hx := h1 x (by simp)
    have hy := h2 y (by simp)
    have ec : code l = code m := by
      split at e <;> split at e <;> omega
    have exy : x = y := by
      rw [ec] at e
      split at e <;> split at e <;> omega
    rw [exy, code_inj (by simpa using hl) (fun z hz => h1 z (by simp [hz])) (fun z hz => h2 z (by simp [hz])) ec]
/-! ### the walk: how far all rings are unlike, and the place of the one that comes again -/
structure Wk (ns : List Int) (L T : Nat) : Prop where
  inj : ∀ i j, i < j → j < L → it i ns ≠ it j ns
  lt : T < L
  eq : it L ns = it T ns
theorem wk_or (ns : List Int) (n : Nat) : (∀ i j, i < j → j < n → it i ns ≠ it j ns) ∨ ∃ L T, L < n ∧ Wk ns L T := by
  induction n with
  | zero => exact .inl fun i j _ h => absurd h (Nat.not_lt_zero _)
  | succ n ih =>
    rcases ih with h | ⟨L, T, a, b⟩
    · by_cases c : ∃ i, i < n ∧ it n ns = it i ns
      · obtain ⟨i, hi, e⟩ := c
        exact .inr ⟨n, i, Nat.lt_succ_self n, h, hi, e⟩
      · refine .inl fun i j hij hj => ?_
        by_cases z : j = n
        · subst z
          exact fun e => c ⟨i, hij, e.symm⟩
        · exact h i j hij (by omega)
    · exact .inr ⟨L, T, by omega, b⟩
theorem Ring.flat {ns : List Int} (R : Ring ns) : ∃ c : Int, 0 ≤ c ∧ c ≤ 1000 ∧ ∀ t, 15000 ≤ t → Flat c (fn (it t ns)) := by
  obtain ⟨c, h1, h2, h3⟩ := flat_by (n := ns.length) (r := fn ns) (fn_per ns) R.pos R.hi 1000 (R.bd.fn R.pos)
  refine ⟨c, h1, by omega, fun t ht => ?_⟩
  rw [fn_it, show t = 15 * 1000 + (t - 15000) by omega, itD_add]
  exact h3.itD h1 _
theorem Flat.mem {c : Int} {ns : List Int} (h : Flat c (fn ns)) : ∀ x ∈ ns, x = 0 ∨ x = c := fun x hx => by
  obtain ⟨k, hk, e⟩ := mem_getD hx
  have q := h (k : Int)
  rw [fn_nat hk, e] at q
  exact q
theorem Ring.bound {ns : List Int} (R : Ring ns) {n : Nat} (h : ∀ i j, i < j → j < n → it i ns ≠ it j ns) : n ≤ 80536 := by
  obtain ⟨c, h1, h2, h3⟩ := R.flat
  have q := drawers 65536 (n - 15000) (fun i => code (it (15000 + i) ns)) (fun i hi => by
      have a := code_lt (it (15000 + i) ns)
      rw [it_length] at a
      exact Nat.lt_of_lt_of_le a (Nat.pow_le_pow_right (by decide) R.hi)) (fun i j hij hj e => by
      refine h (15000 + i) (15000 + j) (by omega) (by omega) (code_inj (c := c) (by rw [it_length, it_length]) (h3 _ (by omega)).mem (h3 _ (by omega)).mem e))
  omega
theorem Ring.walk {ns : List Int} (R : Ring ns) : ∃ L T, L ≤ 80536 ∧ Wk ns L T := by
  rcases wk_or ns 80537 with h | ⟨L, T, a, b⟩
  · have := R.bound h
    omega
  · exact ⟨L, T, by omega, b⟩
theorem Wk.unique {ns : List Int} {L T L' T' : Nat} (w : Wk ns L T) (w' : Wk ns L' T') : L = L' ∧ T = T' := by
  have e : L = L' := by
    rcases Nat.lt_trichotomy L L' with h | h | h
    · exact absurd w.eq.symm (w'.inj T L w.lt h)
    · exact h
    · exact absurd w'.eq.symm (w.inj T' L' w'.lt h)
  subst e
  refine ⟨rfl, ?_⟩
  have e2 : it T ns = it T' ns := w.eq.symm.trans w'.eq
  rcases Nat.lt_trichotomy T T' with h | h | h
  · exact absurd e2 (w.inj T T' h w'.lt)
  · exact h
  · exact absurd e2.symm (w.inj T' T h w.lt)
theorem Wk.le {ns : List Int} {L T : Nat} (w : Wk ns L T) (R : Ring ns) : L ≤ 80536 := R.bound w.inj
theorem it_shift {ns : List Int} {t p : Nat} (h : it (t + p) ns = it t ns) (u : Nat) (hu : t ≤ u) : it (u + p) ns = it u ns := by
  rw [show u + p = (t + p) + (u - t) by omega, it_add, h, ← it_add]
  congr 1
  omega
theorem it_shift_mul {ns : List Int} {t p : Nat} (h : it (t + p) ns = it t ns) (k : Nat) (u : Nat) (hu : t ≤ u) : it (u + k * p) ns = it u ns := by
  induction k with
  | zero => simp
  | succ k ih =>
    rw [show u + (k + 1) * p = (u + k * p) + p by rw [Nat.succ_mul]; omega, it_shift h _ (by omega), ih]
theorem Wk.per {ns : List Int} {L T : Nat} (w : Wk ns L T) : it (T + (L - T)) ns = it T ns := by
  have h := w.lt
  rw [show T + (L - T) = L by omega]
  exact w.eq
theorem Wk.red {ns : List Int} {L T t : Nat} (w : Wk ns L T) (h : T ≤ t) : it (T + (t - T) % (L - T)) ns = it t ns := by
  have e := Nat.mod_add_div (t - T) (L - T)
  have q := it_shift_mul w.per ((t - T) / (L - T)) (T + (t - T) % (L - T)) (by omega)
  rw [← q]
  congr 1
  rw [Nat.mul_comm]
  omega
/-- every ring behind some turns stands in the walk -/
theorem Wk.all {ns : List Int} {L T : Nat} (w : Wk ns L T) (t : Nat) : ∃ i, i < L ∧ it i ns = it t ns := by
  by_cases h : t < L
  · exact ⟨t, h, rfl⟩
  · have hl := w.lt
    refine ⟨T + (t - T) % (L - T), ?_, w.red (by omega)⟩
    have := Nat.mod_lt (t - T) (show 0 < L - T by omega)
    omega
/-- the tail: the least number of turns behind which a ring comes that comes again -/
theorem Wk.tail {ns : List Int} {L T t p : Nat} (w : Wk ns L T) (hp : 0 < p) (h : it (t + p) ns = it t ns) : T ≤ t := by
  refine Nat.le_of_not_lt fun c => ?_
  -- t < T: t itself stands alone among the first L; but it t = it (t + k p) for all k
  have hl := w.lt
  have q := it_shift_mul h L t (Nat.le_refl _)
  have hb : T ≤ t + L * p := by
    have : L * 1 ≤ L * p := Nat.mul_le_mul_left L hp
    omega
  have r := w.red hb
  rw [q] at r
  have m := Nat.mod_lt (t + L * p - T) (show 0 < L - T by omega)
  exact w.inj t (T + (t + L * p - T) % (L - T)) (by omega) (by omega) r.symm
theorem Wk.wheel {ns : List Int} {L T t p : Nat} (w : Wk ns L T) (h : it (t + p) ns = it t ns) (ht : T ≤ t) : (L - T) ∣ p := by
  have hl := w.lt
  have e1 := w.red (t := t) ht
  have e2 := w.red (t := t + p) (by omega)
  rw [h, ← e1] at e2
  have m1 := Nat.mod_lt (t - T) (show 0 < L - T by omega)
  have m2 := Nat.mod_lt (t + p - T) (show 0 < L - T by omega)
  have e3 : (t + p - T) % (L - T) = (t - T) % (L - T) := by
    rcases Nat.lt_trichotomy ((t + p - T) % (L - T)) ((t - T) % (L - T)) with c | c | c
    · exact absurd e2 (w.inj _ _ (by omega) (by omega))
    · exact c
    · exact absurd e2.symm (w.inj _ _ (by omega) (by omega))
  have e4 : (t + p - T) = (t - T) + p := by omega
  rw [e4] at e3
  have e5 : ((t - T) + p - (t - T)) % (L - T) = 0 := by
    have := Nat.sub_mod_eq_zero_of_mod_eq e3
    exact this
  rw [show (t - T) + p - (t - T) = p by omega] at e5
  exact Nat.dvd_of_mod_eq_zero e5
theorem Wk.mk_of {ns : List Int} {T P : Nat} (hp : 0 < P) (he : it (T + P) ns = it T ns) (ht : ∀ t p, 0 < p → it (t + p) ns = it t ns → T ≤ t) (hw : ∀ p, 0 < p → it (T + p) ns = it T ns → P ≤ p) : Wk ns (T + P) T := by
  refine ⟨fun i j hij hj e => ?_, by omega, he⟩
  have h1 : it (i + (j - i)) ns = it i ns := by
    rw [show i + (j - i) = j by omega]
    exact e.symm
  have h2 := ht i (j - i) (by omega) h1
  -- behind T the period is P
  have h3 := it_shift h1 (T + (P - (i - T) + (i - T)) - 0) (by omega)
  have h4 : it (T + (j - i)) ns = it T ns := by
    have a := it_shift_mul he (i + 1) T (Nat.le_refl _)
    have hb : i ≤ T + (i + 1) * P := by
      have : (i + 1) * 1 ≤ (i + 1) * P := Nat.mul_le_mul_left (i + 1) hp
      omega
    have b := it_shift h1 (T + (i + 1) * P) hb
    have c := it_shift_mul he (i + 1) (T + (j - i)) (by omega)
    rw [show T + (i + 1) * P + (j - i) = T + (j - i) + (i + 1) * P by omega, c, a] at b
    exact b
  have h5 := hw (j - i) (by omega) h4
  omega
end GR
/-! ### small words over the hand layer -/
namespace GL
open PySem PySem.Spec PyProof.Rows L2
theorem bt_len : bootBuiltins "len" = some (.builtin "len") := by decide +kernel
theorem bt_abs : bootBuiltins "abs" = some (.builtin "abs") := by decide +kernel
theorem bt_max : bootBuiltins "max" = some (.builtin "max") := by decide +kernel
theorem bt_min : bootBuiltins "min" = some (.builtin "min") := by decide +kernel
theorem bt_sum : bootBuiltins "sum" = some (.builtin "sum") := by decide +kernel
theorem bt_isinstance : bootBuiltins "isinstance" = some (.builtin "isinstance") := by decide +kernel
theorem bt_int : bootBuiltins "int" = some (.type "int") := by decide +kernel
theorem bt_bool : bootBuiltins "bool" = some (.type "bool") := by decide +kernel
theorem bt_str : bootBuiltins "str" = some (.type "str") := by decide +kernel
theorem bt_list : bootBuiltins "list" = some (.type "list") := by decide +kernel
theorem bt_tuple : bootBuiltins "tuple" = some (.type "tuple") := by decide +kernel
theorem bt_zip : bootBuiltins "zip" = some (.type "zip") := by decide +kernel
theorem bt_reversed : bootBuiltins "reversed" = some (.type "reversed") := by decide +kernel
theorem bt_ValueError : bootBuiltins "ValueError" = some (.type "ValueError") := by decide +kernel
theorem ifN {c : Prop} [Decidable c] {A B : Prop} (hc : ¬ c) (h : B) : if decide c = true then A else B := by
  rw [decide_eq_false hc]
  exact iteF h
theorem ifY {c : Prop} [Decidable c] {A B : Prop} (hc : c) (h : A) : if decide c = true then A else B := by
  rw [decide_eq_true hc]
  exact iteT h
theorem if2 {c : Prop} [Decidable c] {A B : Prop} (h1 : c → A) (h2 : ¬ c → B) : if decide c = true then A else B := by
  by_cases h : c
  · exact ifY h (h1 h)
  · exact ifN h (h2 h)
theorem ifnN {c : Prop} [Decidable c] {A B : Prop} (hc : c) (h : B) : if (!decide c) = true then A else B := by
  rw [decide_eq_true hc]
  exact iteF h
theorem ifnY {c : Prop} [Decidable c] {A B : Prop} (hc : ¬ c) (h : A) : if (!decide c) = true then A else B := by
  rw [decide_eq_false hc]
  exact iteT h
theorem if2B {c : Bool} {A B : Prop} (h1 : c = true → A) (h2 : c = false → B) : if c = true then A else B := by
  cases c with
  | true => exact iteT (h1 rfl)
  | false => exact iteF (h2 rfl)
theorem vint {i j : Int} (h : i = j) : V.int i = V.int j := by rw [h]
theorem vint_ne {i j : Int} (h : i ≠ j) : V.int i ≠ V.int j := fun e => h (V.int.inj e)
/-- what holds behind a statement, said once for all its ways -/
theorem cut {t u : TS} {D : Ends} {σ : L2.St} {H : Hp} (P : L2.St → Hp → Prop) (h1 : ∀ N : L2.St → Hp → Prop, (∀ σ' H', P σ' H' → N σ' H') → t { D with nx := N } σ H) (h2 : ∀ σ' H', P σ' H' → u D σ' H') : tSeq t u D σ H := h1 (u D) h2
/-! ### heaps -/
theorem _root_.L2.Same.new {H : Hp} {p : Addr} {o : HO} (h : H p = none) : Same H (upd H p o) := fun b x e => by
  rw [upd_ne (ne_of_none e h)]
  exact e
theorem _root_.L2.Same.put {H H' : Hp} {p : Addr} {o : HO} (s : Same H H') (h : H p = none) : Same H (upd H' p o) := fun b x e => by
  rw [upd_ne (ne_of_none e h)]
  exact s b x e
theorem _root_.L2.Same.none {H H' : Hp} (s : Same H H') {p : Addr} (h : H' p = none) : H p = none := s.free h
theorem _root_.L2.Same.sqT {K : PySem.W.Frag} {H H' : Hp} {a : Addr} {xs : List V} (e : Same H H') (h : SqT K H a xs) : SqT K H' a xs := by
  rcases h with (h | ⟨o, h⟩) | h
  · exact .inl (.inl (e _ _ h))
  · exact .inl (.inr ⟨o, e _ _ h⟩)
  · exact .inr h
theorem new_ne {H : Hp} {u v : Addr} {o : HO} (h : upd H u o v = none) : u ≠ v := fun z => by
  rw [z, upd_same] at h
  cases h
theorem new_old {H : Hp} {u v : Addr} {o : HO} (h : upd H u o v = none) : H v = none := by
  rw [upd_ne (new_ne h).symm] at h
  exact h
/-- an own list is changed: what was there ahead of it stands -/
theorem _root_.L2.Same.own {H H' : Hp} {p : Addr} {o : HO} (s : Same H H') (h : H p = none) : Same H (upd H' p o) := s.put h
theorem at_ne {H : Hp} {a p : Addr} {o : HO} {x : Option HO} (h : H a = x) (ne : a ≠ p) : upd H p o a = x := by
  rw [upd_ne ne]
  exact h
/-! ### lists of ints -/
abbrev vi (ns : List Int) : List V := ns.map V.int
theorem vi_at {ns : List Int} {i : Nat} {x : V} (h : (vi ns)[i]? = some x) : ∃ z, ns[i]? = some z ∧ x = .int z := by
  rw [List.getElem?_map] at h
  cases e : ns[i]? with
  | none => rw [e] at h; cases h
  | some z => rw [e] at h; exact ⟨z, rfl, (Option.some.inj h).symm⟩
theorem vi_get {ns : List Int} {i : Nat} {z : Int} (h : ns[i]? = some z) : (vi ns)[i]? = some (.int z) := by
  rw [List.getElem?_map, h]
  rfl
theorem vi_len (ns : List Int) : (vi ns).length = ns.length := List.length_map _
theorem getD_some {ns : List Int} {k : Nat} (h : k < ns.length) : ns[k]? = some (ns.getD k 0) := by
  rw [List.getD_eq_getElem?_getD, List.getElem?_eq_getElem h]
  rfl
theorem vi_nth {ns : List Int} {k : Nat} (h : k < ns.length) : (vi ns)[k]? = some (.int (ns.getD k 0)) := vi_get (getD_some h)
theorem atI_of {xs : List V} {i : Int} {j : Nat} {v : V} (e : i = (j : Int)) (h : xs[j]? = some v) : atI xs i = some v := by
  rw [e]
  exact atI_nat h
theorem atI_neg {xs : List V} {v : V} (h : xs[xs.length - 1]? = some v) : atI xs (-1) = some v := by
  have hl : 0 < xs.length := by
    rcases Nat.eq_zero_or_pos xs.length with z | z
    · rw [List.getElem?_eq_none (by omega)] at h
      cases h
    · exact z
  unfold atI ixN
  rw [if_neg (by decide), if_pos (by omega)]
  have e : (-1 + (xs.length : Int)).toNat = xs.length - 1 := by omega
  rw [e]
  exact h
theorem abs_eq (i : Int) : (if i < 0 then -i else i) = (i.natAbs : Int) := by
  split <;> omega
theorem line_lt {n : Nat} (h : n ≤ 1000000) : n < sizeLine := Nat.lt_of_le_of_lt h (by decide)
theorem line_le {n : Nat} (h : n ≤ 1000000) : n ≤ sizeLine := Nat.le_of_lt (line_lt h)
/-- a list of ints as plain data -/
def dI (ns : List Int) : PyData := .list (ns.map PyData.int)
theorem dp_vi {K : PySem.W.Frag} {H : Hp} : ∀ ns : List Int, DpAll K H (vi ns) (ns.map PyData.int)
  | [] => .nil
  | x :: r => .cons (.int x) (dp_vi r)
theorem dp_list {K : PySem.W.Frag} {H : Hp} {a : Addr} {ns : List Int} (h : SqL K H a (vi ns)) : Dp K H (.ref a) (dI ns) := .lst h (dp_vi ns)
/-! ### comprehensions whose elements change nothing -/
theorem wipe1 (σ : L2.St) (v : Nat) (x : Option V) : wipe ((wipe σ [v]).set v x) [v] = wipe σ [v] := by
  show ((σ.set v none).set v x).set v none = σ.set v none
  rw [List.set_set, List.set_set]
theorem yes_of {σ : L2.St} {H : Hp} {Q : Bool → Hp → Prop} (h : Q true H) : tYes σ H Q := h
theorem lc_grow {lo : Int} {n : Nat} {te : TE} {v : Nat} {σ : L2.St} {H1 : Hp} {D : Addr} {Qd : Hp → Prop} (R : Nat → V → Prop) (nD : H1 D = none) (hn : n ≤ 1000)
    (hs : ∀ i H', i < n → Same H1 H' → ∀ Q' : VK, (∀ y H2, Same H' H2 → R i y → Q' y H2) → te ((wipe σ [v]).set v (some (.int (lo + i)))) H' Q')
    (hd : ∀ H' ys, ys.length = n → (∀ i y, ys[i]? = some y → R i y) → Same H1 H' → H' D = some (.lst ys) → Qd H') :
    ∃ W : Nat → Nat → Hp → Prop, (∃ m, W 0 m (upd H1 D (.lst []))) ∧ ∀ i m H, W i m H →
      ((Itr lo n).stop i H ∧ Qd H) ∨ ((Itr lo n).go i H ∧ ∃ Nx : Hp → Prop, (∀ H', Nx H' → ∃ m', m' < m ∧ W (i + 1) m' H') ∧ ∀ x H', (Itr lo n).yld i H x H' → gName v x (wipe σ [v]) H' fun σ2 H2 => wipe σ2 [v] = wipe σ [v] ∧ tYes σ2 H2 fun b H3 =>
        if b = true then te σ2 H3 fun y H4 => ∃ acc, H4 D = some (.lst acc) ∧ acc.length < sizeLine ∧ Nx (upd H4 D (.lst (acc ++ [y]))) else Nx H3) := by
  refine lc_range (lo := lo) (n := n) (fun i H' => Same H1 H' ∧ ∃ ys, H' D = some (.lst ys) ∧ ys.length = i ∧ ∀ j y, ys[j]? = some y → R j y) ⟨Same.new nD, [], upd_same, rfl, fun j y h => by simp at h⟩ ?_ ?_
  · rintro i H' hi ⟨sm, ys, eD, hl, hR⟩
    refine ⟨wipe1 _ _ _, ?_⟩
    refine yes_of ?_
    refine iteT (hs i H' hi sm _ fun y H4 s4 hy => ⟨ys, s4 _ _ eD, line_lt (by omega), (sm.trans s4).put nD, ys ++ [y], upd_same, by rw [List.length_append, hl]; rfl, fun j z hz => ?_⟩)
    by_cases c : j < ys.length
    · rw [List.getElem?_append_left c] at hz
      exact hR j z hz
    · rw [List.getElem?_append_right (by omega)] at hz
      have e0 : j - ys.length = 0 := by
        rcases Nat.eq_zero_or_pos (j - ys.length) with q | q
        · exact q
        · rw [List.getElem?_eq_none (by simp only [List.length_cons, List.length_nil]; omega)] at hz
          cases hz
      rw [e0] at hz
      have ez : y = z := Option.some.inj hz
      have ej : j = i := by omega
      rw [← ez, ej]
      exact hy
  · rintro H' ⟨sm, ys, eD, hl, hR⟩
    exact hd H' ys hl hR sm eD
theorem lc_pure {lo : Int} {n : Nat} {te : TE} {v : Nat} {σ : L2.St} {H1 : Hp} {D : Addr} {Qd : Hp → Prop} (R : Nat → V → Prop) (nD : H1 D = none) (hn : n ≤ 1000)
    (hs : ∀ i H', i < n → Same H1 H' → ∀ Q' : VK, (∀ y, R i y → Q' y H') → te ((wipe σ [v]).set v (some (.int (lo + i)))) H' Q')
    (hd : ∀ H' ys, ys.length = n → (∀ i y, ys[i]? = some y → R i y) → Same H1 H' → H' D = some (.lst ys) → Qd H') :
    ∃ W : Nat → Nat → Hp → Prop, (∃ m, W 0 m (upd H1 D (.lst []))) ∧ ∀ i m H, W i m H →
      ((Itr lo n).stop i H ∧ Qd H) ∨ ((Itr lo n).go i H ∧ ∃ Nx : Hp → Prop, (∀ H', Nx H' → ∃ m', m' < m ∧ W (i + 1) m' H') ∧ ∀ x H', (Itr lo n).yld i H x H' → gName v x (wipe σ [v]) H' fun σ2 H2 => wipe σ2 [v] = wipe σ [v] ∧ tYes σ2 H2 fun b H3 =>
        if b = true then te σ2 H3 fun y H4 => ∃ acc, H4 D = some (.lst acc) ∧ acc.length < sizeLine ∧ Nx (upd H4 D (.lst (acc ++ [y]))) else Nx H3) :=
  lc_grow R nD hn (fun i H' hi sm Q' hQ => hs i H' hi sm Q' fun y hy => hQ y H' (Same.refl _) hy) hd
theorem lc_pureL {K : PySem.W.Frag} {a : Addr} {xs : List V} {te : TE} {v : Nat} {σ : L2.St} {H1 : Hp} {D : Addr} {Qd : Hp → Prop} (R : Nat → V → Prop) (hA : SqL K H1 a xs) (nD : H1 D = none) (hn : xs.length ≤ 1000)
    (hs : ∀ i x H', xs[i]? = some x → Same H1 H' → ∀ Q' : VK, (∀ y, R i y → Q' y H') → te ((wipe σ [v]).set v (some x)) H' Q')
    (hd : ∀ H' ys, ys.length = xs.length → (∀ i y, ys[i]? = some y → R i y) → Same H1 H' → H' D = some (.lst ys) → Qd H') :
    ∃ W : Nat → Nat → Hp → Prop, (∃ m, W 0 m (upd H1 D (.lst []))) ∧ ∀ i m H, W i m H →
      ((Itl K a).stop i H ∧ Qd H) ∨ ((Itl K a).go i H ∧ ∃ Nx : Hp → Prop, (∀ H', Nx H' → ∃ m', m' < m ∧ W (i + 1) m' H') ∧ ∀ x H', (Itl K a).yld i H x H' → gName v x (wipe σ [v]) H' fun σ2 H2 => wipe σ2 [v] = wipe σ [v] ∧ tYes σ2 H2 fun b H3 =>
        if b = true then te σ2 H3 fun y H4 => ∃ acc, H4 D = some (.lst acc) ∧ acc.length < sizeLine ∧ Nx (upd H4 D (.lst (acc ++ [y]))) else Nx H3) := by
  refine lc_list (K := K) (a := a) (xs := xs) (fun i H' => Same H1 H' ∧ ∃ ys, H' D = some (.lst ys) ∧ ys.length = i ∧ ∀ j y, ys[j]? = some y → R j y) ⟨Same.new nD, [], upd_same, rfl, fun j y h => by simp at h⟩ (fun i H' _ h => h.1.seq hA) ?_ ?_
  · rintro i x H' hi ⟨sm, ys, eD, hl, hR⟩
    have hil : i < xs.length := (List.getElem?_eq_some_iff.mp hi).1
    refine ⟨wipe1 _ _ _, ?_⟩
    refine yes_of ?_
    refine iteT (hs i x H' hi sm _ fun y hy => ⟨ys, eD, line_lt (by omega), sm.put nD, ys ++ [y], upd_same, by rw [List.length_append, hl]; rfl, fun j z hz => ?_⟩)
    by_cases c : j < ys.length
    · rw [List.getElem?_append_left c] at hz
      exact hR j z hz
    · rw [List.getElem?_append_right (by omega)] at hz
      have e0 : j - ys.length = 0 := by
        rcases Nat.eq_zero_or_pos (j - ys.length) with q | q
        · exact q
        · rw [List.getElem?_eq_none (by simp only [List.length_cons, List.length_nil]; omega)] at hz
          cases hz
      rw [e0] at hz
      have ez : y = z := Option.some.inj hz
      have ej : j = i := by omega
      rw [← ez, ej]
      exact hy
  · rintro H' ⟨sm, ys, eD, hl, hR⟩
    exact hd H' ys hl hR sm eD
theorem all_ints {n : Nat} {ys : List V} {P : Nat → Int → Prop} (hl : ys.length = n) (h : ∀ i y, ys[i]? = some y → ∃ z, y = .int z ∧ P i z) : ∃ zs, ys = vi zs ∧ zs.length = n ∧ ∀ i, i < n → P i (zs.getD i 0) := by
  induction ys generalizing n P with
  | nil => exact ⟨[], rfl, hl, fun i hi => by simp at hl; omega⟩
  | cons y r ih =>
    obtain ⟨z, ez, pz⟩ := h 0 y rfl
    obtain ⟨zs, e, l, q⟩ := ih (n := r.length) (P := fun i => P (i + 1)) rfl (fun i y hy => h (i + 1) y hy)
    refine ⟨z :: zs, by rw [ez, e]; rfl, by simp only [List.length_cons] at hl ⊢; omega, fun i hi => ?_⟩
    cases i with
    | zero => exact pz
    | succ i =>
      simp only [List.length_cons] at hl
      exact q i (by omega)
theorem lc_ints {lo : Int} {n : Nat} {te : TE} {v : Nat} {σ : L2.St} {H1 : Hp} {D : Addr} {Qd : Hp → Prop} (P : Nat → Int → Prop) (nD : H1 D = none) (hn : n ≤ 1000)
    (hs : ∀ i H', i < n → Same H1 H' → ∀ Q' : VK, (∀ z, P i z → Q' (.int z) H') → te ((wipe σ [v]).set v (some (.int (lo + i)))) H' Q')
    (hd : ∀ H' zs, zs.length = n → (∀ i, i < n → P i (zs.getD i 0)) → Same H1 H' → H' D = some (.lst (vi zs)) → Qd H') :
    ∃ W : Nat → Nat → Hp → Prop, (∃ m, W 0 m (upd H1 D (.lst []))) ∧ ∀ i m H, W i m H →
      ((Itr lo n).stop i H ∧ Qd H) ∨ ((Itr lo n).go i H ∧ ∃ Nx : Hp → Prop, (∀ H', Nx H' → ∃ m', m' < m ∧ W (i + 1) m' H') ∧ ∀ x H', (Itr lo n).yld i H x H' → gName v x (wipe σ [v]) H' fun σ2 H2 => wipe σ2 [v] = wipe σ [v] ∧ tYes σ2 H2 fun b H3 =>
        if b = true then te σ2 H3 fun y H4 => ∃ acc, H4 D = some (.lst acc) ∧ acc.length < sizeLine ∧ Nx (upd H4 D (.lst (acc ++ [y]))) else Nx H3) :=
  lc_pure (fun i y => ∃ z, y = .int z ∧ P i z) nD hn (fun i H' hi sm Q' hQ => hs i H' hi sm Q' fun z hz => hQ _ ⟨z, rfl, hz⟩) fun H' ys hl hR sm e => by
    obtain ⟨zs, ez, l, q⟩ := all_ints hl hR
    rw [ez] at e
    exact hd H' zs l q sm e
theorem lc_intsG {lo : Int} {n : Nat} {te : TE} {v : Nat} {σ : L2.St} {H1 : Hp} {D : Addr} {Qd : Hp → Prop} (P : Nat → Int → Prop) (nD : H1 D = none) (hn : n ≤ 1000)
    (hs : ∀ i H', i < n → Same H1 H' → ∀ Q' : VK, (∀ z H2, Same H' H2 → P i z → Q' (.int z) H2) → te ((wipe σ [v]).set v (some (.int (lo + i)))) H' Q')
    (hd : ∀ H' zs, zs.length = n → (∀ i, i < n → P i (zs.getD i 0)) → Same H1 H' → H' D = some (.lst (vi zs)) → Qd H') :
    ∃ W : Nat → Nat → Hp → Prop, (∃ m, W 0 m (upd H1 D (.lst []))) ∧ ∀ i m H, W i m H →
      ((Itr lo n).stop i H ∧ Qd H) ∨ ((Itr lo n).go i H ∧ ∃ Nx : Hp → Prop, (∀ H', Nx H' → ∃ m', m' < m ∧ W (i + 1) m' H') ∧ ∀ x H', (Itr lo n).yld i H x H' → gName v x (wipe σ [v]) H' fun σ2 H2 => wipe σ2 [v] = wipe σ [v] ∧ tYes σ2 H2 fun b H3 =>
        if b = true then te σ2 H3 fun y H4 => ∃ acc, H4 D = some (.lst acc) ∧ acc.length < sizeLine ∧ Nx (upd H4 D (.lst (acc ++ [y]))) else Nx H3) :=
  lc_grow (fun i y => ∃ z, y = .int z ∧ P i z) nD hn (fun i H' hi sm Q' hQ => hs i H' hi sm Q' fun z H2 s2 hz => hQ _ H2 s2 ⟨z, rfl, hz⟩) fun H' ys hl hR sm e => by
    obtain ⟨zs, ez, l, q⟩ := all_ints hl hR
    rw [ez] at e
    exact hd H' zs l q sm e
theorem lc_intsL {K : PySem.W.Frag} {a : Addr} {xs : List V} {te : TE} {v : Nat} {σ : L2.St} {H1 : Hp} {D : Addr} {Qd : Hp → Prop} (P : Nat → Int → Prop) (hA : SqL K H1 a xs) (nD : H1 D = none) (hn : xs.length ≤ 1000)
    (hs : ∀ i x H', xs[i]? = some x → Same H1 H' → ∀ Q' : VK, (∀ z, P i z → Q' (.int z) H') → te ((wipe σ [v]).set v (some x)) H' Q')
    (hd : ∀ H' zs, zs.length = xs.length → (∀ i, i < xs.length → P i (zs.getD i 0)) → Same H1 H' → H' D = some (.lst (vi zs)) → Qd H') :
    ∃ W : Nat → Nat → Hp → Prop, (∃ m, W 0 m (upd H1 D (.lst []))) ∧ ∀ i m H, W i m H →
      ((Itl K a).stop i H ∧ Qd H) ∨ ((Itl K a).go i H ∧ ∃ Nx : Hp → Prop, (∀ H', Nx H' → ∃ m', m' < m ∧ W (i + 1) m' H') ∧ ∀ x H', (Itl K a).yld i H x H' → gName v x (wipe σ [v]) H' fun σ2 H2 => wipe σ2 [v] = wipe σ [v] ∧ tYes σ2 H2 fun b H3 =>
        if b = true then te σ2 H3 fun y H4 => ∃ acc, H4 D = some (.lst acc) ∧ acc.length < sizeLine ∧ Nx (upd H4 D (.lst (acc ++ [y]))) else Nx H3) :=
  lc_pureL (fun i y => ∃ z, y = .int z ∧ P i z) hA nD hn (fun i x H' hi sm Q' hQ => hs i x H' hi sm Q' fun z hz => hQ _ ⟨z, rfl, hz⟩) fun H' ys hl hR sm e => by
    obtain ⟨zs, ez, l, q⟩ := all_ints hl hR
    rw [ez] at e
    exact hd H' zs l q sm e
theorem eqvAll_ints : ∀ a b : List Int, PyData.eqvAll (a.map PyData.int) (b.map PyData.int) = decide (a = b)
  | [], [] => rfl
  | [], _ :: _ => rfl
  | _ :: _, [] => rfl
  | x :: r, y :: q => by
    show (PyData.eqv (.int x) (.int y) && PyData.eqvAll (r.map PyData.int) (q.map PyData.int)) = decide (x :: r = y :: q)
    rw [eqvAll_ints r q]
    show ((x == y) && decide (r = q)) = decide (x :: r = y :: q)
    by_cases e : x = y
    · by_cases e2 : r = q
      · simp [e, e2]
      · simp [e, e2]
    · simp [e]
theorem eqv_dI (a b : List Int) : PyData.eqv (dI a) (dI b) = decide (a = b) := eqvAll_ints a b
theorem canLay_ints : ∀ a : List Int, PyData.canLayAll0 (a.map PyData.int) = true
  | [] => rfl
  | x :: r => by
    show (PyData.canLay0 (.int x) && PyData.canLayAll0 (r.map PyData.int)) = true
    rw [canLay_ints r]
    rfl
theorem depth_ints : ∀ a : List Int, PyData.depthAll (a.map PyData.int) = 0
  | [] => rfl
  | x :: r => by
    show max (PyData.depth (.int x)) (PyData.depthAll (r.map PyData.int)) = 0
    rw [depth_ints r]
    rfl
theorem shaped_dI (a : List Int) : SeqAt.shaped (dI a) = true := by
  show (PyData.canLay0 (dI a) && decide ((dI a).depth ≤ 64)) = true
  have e1 : PyData.canLay0 (dI a) = true := canLay_ints a
  have e2 : (dI a).depth = 1 := by
    show PyData.depthAll (a.map PyData.int) + 1 = 1
    rw [depth_ints]
  rw [e1, e2]
  rfl
/-- a pair of ints as plain data -/
def dT2 (i j : Int) : PyData := .tuple [.int i, .int j]
theorem dp_pair {K : PySem.W.Frag} {H : Hp} {a : Addr} {i j : Int} (h : SqT K H a [.int i, .int j]) : Dp K H (.ref a) (dT2 i j) := .tup h (.cons (.int i) (.cons (.int j) .nil))
theorem eqT {K : PySem.W.Frag} {H : Hp} {a b : Addr} {i j k l : Int} {Q : VK} (h1 : SqT K H a [.int i, .int j]) (h2 : SqT K H b [.int k, .int l]) (q : Q (.bl ((i == k) && ((j == l) && true))) H) : rEqD K (.ref a) (.ref b) H Q :=
  ⟨dT2 i j, dT2 k l, dp_pair h1, dp_pair h2, rfl, rfl, q⟩
theorem neT {K : PySem.W.Frag} {H : Hp} {a b : Addr} {i j k l : Int} {Q : VK} (h1 : SqT K H a [.int i, .int j]) (h2 : SqT K H b [.int k, .int l]) (q : Q (.bl (!((i == k) && ((j == l) && true)))) H) : rNeD K (.ref a) (.ref b) H Q :=
  ⟨dT2 i j, dT2 k l, dp_pair h1, dp_pair h2, rfl, rfl, q⟩
/-- == and != of two lists of ints, said with decide -/
theorem eqL {K : PySem.W.Frag} {H : Hp} {a b : Addr} {ns ms : List Int} {Q : VK} (h1 : SqL K H a (vi ns)) (h2 : SqL K H b (vi ms)) (q : Q (.bl (decide (ns = ms))) H) : rEqD K (.ref a) (.ref b) H Q :=
  ⟨dI ns, dI ms, dp_list h1, dp_list h2, shaped_dI _, shaped_dI _, by rw [eqv_dI]; exact q⟩
theorem neL {K : PySem.W.Frag} {H : Hp} {a b : Addr} {ns ms : List Int} {Q : VK} (h1 : SqL K H a (vi ns)) (h2 : SqL K H b (vi ms)) (q : Q (.bl (!decide (ns = ms))) H) : rNeD K (.ref a) (.ref b) H Q :=
  ⟨dI ns, dI ms, dp_list h1, dp_list h2, shaped_dI _, shaped_dI _, by rw [eqv_dI]; exact q⟩
section
variable {X : Cx}
/-- a module's whole number -/
theorem pe_num {x : Str} {i : Int} {pos : Pos} (h : ∃ t, X.mg x = some (.int i t)) (hg : Gl X x := by rfl) (hd : (x == ("__debug__" : Str)) = false := by decide) : PE X (.Name x pos) (tC (.int i)) := by
  obtain ⟨t, h⟩ := h
  exact pe_glob hg h ⟨t, rfl⟩ hd
/-- a built-in class as a value -/
theorem pe_cls {x : Str} {n : String} {pos : Pos} (hm : X.mg x = none) (hv : bootBuiltins x = some (.type n)) (hg : Gl X x := by rfl) (hn : x ≠ "__name__" := by decide) (hd : (x == ("__debug__" : Str)) = false := by decide) : PE X (.Name x pos) (tC (.ty n)) :=
  pe_bltn hg hm hv rfl hn hd
/-- rules that name the written part, for the blocks of comprehensions -/
theorem ixL (K : PySem.W.Frag) (h : X.K = K) : IxR X (rIxL K) := h ▸ ix_list
theorem ixT (K : PySem.W.Frag) (h : X.K = K) : IxR X (rIxT K) := h ▸ ix_tup
theorem lenL (K : PySem.W.Frag) (h : X.K = K) : CallR X (.builtin "len") (fun xs H Q => ∃ p ys, xs = [.ref p] ∧ (SqL K H p ys ∨ SqT K H p ys) ∧ Q (.int ys.length) H) := h ▸ call_len_seq
theorem maxL (K : PySem.W.Frag) (hc : X.calm = true) (h : X.K = K) : CallR X (.builtin "max") (rMax K) := h ▸ cr_max hc
theorem isiL (K : PySem.W.Frag) (h : X.K = K) : CallR X (.builtin "isinstance") (rIsi K) := h ▸ call_isi
theorem listL (K : PySem.W.Frag) (h : X.K = K) : CallR X (.type "list") (fun xs H Q => ∃ p ys, xs = [.ref p] ∧ (SqL K H p ys ∨ SqT K H p ys) ∧ ∀ l, H l = none → Q (.ref l) (upd H l (.lst ys))) := h ▸ call_list_of
theorem tupleL (K : PySem.W.Frag) (h : X.K = K) : CallR X (.type "tuple") (fun xs H Q => ∃ p ys, xs = [.ref p] ∧ ((SqL K H p ys ∧ ∀ l, H l = none → Q (.ref l) (upd H l (.tup ys))) ∨ (SqT K H p ys ∧ Q (.ref p) H))) := h ▸ call_tuple_of
end
end GL
/-! ### rules that the layer lacks -/
namespace GL
open PySem PySem.Spec L2
section
variable {X : Cx}
/-- {k: v}, k a tuple of ints and texts -/
def tDisp1T (tk tv : TE) : TE := fun σ H Q => ∀ p, H p = none → tk σ (upd H p (.dT [])) fun x H1 => tv σ H1 fun y H2 => H2 p = some (.dT []) ∧ ∃ (ks : List Key) (b : Addr), x = .ref b ∧ H2 b = some (.tup (ks.map kV)) ∧ Q (.ref p) (upd H2 p (.dT [(ks, y)]))
theorem pe_disp1T {k v : Expr} {tk tv : TE} {pos : Pos} (hu : X.A.units + 1 < cLine) (hk : PE X k tk) (hv : PE X v tv) : PE X (.Dict [some k] [v] pos) (tDisp1T tk tv) := by
  refine ⟨fun pins s σ H Q I q => ?_⟩
  have hn := I.hok.fresh (Nat.le_refl s.heap.objs.size)
  have I1 := I.laid (a := s.heap.objs.size) (o := .dT []) (h' := s.heap.push { cls := .type "dict", data := .dict #[] }) (t' := s.toks) (fun _ _ q => Heap.get?_push_of_some _ q) (Nat.le_refl _) (dt_empty s.heap I.big)
  rw [arm_eval_Dict, zip_pairTrees [some k] [v] X.env pos rfl rfl, dictDisplay_pairs _ (fun z => by cases z) (by show 1 < 17; decide)]
  refine wpAny_bind (wpAny_standAt (wpAny_bind (wpAny_subDictH (knd := tupleKind (mixKind X.prog X.w)) (show X.A.units < cLine by omega) (by show 1 ≤ 15; decide) ?_)))
  refine pairTrees_cons_walk (thn (hk.run pins _ σ _ _ I1 (q _ hn)) fun u s1 ⟨x, H1, I1, rx, q1⟩ => thn (hv.run pins s1 σ H1 _ I1 q1) fun w2 s2 ⟨y, H2, I2, ry, q2⟩ => pairTrees_nil_walk ?_)
  obtain ⟨e, ks, b, ex, eb, q3⟩ := q2
  subst ex
  cases (show u = Value.ref b from rx)
  obtain ⟨z, hd, xs, rel, dd⟩ := dt_of I2.hok e
  cases rel
  refine ⟨[(ks, b, w2)], ⟨rfl, rfl, key_of I2.hok eb, trivial⟩, dd, fun h' tk dd' hs => wpAny_pure ⟨.ref s.heap.objs.size, _, ?_, rfl, q3⟩⟩
  obtain ⟨o, es, ep, hq, h2, h3, h4, h5, h6⟩ := dd'
  have he : ∃ q, h'.get? s.heap.objs.size = some q := ⟨o, hq⟩
  have hne : b ≠ s.heap.objs.size := ne_of eb e (fun z => nomatch z)
  have J := I2.write (t' := tk) (x := s.heap.objs.size) (e := s.heap.objs.size) (o := .dT [(ks, y)]) (by rw [e]; exact True.intro) (.inl rfl) (fun b q hb z => (hs.2 b hb).trans z) he ⟨by show 1 ≤ sizeLine; decide, hd, _, .cons ⟨rfl, by rw [upd_ne hne]; exact eb, ry⟩ .nil, o, es, ep, hq, h2, h3, h4, h6⟩
  exact J
end
end GL
/-! ### a walk's row and its places -/
namespace GL
open PySem PySem.Spec L2
def keyL (l : List Int) : List Key := l.map Sum.inl
theorem keyL_kV (l : List Int) : (keyL l).map kV = vi l := by
  unfold keyL
  rw [List.map_map]
  rfl
theorem keyL_inj {l m : List Int} (h : keyL l = keyL m) : l = m := by
  have e := congrArg (fun x => x.map fun k : Key => match k with | .inl i => i | .inr _ => 0) h
  unfold keyL at e
  simp only [List.map_map] at e
  have c : ((fun k : Key => match k with | .inl i => i | .inr _ => (0 : Int)) ∘ (Sum.inl : Int → Key)) = id := rfl
  rw [c, List.map_id, List.map_id] at e
  exact e
theorem valV_none {κ : Type} [DecidableEq κ] {kvs : List (κ × V)} {k : κ} (h : ∀ x ∈ kvs, x.1 ≠ k) : valV kvs k = none := by
  unfold valV
  rw [List.find?_eq_none.mpr (fun x hx => by
    have := h x hx
    simp [this])]
  rfl
theorem valV_append {κ : Type} [DecidableEq κ] {kvs ls : List (κ × V)} {k : κ} (h : ∀ x ∈ kvs, x.1 ≠ k) : valV (kvs ++ ls) k = valV ls k := by
  unfold valV
  rw [List.find?_append, List.find?_eq_none.mpr (fun x hx => by
    have := h x hx
    simp [this])]
  rfl
def kvsOf (ns : List Int) (i : Nat) : List (List Key × V) := (List.range i).map fun j => (keyL (GR.it j ns), V.int j)
theorem kvsOf_succ (ns : List Int) (i : Nat) : kvsOf ns (i + 1) = kvsOf ns i ++ [(keyL (GR.it i ns), V.int i)] := by
  unfold kvsOf
  rw [List.range_succ, List.map_append]
  rfl
theorem kvsOf_len (ns : List Int) (i : Nat) : (kvsOf ns i).length = i := by
  unfold kvsOf
  rw [List.length_map, List.length_range]
theorem kvsOf_none {ns l : List Int} {i : Nat} (h : ∀ j, j < i → GR.it j ns ≠ l) : valV (kvsOf ns i) (keyL l) = none := by
  refine valV_none fun x hx => ?_
  unfold kvsOf at hx
  obtain ⟨j, hj, e⟩ := List.mem_map.mp hx
  rw [← e]
  exact fun z => h j (List.mem_range.mp hj) (keyL_inj z)
theorem kvsOf_some {ns l : List Int} {j : Nat} : ∀ {i : Nat}, j < i → GR.it j ns = l → (∀ a b, a < b → b < i → GR.it a ns ≠ GR.it b ns) → valV (kvsOf ns i) (keyL l) = some (.int j)
  | 0, h, _, _ => absurd h (Nat.not_lt_zero _)
  | i + 1, h, e, q => by
    rw [kvsOf_succ]
    by_cases c : j < i
    · have ih := kvsOf_some c e (fun a b hab hb => q a b hab (by omega))
      unfold valV at ih ⊢
      rw [List.find?_append]
      cases f : (kvsOf ns i).find? fun kv => decide (kv.1 = keyL l) with
      | none =>
        rw [f] at ih
        cases ih
      | some x =>
        rw [f] at ih
        exact ih
    · have ej : j = i := by omega
      subst ej
      rw [valV_append (fun x hx => by
        unfold kvsOf at hx
        obtain ⟨a, ha, ea⟩ := List.mem_map.mp hx
        have ha := List.mem_range.mp ha
        rw [← ea]
        exact fun z => q a j ha (by omega) ((keyL_inj z).trans e.symm))]
      unfold valV
      rw [List.find?_cons, e, decide_eq_true rfl]
      rfl
structure WkInv (ns : List Int) (H0 : Hp) (i : Nat) (H : Hp) (r p th : Addr) (rs : List Addr) : Prop where
  same : Same H0 H
  r0 : H0 r = none
  p0 : H0 p = none
  hrow : H r = some (.lst (rs.map V.ref))
  hlen : rs.length = i
  hitems : ∀ (j : Nat) x, rs[j]? = some x → x ≠ r ∧ H x = some (.lst (vi (GR.it j ns)))
  hdict : H p = some (.dT (kvsOf ns i))
  hth : H th = some (.lst (vi (GR.it i ns)))
  thr : th ≠ r
  inj : ∀ j k, j < k → k < i → GR.it j ns ≠ GR.it k ns
section
variable {ns : List Int} {H0 H : Hp} {i : Nat} {r p th : Addr} {rs : List Addr}
/-- a new thing beside it -/
theorem WkInv.beside (I : WkInv ns H0 i H r p th rs) {x : Addr} {o : HO} (n : H x = none) : WkInv ns H0 i (upd H x o) r p th rs where
  same := I.same.put (I.same.free n)
  r0 := I.r0
  p0 := I.p0
  hrow := Same.new n _ _ I.hrow
  hlen := I.hlen
  hitems := fun j y h => ⟨(I.hitems j y h).1, Same.new n _ _ (I.hitems j y h).2⟩
  hdict := Same.new n _ _ I.hdict
  hth := Same.new n _ _ I.hth
  thr := I.thr
  inj := I.inj
theorem WkInv.grown (I : WkInv ns H0 i H r p th rs) {H' : Hp} (s : Same H H') : WkInv ns H0 i H' r p th rs where
  same := I.same.trans s
  r0 := I.r0
  p0 := I.p0
  hrow := s _ _ I.hrow
  hlen := I.hlen
  hitems := fun j y h => ⟨(I.hitems j y h).1, s _ _ (I.hitems j y h).2⟩
  hdict := s _ _ I.hdict
  hth := s _ _ I.hth
  thr := I.thr
  inj := I.inj
/-- behind the dict's and the row's growth, and the next ring at q -/
theorem WkInv.next (I : WkInv ns H0 i H r p th rs) (hn : ∀ j, j < i → GR.it j ns ≠ GR.it i ns) {H' : Hp} {q : Addr} (s : Same (upd (upd H p (.dT (kvsOf ns (i + 1)))) r (.lst (rs.map V.ref ++ [V.ref th]))) H') (nq : upd (upd H p (.dT (kvsOf ns (i + 1)))) r (.lst (rs.map V.ref ++ [V.ref th])) q = none) (eq : H' q = some (.lst (vi (GR.it (i + 1) ns)))) :
    WkInv ns H0 (i + 1) H' r p q (rs ++ [th]) := by
  have npr : p ≠ r := ne_of I.hdict I.hrow (fun z => by cases z)
  have s1 : Same H0 (upd (upd H p (.dT (kvsOf ns (i + 1)))) r (.lst (rs.map V.ref ++ [V.ref th]))) := (I.same.put I.p0).put I.r0
  have keep : ∀ (x : Addr) (xs : List V), x ≠ r → H x = some (.lst xs) → H' x = some (.lst xs) := fun x xs hr hx => s _ _ (by
    rw [upd_ne hr, upd_ne (ne_of hx I.hdict (fun z => by cases z))]
    exact hx)
  refine ⟨s1.trans s, I.r0, I.p0, s _ _ (by rw [upd_same, List.map_append]; rfl), by rw [List.length_append, I.hlen]; rfl, fun j x hx => ?_, s _ _ (by rw [upd_ne npr, upd_same]), eq, fun z => ?_, fun j k hjk hk => ?_⟩
  · by_cases c : j < i
    · rw [List.getElem?_append_left (by rw [I.hlen]; exact c)] at hx
      exact ⟨(I.hitems j x hx).1, keep _ _ (I.hitems j x hx).1 (I.hitems j x hx).2⟩
    · rw [List.getElem?_append_right (by rw [I.hlen]; omega), I.hlen] at hx
      have e0 : j - i = 0 := by
        rcases Nat.eq_zero_or_pos (j - i) with q | q
        · exact q
        · rw [List.getElem?_eq_none (by simp only [List.length_cons, List.length_nil]; omega)] at hx
          cases hx
      rw [e0] at hx
      have ex : th = x := Option.some.inj hx
      have ej : j = i := by omega
      subst ex ej
      exact ⟨I.thr, keep _ _ I.thr I.hth⟩
  · rw [z, upd_same] at nq
    cases nq
  · by_cases c : k < i
    · exact I.inj j k hjk c
    · have ek : k = i := by omega
      subst ek
      exact hn j hjk
end
end GL
/-! ### flat rings -/
namespace GR
def flatL (ns : List Int) : Bool := ns.all fun x => x == 0 || ns.all fun y => decide (y ≤ x)
theorem flatL_iff {ns : List Int} : flatL ns = true ↔ ∀ x ∈ ns, x = 0 ∨ ∀ y ∈ ns, y ≤ x := by
  unfold flatL
  rw [List.all_eq_true]
  constructor
  · intro h x hx
    have := h x hx
    simpa using this
  · intro h x hx
    have := h x hx
    simpa using this
/-- by its greatest number -/
theorem flatL_max {ns : List Int} {m : Int} (hm : m ∈ ns) (hle : ∀ y ∈ ns, y ≤ m) : flatL ns = ns.all fun x => decide (x = 0 ∨ x = m) := by
  rw [Bool.eq_iff_iff, flatL_iff, List.all_eq_true]
  constructor
  · intro h x hx
    rcases h x hx with e | e
    · simp [e]
    · have := e m hm
      have := hle x hx
      simp; omega
  · intro h x hx
    have q := h x hx
    simp at q
    rcases q with e | e
    · exact .inl e
    · rw [e]
      exact .inr hle
theorem Flat.flatL {c : Int} {ns : List Int} (hc : 0 ≤ c) (h : Flat c (fn ns)) : flatL ns = true := by
  rw [flatL_iff]
  intro x hx
  rcases h.mem x hx with e | e
  · exact .inl e
  · refine .inr fun y hy => ?_
    rcases h.mem y hy with e2 | e2 <;> omega
theorem flat_of {ns : List Int} (h0 : ∀ x ∈ ns, 0 ≤ x) (hp : 0 < ns.length) (h : flatL ns = true) : ∃ c : Int, 0 ≤ c ∧ Flat c (fn ns) := by
  rw [flatL_iff] at h
  by_cases c : ∃ x ∈ ns, x ≠ 0
  · obtain ⟨x, hx, hn⟩ := c
    have hmax := (h x hx).resolve_left hn
    refine ⟨x, h0 x hx, fun i => ?_⟩
    obtain ⟨k, hk, _, e⟩ := fn_at hp i
    rw [e]
    have hy := getD_mem hk
    rcases h _ hy with q | q
    · exact .inl q
    · have a := hmax _ hy
      have b := q x hx
      exact .inr (by omega)
  · refine ⟨0, Int.le_refl _, fun i => ?_⟩
    obtain ⟨k, hk, _, e⟩ := fn_at hp i
    rw [e]
    by_cases z : ns.getD k 0 = 0
    · exact .inl z
    · exact absurd ⟨_, getD_mem hk, z⟩ c
theorem Ring.nn {ns : List Int} (R : Ring ns) : ∀ x ∈ ns, 0 ≤ x := fun x hx => (R.bd x hx).1
theorem Ring.flat_gp {ns : List Int} (R : Ring ns) (h : flatL ns = true) : flatL (gp ns) = true := by
  obtain ⟨c, hc, f⟩ := flat_of R.nn R.pos h
  refine Flat.flatL hc ?_
  rw [fn_gp]
  exact f.D hc
theorem Wk.later {ns : List Int} {L T : Nat} (w : Wk ns L T) {t : Nat} (ht : T ≤ t) (n : Nat) : ∃ u, n ≤ u ∧ t ≤ u ∧ it u ns = it t ns := by
  have hl := w.lt
  refine ⟨t + n * (L - T), ?_, by omega, it_shift_mul w.per n t ht⟩
  have : n * 1 ≤ n * (L - T) := Nat.mul_le_mul_left n (by omega)
  omega
theorem Wk.flat {ns : List Int} {L T : Nat} (w : Wk ns L T) (R : Ring ns) {t : Nat} (ht : T ≤ t) : flatL (it t ns) = true := by
  obtain ⟨c, h1, _, h3⟩ := R.flat
  obtain ⟨u, hu, _, e⟩ := w.later ht 15000
  rw [← e]
  exact Flat.flatL h1 (h3 u hu)
theorem Wk.max_eq {ns : List Int} {L T : Nat} (w : Wk ns L T) (R : Ring ns) {t : Nat} (ht : T ≤ t) {m1 m2 : Int} (a1 : m1 ∈ it t ns) (b1 : ∀ x ∈ it t ns, x ≤ m1) (a2 : m2 ∈ it T ns) (b2 : ∀ x ∈ it T ns, x ≤ m2) : m1 = m2 := by
  have h1 : m1 ≤ m2 := by
    have q : Bl m2 (it t ns) := by
      rw [show t = T + (t - T) by omega, it_add]
      exact Bl.it (fun x hx => ⟨((R.itR T).bd x hx).1, b2 x hx⟩) _
    exact (q m1 a1).2
  have h2 : m2 ≤ m1 := by
    obtain ⟨u, hu, _, e⟩ := w.later (Nat.le_refl T) t
    have q : Bl m1 (it u ns) := by
      rw [show u = t + (u - t) by omega, it_add]
      exact Bl.it (fun x hx => ⟨((R.itR t).bd x hx).1, b1 x hx⟩) _
    rw [e] at q
    exact (q m2 a2).2
  omega
end GR
/-! ### rings of noughts and one same number -/
namespace GR
def xr (r s : Fn) : Fn := fun i => ((r i - s i).natAbs : Int)
theorem Flat.xr {c : Int} (hc : 0 ≤ c) {r s : Fn} (hr : Flat c r) (hs : Flat c s) : Flat c (xr r s) := fun i => by
  have a := hr i
  have b := hs i
  unfold GR.xr
  omega
theorem D_xr {c : Int} (hc : 0 ≤ c) {r s : Fn} (hr : Flat c r) (hs : Flat c s) : D (xr r s) = xr (D r) (D s) := by
  funext i
  have a := hr i
  have b := hs i
  have a1 := hr (i + 1)
  have b1 := hs (i + 1)
  show (((((r i - s i).natAbs : Int) - ((r (i + 1) - s (i + 1)).natAbs : Int)).natAbs : Nat) : Int) = (((((r i - r (i + 1)).natAbs : Int) - ((s i - s (i + 1)).natAbs : Int)).natAbs : Nat) : Int)
  omega
theorem itD_xr {c : Int} (hc : 0 ≤ c) (t : Nat) {r s : Fn} (hr : Flat c r) (hs : Flat c s) : itD t (xr r s) = xr (itD t r) (itD t s) := by
  induction t generalizing r s with
  | zero => rfl
  | succ t ih =>
    show itD t (D (xr r s)) = xr (itD t (D r)) (itD t (D s))
    rw [D_xr hc hr hs, ih (hr.D hc) (hs.D hc)]
/-- behind 2^k turns -/
theorem itD_two {c : Int} (hc : 0 ≤ c) (k : Nat) {r : Fn} (h : Flat c r) (i : Int) : itD (2 ^ k) r i = ((r i - r (i + (2 ^ k : Nat))).natAbs : Int) := by
  induction k generalizing r i with
  | zero => rfl
  | succ k ih =>
    have e : 2 ^ (k + 1) = 2 ^ k + 2 ^ k := by rw [Nat.pow_succ]; omega
    rw [e, itD_add, ih (h.itD hc _), ih h, ih h]
    have a := h i
    have b := h (i + (2 ^ k : Nat))
    have d := h (i + (2 ^ k : Nat) + (2 ^ k : Nat))
    rw [show i + ((2 ^ k + 2 ^ k : Nat) : Int) = i + (2 ^ k : Nat) + (2 ^ k : Nat) by omega]
    omega
theorem itD_zero_of {n k : Nat} {c : Int} (hc : 0 ≤ c) {r : Fn} (h : Flat c r) (hp : Per n r) (e : n = 2 ^ k) (i : Int) : itD n r i = 0 := by
  have q := itD_two hc k h i
  rw [← e] at q
  rw [q, hp i]
  omega
def Z (ns : List Int) : Prop := ∀ x ∈ ns, x = 0
theorem Z.gp {ns : List Int} (h : Z ns) : Z (gp ns) := fun x hx => by
  have q : Bl 0 (GR.gp ns) := Bl.gp fun y hy => by rw [h y hy]; exact ⟨Int.le_refl _, Int.le_refl _⟩
  have := q x hx
  omega
theorem Z.itR {ns : List Int} (h : Z ns) (t : Nat) : Z (it t ns) := by
  induction t generalizing ns with
  | zero => exact h
  | succ t ih => exact ih h.gp
theorem Z.eq {ns : List Int} (h : Z ns) : ns = List.replicate ns.length 0 := List.eq_replicate_of_mem h
theorem Ring.noughts {ns : List Int} (R : Ring ns) (h : ns.length = 4 ∨ ns.length = 8 ∨ ns.length = 16) : ∃ t, Z (it t ns) := by
  obtain ⟨c, h1, h2, h3⟩ := R.flat
  have f := h3 15000 (Nat.le_refl _)
  have hp : Per ns.length (fn (it 15000 ns)) := fun i => by
    have := fn_per (it 15000 ns) i
    rw [it_length] at this
    exact this
  refine ⟨15000 + ns.length, fun x hx => ?_⟩
  obtain ⟨k, hk, e⟩ := mem_getD hx
  rw [it_add] at hk e
  rw [← e, ← fn_nat hk, fn_it]
  rcases h with e4 | e4 | e4
  · exact itD_zero_of (k := 2) h1 f hp e4 _
  · exact itD_zero_of (k := 3) h1 f hp e4 _
  · exact itD_zero_of (k := 4) h1 f hp e4 _
/-! ### the ring with a one -/
def sh (r : Fn) (k : Int) : Fn := fun i => r (i + k)
theorem D_sh (r : Fn) (k : Int) : D (sh r k) = sh (D r) k := by
  funext i
  unfold D sh
  rw [show i + 1 + k = i + k + 1 by omega]
theorem itD_sh (t : Nat) (r : Fn) (k : Int) : itD t (sh r k) = sh (itD t r) k := by
  induction t generalizing r with
  | zero => rfl
  | succ t ih =>
    show itD t (D (sh r k)) = sh (itD t (D r)) k
    rw [D_sh, ih]
def sc (c : Int) (r : Fn) : Fn := fun i => c * r i
theorem D_sc {c : Int} (hc : 0 ≤ c) (r : Fn) : D (sc c r) = sc c (D r) := by
  funext i
  unfold D sc
  rw [← Int.mul_sub, Int.natAbs_mul, Int.natCast_mul, show ((c.natAbs : Nat) : Int) = c by omega]
theorem itD_sc {c : Int} (hc : 0 ≤ c) (t : Nat) (r : Fn) : itD t (sc c r) = sc c (itD t r) := by
  induction t generalizing r with
  | zero => rfl
  | succ t ih =>
    show itD t (D (sc c r)) = sc c (itD t (D r))
    rw [D_sc hc, ih]
def one (n : Nat) : Fn := fun i => if i % (n : Int) = 0 then 1 else 0
theorem one_flat (n : Nat) : Flat 1 (one n) := fun i => by
  unfold one
  split
  · exact .inr rfl
  · exact .inl rfl
def oneL (n : Nat) : List Int := 1 :: List.replicate (n - 1) 0
theorem oneL_length {n : Nat} (h : 0 < n) : (oneL n).length = n := by
  unfold oneL
  rw [List.length_cons, List.length_replicate]
  omega
theorem fn_oneL {n : Nat} (h : 0 < n) : fn (oneL n) = one n := by
  funext i
  obtain ⟨k, hk, ek, e⟩ := fn_at (ns := oneL n) (by rw [oneL_length h]; exact h) i
  rw [oneL_length h] at ek hk
  rw [e]
  unfold one
  rw [← ek]
  cases k with
  | zero => rfl
  | succ k =>
    rw [if_neg (by omega)]
    show (List.replicate (n - 1) (0 : Int)).getD k 0 = 0
    rw [List.getD_eq_getElem?_getD, List.getElem?_replicate]
    split <;> rfl
theorem oneL_ring {n : Nat} (h3 : 3 ≤ n) (h16 : n ≤ 16) : Ring (oneL n) := ⟨by rw [oneL_length (by omega)]; exact h3, by rw [oneL_length (by omega)]; exact h16, fun x hx => by
  unfold oneL at hx
  rcases List.mem_cons.mp hx with e | e
  · rw [e]; decide
  · rw [List.eq_of_mem_replicate e]; decide⟩
/-- what holds of the ring with a one, holds of every flat ring of that size -/
theorem all_of_one {n T P : Nat} (hn : 0 < n) (h : itD (T + P) (one n) = itD T (one n)) {c : Int} (hc : 0 ≤ c) {r : Fn} (hf : Flat c r) (hp : Per n r) : itD (T + P) r = itD T r := by
  -- the ring cut off behind k places
  have cutf : ∀ k : Nat, Flat c (fun i => if i % (n : Int) < k then r i else 0) := fun k i => by
    show (if i % (n : Int) < k then r i else 0) = 0 ∨ (if i % (n : Int) < k then r i else 0) = c
    split
    · exact hf i
    · exact .inl rfl
  have unit : ∀ k : Int, itD (T + P) (sh (sc c (one n)) k) = itD T (sh (sc c (one n)) k) := fun k => by
    rw [itD_sh, itD_sh, itD_sc hc, itD_sc hc, h]
  have unitf : ∀ k : Int, Flat c (sh (sc c (one n)) k) := fun k i => by
    unfold sh sc
    rcases one_flat n (i + k) with e | e
    · rw [e]; exact .inl (Int.mul_zero c)
    · rw [e]; exact .inr (Int.mul_one c)
  have step : ∀ k : Nat, k ≤ n → itD (T + P) (fun i => if i % (n : Int) < k then r i else 0) = itD T (fun i => if i % (n : Int) < k then r i else 0) := by
    intro k
    induction k with
    | zero =>
      intro _
      have z : (fun i => if i % (n : Int) < (0 : Nat) then r i else 0) = (sc 0 (one n)) := by
        funext i
        have := Int.emod_nonneg i (b := (n : Int)) (by omega)
        unfold sc
        rw [if_neg (by omega), Int.zero_mul]
      rw [z, itD_sc (Int.le_refl 0), itD_sc (Int.le_refl 0), h]
    | succ k ih =>
      intro hk
      have ih' := ih (by omega)
      by_cases z : r k = 0
      · have e : (fun i => if i % (n : Int) < (k + 1 : Nat) then r i else 0) = (fun i => if i % (n : Int) < k then r i else 0) := by
          funext i
          by_cases c1 : i % (n : Int) < k
          · rw [if_pos c1, if_pos (by omega)]
          · rw [if_neg c1]
            by_cases c2 : i % (n : Int) < (k + 1 : Nat)
            · rw [if_pos c2]
              have e3 : i % (n : Int) = k := by omega
              have q := hp.mod i
              rw [e3, z] at q
              exact q.symm
            · rw [if_neg c2]
        rw [e, ih']
      · have ck : r k = c := (hf k).resolve_left z
        have e : (fun i => if i % (n : Int) < (k + 1 : Nat) then r i else 0) = xr (fun i => if i % (n : Int) < k then r i else 0) (sh (sc c (one n)) (-(k : Int))) := by
          funext i
          show (if i % (n : Int) < (k + 1 : Nat) then r i else 0) = (((if i % (n : Int) < k then r i else 0) - c * (if (i + -(k : Int)) % (n : Int) = 0 then 1 else 0)).natAbs : Int)
          have hm : (i + -(k : Int)) % (n : Int) = 0 ↔ i % (n : Int) = k := by
            rw [← Int.sub_eq_add_neg]
            have e0 : (k : Int) % (n : Int) = k := Int.emod_eq_of_lt (by omega) (by omega)
            rw [← Int.emod_eq_emod_iff_emod_sub_eq_zero, e0]
          by_cases c1 : i % (n : Int) < k
          · rw [if_pos c1, if_pos (by omega), if_neg (fun q => by have := hm.mp q; omega), Int.mul_zero, Int.sub_zero]
            have := hf i
            omega
          · by_cases c2 : i % (n : Int) = k
            · rw [if_neg c1, if_pos (by omega), if_pos (hm.mpr c2), Int.mul_one]
              have q := hp.mod i
              rw [c2, ck] at q
              omega
            · rw [if_neg c1, if_neg (by omega), if_neg (fun q => c2 (hm.mp q)), Int.mul_zero]
              rfl
        rw [e, itD_xr hc _ (cutf k) (unitf _), itD_xr hc _ (cutf k) (unitf _), ih', unit]
  have q := step n (Nat.le_refl n)
  have e : (fun i => if i % (n : Int) < n then r i else 0) = r := by
    funext i
    rw [if_pos (Int.emod_lt_of_pos _ (by omega))]
  rw [e] at q
  exact q
theorem Flat.again {ns : List Int} {c : Int} (hp : 0 < ns.length) (hc : 0 ≤ c) (hf : Flat c (fn ns)) {T P : Nat} (h : it (T + P) (oneL ns.length) = it T (oneL ns.length)) : it (T + P) ns = it T ns := by
  refine list_ext (by rw [it_length, it_length]) ?_
  have e := congrArg fn h
  rw [fn_it, fn_it, fn_oneL hp] at e
  rw [fn_it, fn_it]
  exact all_of_one hp e hc hf (fn_per ns)
/-- the great wheel -/
theorem great {ns : List Int} (R : Ring ns) {L T L' T' : Nat} (w : Wk (oneL ns.length) L T) (w' : Wk ns L' T') : (L' - T') ∣ (L - T) := by
  obtain ⟨c, h1, _, h3⟩ := R.flat
  have f := h3 15000 (Nat.le_refl _)
  have hl := w.lt
  have q : it (T + (L - T)) (it 15000 ns) = it T (it 15000 ns) := Flat.again (by rw [it_length]; exact R.pos) h1 f (by rw [it_length]; exact w.per)
  rw [← it_add, ← it_add, show 15000 + (T + (L - T)) = (15000 + T) + (L - T) by omega] at q
  exact w'.wheel q (w'.tail (by omega) q)
theorem great_bits {ns : List Int} (R : Ring ns) (hb : ∀ x ∈ ns, x = 0 ∨ x = 1) {L T L' T' : Nat} (w : Wk (oneL ns.length) L T) (w' : Wk ns L' T') : T' ≤ T ∧ (L' - T') ∣ (L - T) := by
  have hl := w.lt
  have f : Flat 1 (fn ns) := fun i => by
    obtain ⟨k, hk, _, e⟩ := fn_at R.pos i
    rw [e]
    exact hb _ (getD_mem hk)
  have q : it (T + (L - T)) ns = it T ns := Flat.again R.pos (by decide) f w.per
  have ht := w'.tail (by omega) q
  exact ⟨ht, w'.wheel q ht⟩
theorem great_one {n L T : Nat} (h3 : 3 ≤ n) (h16 : n ≤ 16) (h : n = 4 ∨ n = 8 ∨ n = 16) (w : Wk (oneL n) L T) : L - T = 1 := by
  have R := oneL_ring h3 h16
  have hl := w.lt
  obtain ⟨t, z⟩ := R.noughts (by rw [oneL_length (by omega)]; exact h)
  have e : it (t + 1) (oneL n) = it t (oneL n) := by
    have a := Z.eq z
    have b := Z.eq (z.itR 1)
    rw [it_length, it_length] at b
    rw [it_length] at a
    rw [it_add, b]
    exact a.symm
  have d := w.wheel e (w.tail (by omega) e)
  exact Nat.dvd_one.mp d
end GR
/-! ### mixed, turned and contrary rings -/
namespace GR
def mx (ns ms : List Int) : List Int := (List.range ns.length).map fun i => if ns.getD i 0 = ms.getD i 0 then 0 else 1
theorem mx_length (ns ms : List Int) : (mx ns ms).length = ns.length := by
  unfold mx
  rw [List.length_map, List.length_range]
theorem map_getD {n : Nat} {f : Nat → Int} {k : Nat} (h : k < n) : ((List.range n).map f).getD k 0 = f k := by
  rw [List.getD_eq_getElem?_getD, List.getElem?_map, List.getElem?_range h]
  rfl
theorem mx_get {ns ms : List Int} {k : Nat} (h : k < ns.length) : (mx ns ms).getD k 0 = if ns.getD k 0 = ms.getD k 0 then 0 else 1 := map_getD h
structure Bits (ns : List Int) : Prop where
  ring : Ring ns
  bit : ∀ x ∈ ns, x = 0 ∨ x = 1
theorem Bits.bl {ns : List Int} (b : Bits ns) : Bl 1 ns := fun x hx => by
  rcases b.bit x hx with e | e <;> rw [e] <;> decide
theorem Bits.of {ns : List Int} (h3 : 3 ≤ ns.length) (h16 : ns.length ≤ 16) (h : ∀ k, k < ns.length → 0 ≤ ns.getD k 0 ∧ ns.getD k 0 ≤ 1) : Bits ns := by
  have q : ∀ x ∈ ns, 0 ≤ x ∧ x ≤ 1 := fun x hx => by
    obtain ⟨k, hk, e⟩ := mem_getD hx
    have := h k hk
    rw [e] at this
    exact this
  exact ⟨⟨h3, h16, fun x hx => by have := q x hx; omega⟩, fun x hx => by have := q x hx; omega⟩
theorem Bits.of_bl {ns : List Int} (R : Ring ns) (h : Bl 1 ns) : Bits ns := ⟨R, fun x hx => by have := h x hx; omega⟩
theorem Bits.gp {ns : List Int} (b : Bits ns) : Bits (gp ns) := Bits.of_bl b.ring.gpR b.bl.gp
theorem Bits.it {ns : List Int} (b : Bits ns) (t : Nat) : Bits (it t ns) := Bits.of_bl (b.ring.itR t) (b.bl.it t)
theorem Bits.flat {ns : List Int} (b : Bits ns) : Flat 1 (fn ns) := fun i => by
  obtain ⟨k, hk, _, e⟩ := fn_at b.ring.pos i
  rw [e]
  exact b.bit _ (getD_mem hk)
theorem Bits.mx {ns ms : List Int} (b : Bits ns) : Bits (mx ns ms) := Bits.of (by rw [mx_length]; exact b.ring.lo) (by rw [mx_length]; exact b.ring.hi) fun k hk => by
  rw [mx_length] at hk
  rw [mx_get hk]
  split <;> decide
theorem fn_mx {ns ms : List Int} (b : Bits ns) (c : Bits ms) (hl : ns.length = ms.length) : fn (mx ns ms) = xr (fn ns) (fn ms) := by
  funext i
  obtain ⟨k, hk, ek, e⟩ := fn_at (ns := GR.mx ns ms) (by rw [mx_length]; exact b.ring.pos) i
  rw [mx_length] at hk ek
  rw [e, mx_get hk]
  have e1 : fn ns i = ns.getD k 0 := by rw [← fn_mod, ← ek, fn_nat hk]
  have e2 : fn ms i = ms.getD k 0 := by rw [← fn_mod, ← hl, ← ek, fn_nat (by omega)]
  unfold xr
  rw [e1, e2]
  have q1 := b.bit _ (getD_mem hk)
  have q2 := c.bit _ (getD_mem (show k < ms.length by omega))
  split <;> omega
theorem mx_comm {ns ms : List Int} (hl : ns.length = ms.length) : mx ms ns = mx ns ms := list_ext' (by rw [mx_length, mx_length, hl]) fun k hk => by
  rw [mx_length] at hk
  rw [mx_get hk, mx_get (by omega)]
  by_cases c : ns.getD k 0 = ms.getD k 0
  · rw [if_pos c, if_pos c.symm]
  · rw [if_neg c, if_neg (fun q => c q.symm)]
theorem mx_self (ns : List Int) {k : Nat} (h : k < ns.length) : (mx ns ns).getD k 0 = 0 := by
  rw [mx_get h, if_pos rfl]
theorem mx_it {ns ms : List Int} (b : Bits ns) (c : Bits ms) (hl : ns.length = ms.length) (t : Nat) : it t (mx ns ms) = mx (it t ns) (it t ms) := by
  refine list_ext (by rw [it_length, mx_length, mx_length, it_length]) ?_
  rw [fn_it, fn_mx b c hl, fn_mx (b.it t) (c.it t) (by rw [it_length, it_length, hl]), itD_xr (by decide) t b.flat c.flat, fn_it, fn_it]
theorem mx_gp {ns ms : List Int} (b : Bits ns) (c : Bits ms) (hl : ns.length = ms.length) : gp (mx ns ms) = mx (gp ns) (gp ms) := mx_it b c hl 1
theorem bit_add {x y : Int} (hx : x = 0 ∨ x = 1) (hy : y = 0 ∨ y = 1) : (x + y) % 2 = if x = y then 0 else 1 := by
  rcases hx with e | e <;> rcases hy with f | f <;> rw [e, f] <;> decide
/-! ### turned -/
def td (ns : List Int) (b : Int) : List Int := (List.range ns.length).map fun (k : Nat) => fn ns ((k : Int) + b)
theorem td_length (ns : List Int) (b : Int) : (td ns b).length = ns.length := by
  unfold td
  rw [List.length_map, List.length_range]
theorem td_get {ns : List Int} {b : Int} {k : Nat} (h : k < ns.length) : (td ns b).getD k 0 = fn ns ((k : Int) + b) := map_getD h
theorem fn_td (ns : List Int) (b : Int) : fn (td ns b) = sh (fn ns) b := by
  funext i
  by_cases h : 0 < ns.length
  · obtain ⟨k, hk, ek, e⟩ := fn_at (ns := td ns b) (by rw [td_length]; exact h) i
    rw [td_length] at hk ek
    rw [e, td_get hk]
    unfold sh
    rw [← fn_mod, ek, ← fn_mod ns (i + b)]
    congr 1
    exact Int.emod_add_emod i (ns.length : Int) b
  · have e : ns = [] := List.length_eq_zero_iff.mp (by omega)
    subst e
    have z : ∀ x, fn [] x = 0 := fun x => by
      show ([] : List Int).getD _ 0 = 0
      rfl
    show fn [] i = fn [] (i + b)
    rw [z, z]
theorem td_back (ns : List Int) (b : Int) : td (td ns b) (0 - b) = ns := by
  refine list_ext (by rw [td_length, td_length]) ?_
  rw [fn_td, fn_td]
  funext i
  unfold sh
  congr 1
  omega
theorem td_it (ns : List Int) (b : Int) (t : Nat) : it t (td ns b) = td (it t ns) b := by
  refine list_ext (by rw [it_length, td_length, td_length, it_length]) ?_
  rw [fn_it, fn_td, fn_td, fn_it, itD_sh]
theorem td_inj {ns ms : List Int} {b : Int} (h : td ns b = td ms b) : ns = ms := by
  rw [← td_back ns b, h, td_back]
theorem td_mem {ns : List Int} {b : Int} : ∀ x ∈ td ns b, x ∈ ns := fun x hx => by
  obtain ⟨k, hk, e⟩ := mem_getD hx
  rw [td_length] at hk
  rw [td_get hk] at e
  obtain ⟨j, hj, _, e2⟩ := fn_at (ns := ns) (by omega) ((k : Int) + b)
  rw [← e, e2]
  exact getD_mem hj
theorem Ring.td {ns : List Int} (R : Ring ns) (b : Int) : Ring (td ns b) := ⟨by rw [td_length]; exact R.lo, by rw [td_length]; exact R.hi, fun x hx => R.bd x (td_mem x hx)⟩
theorem Wk.td {ns : List Int} {L T : Nat} (w : Wk ns L T) (b : Int) : Wk (td ns b) L T := ⟨fun i j hij hj e => by
  rw [td_it, td_it] at e
  exact w.inj i j hij hj (td_inj e), w.lt, by rw [td_it, td_it, w.eq]⟩
theorem two_turns {ns : List Int} (b : Bits ns) (j : Nat) : it (2 ^ j) ns = mx ns (td ns ((2 ^ j : Nat) : Int)) := by
  refine list_ext' (by rw [it_length, mx_length]) fun k hk => ?_
  rw [it_length] at hk
  rw [mx_get hk, td_get hk]
  have q := itD_two (by decide) j b.flat (k : Int)
  rw [← fn_it, fn_nat (by rw [it_length]; exact hk), fn_nat hk] at q
  rw [q]
  have q1 := b.bit _ (getD_mem hk)
  have q2 := b.flat ((k : Int) + (2 ^ j : Nat))
  split <;> omega
/-! ### contrary -/
def fl (r : Fn) : Fn := fun i => r (-1 - i)
theorem fl_fl (r : Fn) : fl (fl r) = r := by
  funext i
  unfold fl
  congr 1
  omega
theorem D_fl (r : Fn) : D (fl r) = sh (fl (D r)) 1 := by
  funext i
  show ((r (-1 - i) - r (-1 - (i + 1))).natAbs : Int) = ((r (-1 - (i + 1)) - r (-1 - (i + 1) + 1)).natAbs : Int)
  rw [show -1 - (i + 1) + 1 = -1 - i by omega]
  omega
theorem sh_sh (r : Fn) (a b : Int) : sh (sh r a) b = sh r (b + a) := by
  funext i
  unfold sh
  congr 1
  omega
theorem itD_fl (t : Nat) (r : Fn) : itD t (fl r) = sh (fl (itD t r)) t := by
  induction t generalizing r with
  | zero =>
    show fl r = sh (fl r) 0
    funext i
    unfold sh
    rw [Int.add_zero]
  | succ t ih =>
    show itD t (D (fl r)) = sh (fl (itD t (D r))) ((t + 1 : Nat) : Int)
    rw [D_fl, itD_sh, ih, sh_sh]
    congr 1
    omega
theorem rev_get {ns : List Int} {k : Nat} (h : k < ns.length) : ns.reverse.getD k 0 = ns.getD (ns.length - 1 - k) 0 := by
  rw [List.getD_eq_getElem?_getD, List.getD_eq_getElem?_getD, List.getElem?_reverse h]
theorem fn_rev (ns : List Int) : fn ns.reverse = fl (fn ns) := by
  funext i
  by_cases h : 0 < ns.length
  · obtain ⟨k, hk, ek, e⟩ := fn_at (ns := ns.reverse) (by rw [List.length_reverse]; exact h) i
    rw [List.length_reverse] at hk ek
    rw [e, rev_get hk]
    have hk2 : ns.length - 1 - k < ns.length := by omega
    rw [← fn_nat hk2]
    unfold fl
    rw [← fn_mod ns (-1 - i), ← fn_mod ns ((ns.length - 1 - k : Nat) : Int)]
    congr 1
    have e1 : ((ns.length - 1 - k : Nat) : Int) = (ns.length : Int) + (-1 - (k : Int)) := by omega
    rw [e1, Int.add_emod_left, ek]
    exact (Int.emod_eq_emod_iff_emod_sub_eq_zero.mpr (by
      rw [show -1 - i % (ns.length : Int) - (-1 - i) = i - i % (ns.length : Int) by omega]
      have := Int.emod_add_mul_ediv i (ns.length : Int)
      rw [show i - i % (ns.length : Int) = (ns.length : Int) * (i / (ns.length : Int)) by omega]
      exact Int.mul_emod_right _ _))
  · have e : ns = [] := List.length_eq_zero_iff.mp (by omega)
    subst e
    have z : ∀ x, fn [] x = 0 := fun x => by
      show ([] : List Int).getD _ 0 = 0
      rfl
    show fn [] i = fn [] (-1 - i)
    rw [z, z]
theorem rev_gp (ns : List Int) : gp ns.reverse = td (gp ns).reverse 1 := by
  refine list_ext (by rw [gp_length, td_length, List.length_reverse, List.length_reverse, gp_length]) ?_
  rw [fn_gp, fn_rev, fn_td, fn_rev, fn_gp, D_fl]
theorem fn_it_rev (ns : List Int) (t : Nat) : fn (it t ns.reverse) = sh (fl (fn (it t ns))) t := by
  rw [fn_it, fn_rev, itD_fl, fn_it]
theorem Ring.rev {ns : List Int} (R : Ring ns) : Ring ns.reverse := ⟨by rw [List.length_reverse]; exact R.lo, by rw [List.length_reverse]; exact R.hi, fun x hx => R.bd x (List.mem_reverse.mp hx)⟩
/-- what comes again, contrary, comes again behind n times as many turns -/
theorem rev_again {ns : List Int} {t p : Nat} (h : it (t + p) ns = it t ns) : it (t + ns.length * p) ns.reverse = it t ns.reverse := by
  refine list_ext (by rw [it_length, it_length]) ?_
  rw [fn_it_rev, fn_it_rev, it_shift_mul h ns.length t (Nat.le_refl t)]
  funext i
  unfold sh fl
  have hp : Per ns.length (fn (it t ns)) := fun i => by
    have := fn_per (it t ns) i
    rw [it_length] at this
    exact this
  have q := hp.mul p (-1 - (i + ((t + ns.length * p : Nat) : Int)))
  rw [← q]
  congr 1
  rw [Int.natCast_add, Int.natCast_mul, Int.mul_comm (p : Int) (ns.length : Int)]
  omega
theorem Wk.rev_tail {ns : List Int} {L T L' T' : Nat} (R : Ring ns) (w : Wk ns L T) (w' : Wk ns.reverse L' T') : T' = T := by
  have hp := R.pos
  have hl := w.lt
  have hl' := w'.lt
  have a : T' ≤ T := w'.tail (p := ns.length * (L - T)) (Nat.mul_pos hp (by omega)) (rev_again w.per)
  have b : T ≤ T' := by
    have q := rev_again w'.per
    rw [List.reverse_reverse, List.length_reverse] at q
    exact w.tail (Nat.mul_pos hp (by omega)) q
  omega
end GR
/-! ### list(reversed(a list)) -/
namespace GL
open PySem PySem.Spec PyProof.Rows L2 RT
section
variable {prog : Program} {w : World} {A : Around} {E : Value → Shared → Prop} {s : Shared} {it l S : Addr} {items : Array Value}
/-- an iterator that goes back over a list, and a list apart from both -/
structure RevRoom (s : Shared) (it l S : Addr) (items : Array Value) : Prop where
  iter : s.heap.IsRevIter it l ((items.size : Int) - 1)
  src : s.heap.IsList l items
  apart : l ≠ it
  few : items.size ≤ sizeLine
  it' : S ≠ it
  l' : S ≠ l
theorem RevRoom.on {h' : Heap} {t' : Nat} (x : RevRoom s it l S items) (k : ∀ b o, b ≠ S → s.heap.get? b = some o → h'.get? b = some o) : RevRoom { s with heap := h', toks := t' } it l S items :=
  ⟨x.iter.at fun o e => k it o x.it'.symm e, x.src.elim fun o h => ⟨o, k l o x.l'.symm h.1, h.2⟩, x.apart, x.few, x.it', x.l'⟩
/-- S holds the items from the last on; all but S and the iterator stands -/
def RevDone (s : Shared) (it S : Addr) (items : Array Value) (R : Shared → Prop) : Prop :=
  ∀ h' tk acc c, (∀ b o, b ≠ S → b ≠ it → s.heap.get? b = some o → h'.get? b = some o) → h'.get? S = some { cls := .type "list", dict := none, data := .seq acc c, slots := #[] } →
    ItemsOf (fun i v => items[items.size - 1 - i]? = some v) acc items.size → R { s with heap := h', toks := tk }
/-- such an iterator's hint makes no room -/
theorem hint_rev {Q : Bool → Shared → Prop} (hT : s.TypeIs (.ref it) "list_reverseiterator") (h : Q false s) : wpAny (model prog w) A (Builtin.List.listLengthHint (.ref it)) Q E s := by
  have own : splitId "list_reverseiterator.__length_hint__" = some ("list_reverseiterator", "__length_hint__") := by decide +kernel
  unfold Builtin.List.listLengthHint
  refine wpAny_bind (wpAny_specialOf hT nolen_lri (wpAny_bind (wpAny_specialOf hT hint_lri ?_)))
  generalize hid : ("list_reverseiterator.__length_hint__" : String) = id at own
  wp_delta
  rw [own]
  subst hid
  exact wpAny_bind (wpAny_isInstance (b := true) hT (by rw [isSubtype_type]; kernel_rfl) (wpAny_pure h))
/-- the list S, empty, takes the items -/
theorem take_rev {R : Result → Shared → Prop} {res : Value} {c0 : Nat} (hh : A.handled = none) (x : RevRoom s it l S items) (hS : s.heap.get? S = some { cls := .type "list", data := .seq #[] c0 }) (hR : RevDone s it S items (R (.ok (.ret res)))) :
    wpAny (model prog w) A.in1 (Builtin.List.listExtendWith (.ref S) (.ref it) res) (fun fin t => match fin with
      | .done f => R (.ok f) t
      | .again c' => c'.quiet = true ∧ codeAny (model prog w) A c' R t) (fun e t => R (.error e) t) s := by
  have walk := (Walks.listRev (prog := prog) (w := w) (A := A.in1) hh it l x.apart items).toS
  have other : Builtin.List.listSameRef (.ref S) (.ref it) = false := by simp [Builtin.List.listSameRef, x.it']
  have start : s.heap.IsRevIter it l ((items.size : Int) - 1 - ((0 : Nat) : Int)) := by simpa using x.iter
  unfold Builtin.List.listExtendWith
  refine wpAny_bind (wpAny_typeOf x.iter.typeIs ?_)
  rw [other, if_neg (by decide)]
  refine wpAny_bind (wpAny_pyIter_revIter (s := s) x.iter (wpAny_bind (wpAny_holding (hint_rev x.iter.typeIs ?_))))
  rw [if_neg (by decide)]
  refine wpAny_pure ⟨plainId_quiet F.plain_extend_loop _, codeAny_extend_loopS walk x.few _ (by simp [x.it', x.l']) _ items.size 0 _ _ _ rfl (Nat.zero_le _) ⟨Nat.zero_le _, start, x.src⟩ hS (ItemsOf.nil _) ?_⟩
  intro t acc c moved got all
  rw [Moved.eq_with moved]
  exact hR _ _ acc c (fun b o h1 h2 e => moved.heap b o (by simp [h1, h2]) e) got all
/-- list(..) of such an iterator, the list made anew -/
theorem call_list_rev {Q : Value → Shared → Prop} (hh : A.handled = none) (hit : s.heap.IsRevIter it l ((items.size : Int) - 1)) (hl : s.heap.IsList l items) (hne : l ≠ it) (hn : items.size ≤ sizeLine)
    (hQ : ∀ h' tk acc c, (∀ b o, b ≠ it → s.heap.get? b = some o → h'.get? b = some o) → h'.get? s.heap.objs.size = some { cls := .type "list", dict := none, data := .seq acc c, slots := #[] } →
      ItemsOf (fun i v => items[items.size - 1 - i]? = some v) acc items.size → Q (.ref s.heap.objs.size) { s with heap := h', toks := tk }) : wpAny (model prog w) A (call (.type "list") [.ref it]) Q E s := by
  have lt : ∀ {b o}, s.heap.get? b = some o → s.heap.objs.size ≠ b := fun e => Nat.ne_of_gt (Heap.lt_size e)
  let s1 : Shared := { s with heap := s.heap.push { cls := .type "list", data := .seq #[] } }
  have made : s1.heap.get? s.heap.objs.size = some { cls := .type "list", data := .seq #[] } := Heap.get?_push_size _ rfl
  have up : ∀ b o, s.heap.get? b = some o → s1.heap.get? b = some o := fun b o e => Heap.get?_push_of_some _ e
  refine callType_codes (Q₁ := fun obj t => obj = .ref s.heap.objs.size ∧ t = s1) F.called_list (F.typeCall_list_1 _) F.entry_list_init (code_list_new _ ⟨rfl, rfl⟩) ?_
  rintro _ _ ⟨rfl, rfl⟩
  refine ⟨⟨_, made, rfl⟩, F.args_list_init_2 _ _, ?_⟩
  -- __init__ takes out what was in it (nothing), then it takes the items
  show wpAny _ _ (do let old ← Builtin.List.listItems (.ref s.heap.objs.size); Builtin.List.listUpdate (.ref s.heap.objs.size) (fun _ => #[]); letGo old.toList.reverse; Builtin.List.listExtendWith (.ref s.heap.objs.size) (.ref it) .none) _ _ s1
  refine wpAny_bind (wpAny_listItems made rfl ?_)
  refine wpAny_bind (show wpAny _ _ (updateSeq s.heap.objs.size fun _ => #[]) _ _ s1 from wpAny_updateSeq made rfl (wpAny_bind (wpAny_letGo ?_)))
  have room : RevRoom s1 it l s.heap.objs.size items := ⟨hit.at fun o e => up _ o e, hl.push _, hne, hn, hit.elim fun o h => lt h.1, hl.elim fun o h => lt h.1⟩
  have stay : ∀ b o, b ≠ s.heap.objs.size → s1.heap.get? b = some o → (s1.heap.update s.heap.objs.size (Obj.mapSeq fun _ => (#[] : Array Value))).get? b = some o := fun b o hb e => (Heap.get?_update_other _ _ hb.symm).trans e
  refine take_rev (A := A.in1) hh (room.on (t' := s1.toks) stay) (Heap.get?_update_self (Obj.mapSeq fun _ => (#[] : Array Value)) made rfl) ?_
  intro h' tk acc c keep got all
  exact ⟨rfl, hQ h' tk acc c (fun b o hb e => keep b o (lt e).symm hb (stay b o (lt e).symm (up b o e))) got all⟩
end
/-- list(reversed(x)), x a list: a new list -/
def tListRev (K : PySem.W.Frag) (te : TE) : TE := fun σ H Q => te σ H fun v H1 => ∃ (a : Addr) (xs : List V), v = .ref a ∧ SqL K H1 a xs ∧ ∀ q, H1 q = none → Q (.ref q) (upd H1 q (.lst xs.reverse))
section
variable {X : Cx}
theorem pe_listRev {e : Expr} {te : TE} {p p2 pos pos2 : Pos} (hc : X.calm = true) (hg : Gl X "list") (hm : X.mg "list" = none) (hg2 : Gl X "reversed") (hm2 : X.mg "reversed" = none) (he : PE X e te)
    (h1 : starEach [e] X.env = (false, eval e X.env) :: starEach [] X.env := by rfl)
    (h2 : starEach [Expr.Call (.Name "reversed" p2) [e] [] pos2] X.env = (false, eval (Expr.Call (.Name "reversed" p2) [e] [] pos2) X.env) :: starEach [] X.env := by rfl) :
    PE X (.Call (.Name "list" p) [.Call (.Name "reversed" p2) [e] [] pos2] [] pos) (tListRev X.K te) where
  run := by
    intro pins s σ H Q I h
    have inner : ∀ {R : Value → Shared → Prop}, (∀ (t : Shared) (a : Addr) (xs : List V) (its : List Value) (H1 : Hp), L2.Inv X pins σ H1 t → Vals xs its → t.heap.IsList a its.toArray → xs.length ≤ sizeLine → (∀ q, H1 q = none → Q (.ref q) (upd H1 q (.lst xs.reverse))) →
        R (.ref t.heap.objs.size) { t with heap := t.heap.push (revObj a ((its.toArray.size : Int) - 1)) }) → wpAny (model X.prog X.w) X.A (eval (.Call (.Name "reversed" p2) [e] [] pos2) X.env) R X.xe s := fun {R} k =>
      Call_ (ld_blt I hg2 hm2 PyProof.Rows.boot_reversed (PyProof.Rows.callWith_type1 (args_cons (thn (he.run pins s σ H _ I h) fun u t hu => by
        obtain ⟨_, H1, I1, r1, a, xs, rfl, seq, q⟩ := hu
        cases r1
        obtain ⟨its, rel, there, few⟩ := I1.list seq
        exact args_nil (call_reversed_list there.isList (k t a xs its H1 I1 rel there.isList few q))) h1) h1 rfl))
    refine Call_ (ld_blt I hg hm bt_list (PyProof.Rows.callWith_type1 (args_cons (inner fun t a xs its H1 I1 rel there few q => args_nil ?_) h2) h2 rfl))
    have lt : ∀ {b o}, t.heap.get? b = some o → b ≠ t.heap.objs.size := fun e => Nat.ne_of_lt (Heap.lt_size e)
    have few' : its.toArray.size ≤ sizeLine := by rw [List.size_toArray, ← rel.length]; exact few
    refine call_list_rev (s := { t with heap := t.heap.push (revObj a ((its.toArray.size : Int) - 1)) }) (I1.ok.hd hc) ⟨_, Heap.get?_push_size _ rfl, rfl, rfl⟩ (there.push _) (there.elim fun o h => lt h.1) few' ?_
    intro h' tk acc c keep got all
    have behind : t.heap.objs.size ≤ (t.heap.push (revObj a ((its.toArray.size : Int) - 1))).objs.size := by rw [Heap.size_push]; exact Nat.le_succ _
    have back : ObjOk X.prog X.w (upd H1 (t.heap.push (revObj a ((its.toArray.size : Int) - 1))).objs.size (.lst xs.reverse)) h' (t.heap.push (revObj a ((its.toArray.size : Int) - 1))).objs.size (.lst xs.reverse) :=
      ⟨by rw [List.length_reverse]; exact few, acc.toList, c, vals_rev rel all, by rw [Array.toArray_toList]; exact got⟩
    exact ⟨.ref _, _, I1.laid (t' := tk) (fun b o e => keep b o (lt e) (Heap.get?_push_of_some _ e)) behind back, rfl, q _ (I1.hok.fresh behind)⟩
end
end GL
/-! ### the text by places -/
namespace GK
open PySem PySem.Spec PyProof.Rows L2 GL
def topS (i : Nat) : Stmt := PySem.Challenge.pw_gapring_k12_whole_turned.main.body.getD i (.Pass ⟨0, 0, 0, 0⟩)
abbrev s_asked : Stmt := topS 7
abbrev s_gaps_of : Stmt := topS 8
abbrev s_gaps : Stmt := topS 9
abbrev s_walked : Stmt := topS 10
abbrev s_after : Stmt := topS 11
abbrev s_turned : Stmt := topS 12
abbrev s_contrary : Stmt := topS 13
abbrev s_tail_and_wheel : Stmt := topS 15
abbrev s_l_cell_at : Stmt := topS 17
abbrev s_l_draw : Stmt := topS 18
abbrev s_l_whole : Stmt := topS 19
abbrev s_l_ring_by : Stmt := topS 20
abbrev s_l_is : Stmt := topS 21
abbrev s_law : Stmt := topS 22
abbrev N_asked : List Str := ["ring", "number"]
theorem sc_asked : FnScope N_asked ["ring"] (defScope s_asked) := ⟨rfl, rfl, rfl, by decide +kernel, rfl, by decide +kernel, by decide +kernel⟩
abbrev N_gaps_of : List Str := ["ring", "k"]
theorem sc_gaps_of : FnScope N_gaps_of ["ring"] (defScope s_gaps_of) := ⟨rfl, rfl, rfl, by decide +kernel, rfl, by decide +kernel, by decide +kernel⟩
abbrev N_gaps : List Str := ["ring"]
theorem sc_gaps : FnScope N_gaps ["ring"] (defScope s_gaps) := ⟨rfl, rfl, rfl, by decide +kernel, rfl, by decide +kernel, by decide +kernel⟩
abbrev N_walked : List Str := ["ring", "row", "places", "then"]
theorem sc_walked : FnScope N_walked ["ring"] (defScope s_walked) := ⟨rfl, rfl, rfl, by decide +kernel, rfl, by decide +kernel, by decide +kernel⟩
abbrev N_after : List Str := ["ring", "turns", "row", "tail"]
theorem sc_after : FnScope N_after ["ring", "turns"] (defScope s_after) := ⟨rfl, rfl, rfl, by decide +kernel, rfl, by decide +kernel, by decide +kernel⟩
abbrev N_turned : List Str := ["ring", "by", "k"]
theorem sc_turned : FnScope N_turned ["ring", "by"] (defScope s_turned) := ⟨rfl, rfl, rfl, by decide +kernel, rfl, by decide +kernel, by decide +kernel⟩
abbrev N_contrary : List Str := ["ring"]
theorem sc_contrary : FnScope N_contrary ["ring"] (defScope s_contrary) := ⟨rfl, rfl, rfl, by decide +kernel, rfl, by decide +kernel, by decide +kernel⟩
abbrev N_tail_and_wheel : List Str := ["ring", "row", "tail"]
theorem sc_tail_and_wheel : FnScope N_tail_and_wheel ["ring"] (defScope s_tail_and_wheel) := ⟨rfl, rfl, rfl, by decide +kernel, rfl, by decide +kernel, by decide +kernel⟩
abbrev N_l_cell_at : List Str := ["script", "k"]
theorem sc_l_cell_at : FnScope N_l_cell_at ["script", "k"] (defScope s_l_cell_at) := ⟨rfl, rfl, rfl, by decide +kernel, rfl, by decide +kernel, by decide +kernel⟩
abbrev N_l_draw : List Str := ["cell", "k", "bound", "stir"]
theorem sc_l_draw : FnScope N_l_draw ["cell", "k", "bound"] (defScope s_l_draw) := ⟨rfl, rfl, rfl, by decide +kernel, rfl, by decide +kernel, by decide +kernel⟩
abbrev N_l_whole : List Str := ["found"]
theorem sc_l_whole : FnScope N_l_whole ["found"] (defScope s_l_whole) := ⟨rfl, rfl, rfl, by decide +kernel, rfl, by decide +kernel, by decide +kernel⟩
abbrev N_l_ring_by : List Str := ["script", "first", "cell", "size", "bound", "ring", "k", "number"]
theorem sc_l_ring_by : FnScope N_l_ring_by ["script", "first"] (defScope s_l_ring_by) := ⟨rfl, rfl, rfl, by decide +kernel, rfl, by decide +kernel, by decide +kernel⟩
abbrev N_l_is : List Str := ["found", "due", "number"]
theorem sc_l_is : FnScope N_l_is ["found", "due"] (defScope s_l_is) := ⟨rfl, rfl, rfl, by decide +kernel, rfl, by decide +kernel, by decide +kernel⟩
abbrev N_law : List Str := ["script", "ring", "by", "handed", "found", "back", "told", "turns", "own", "k"]
theorem sc_law : FnScope N_law ["script"] (defScope s_law) := ⟨rfl, rfl, rfl, by decide +kernel, rfl, by decide +kernel, by decide +kernel⟩
/-- what the top has left -/
structure Txt (K : PySem.W.Frag) (mg : Str → Option Value) where
  f_asked : Addr
  d_asked : FuncData
  F_asked : Fun K "asked" "asked" s_asked f_asked d_asked
  b_asked : Binds K d_asked ["ring"] []
  g_asked : mg "asked" = some (.ref f_asked)
  f_gaps_of : Addr
  d_gaps_of : FuncData
  F_gaps_of : Fun K "gaps_of" "gaps_of" s_gaps_of f_gaps_of d_gaps_of
  b_gaps_of : Binds K d_gaps_of ["ring"] []
  g_gaps_of : mg "gaps_of" = some (.ref f_gaps_of)
  f_gaps : Addr
  d_gaps : FuncData
  F_gaps : Fun K "gaps" "gaps" s_gaps f_gaps d_gaps
  b_gaps : Binds K d_gaps ["ring"] []
  g_gaps : mg "gaps" = some (.ref f_gaps)
  f_walked : Addr
  d_walked : FuncData
  F_walked : Fun K "walked" "walked" s_walked f_walked d_walked
  b_walked : Binds K d_walked ["ring"] []
  g_walked : mg "walked" = some (.ref f_walked)
  f_after : Addr
  d_after : FuncData
  F_after : Fun K "after" "after" s_after f_after d_after
  b_after : Binds K d_after ["ring", "turns"] []
  g_after : mg "after" = some (.ref f_after)
  f_turned : Addr
  d_turned : FuncData
  F_turned : Fun K "turned" "turned" s_turned f_turned d_turned
  b_turned : Binds K d_turned ["ring", "by"] []
  g_turned : mg "turned" = some (.ref f_turned)
  f_contrary : Addr
  d_contrary : FuncData
  F_contrary : Fun K "contrary" "contrary" s_contrary f_contrary d_contrary
  b_contrary : Binds K d_contrary ["ring"] []
  g_contrary : mg "contrary" = some (.ref f_contrary)
  f_tail_and_wheel : Addr
  d_tail_and_wheel : FuncData
  F_tail_and_wheel : Fun K "tail_and_wheel" "tail_and_wheel" s_tail_and_wheel f_tail_and_wheel d_tail_and_wheel
  b_tail_and_wheel : Binds K d_tail_and_wheel ["ring"] []
  g_tail_and_wheel : mg "tail_and_wheel" = some (.ref f_tail_and_wheel)
  f_l_cell_at : Addr
  d_l_cell_at : FuncData
  F_l_cell_at : Fun K "_law_cell_at" "_law_cell_at" s_l_cell_at f_l_cell_at d_l_cell_at
  b_l_cell_at : Binds K d_l_cell_at ["script", "k"] []
  g_l_cell_at : mg "_law_cell_at" = some (.ref f_l_cell_at)
  f_l_draw : Addr
  d_l_draw : FuncData
  F_l_draw : Fun K "_law_draw" "_law_draw" s_l_draw f_l_draw d_l_draw
  b_l_draw : Binds K d_l_draw ["cell", "k", "bound"] []
  g_l_draw : mg "_law_draw" = some (.ref f_l_draw)
  f_l_whole : Addr
  d_l_whole : FuncData
  F_l_whole : Fun K "_law_whole" "_law_whole" s_l_whole f_l_whole d_l_whole
  b_l_whole : Binds K d_l_whole ["found"] []
  g_l_whole : mg "_law_whole" = some (.ref f_l_whole)
  f_l_ring_by : Addr
  d_l_ring_by : FuncData
  F_l_ring_by : Fun K "_law_ring_by" "_law_ring_by" s_l_ring_by f_l_ring_by d_l_ring_by
  b_l_ring_by : Binds K d_l_ring_by ["script", "first"] []
  g_l_ring_by : mg "_law_ring_by" = some (.ref f_l_ring_by)
  f_l_is : Addr
  d_l_is : FuncData
  F_l_is : Fun K "_law_is" "_law_is" s_l_is f_l_is d_l_is
  b_l_is : Binds K d_l_is ["found", "due"] []
  g_l_is : mg "_law_is" = some (.ref f_l_is)
  f_law : Addr
  d_law : FuncData
  F_law : Fun K "law" "law" s_law f_law d_law
  b_law : Binds K d_law ["script"] []
  g_law : mg "law" = some (.ref f_law)
  c_FEWEST : ∃ t, mg "FEWEST" = some (.int 3 t)
  c_MOST : ∃ t, mg "MOST" = some (.int 16 t)
  c_GREATEST : ∃ t, mg "GREATEST" = some (.int 1000 t)
  z_abs : mg "abs" = none
  z_bool : mg "bool" = none
  z_int : mg "int" = none
  z_isinstance : mg "isinstance" = none
  z_len : mg "len" = none
  z_list : mg "list" = none
  z_range : mg "range" = none
  z_reversed : mg "reversed" = none
  z_tuple : mg "tuple" = none
section
variable {P : Program} {w : World} {K : PySem.W.Frag} {mg : Str → Option Value} {base : Heap}
/-! ### asked: a ring passes -/
def sp_asked (K : PySem.W.Frag) : Sp := fun vs H Q _ => ∃ (a : Addr) (ns : List Int), vs = [.ref a] ∧ SqL K H a (vi ns) ∧ GR.Ring ns ∧ Q .non H
theorem ok_asked (T : Txt K mg) : FnOk P w K mg base CX0 1 T.f_asked T.d_asked ["ring"] (sp_asked K) := by
  refine T.F_asked.ok sc_asked (fun vs H Q E h => ?_) (fun cdv A outer s H vs Q E hr h => ?_)
  · obtain ⟨a, ns, rfl, _⟩ := h
    rfl
  · obtain ⟨a, ns, rfl, hS, R, q⟩ := h
    refine ⟨_, pss_cons (ps_if (PW.pt (pw_or (pt_cmpR op_lt (pe_callB call_len_seq (by rfl) T.z_len bt_len (pa_cons (pv 0) pa_nil)) (pe_num T.c_FEWEST) (nomark _))
        (pw_or1 (pt_cmpR op_gt (pe_callB call_len_seq (by rfl) T.z_len bt_len (pa_cons (pv 0) pa_nil)) (pe_num T.c_MOST) (nomark _))))) pss_never pss_nil)
      (pss_one (ps_for PassesOwn.never rfl (pi_list (pv 0)) (pg_name (i := 1) sc_asked.nd rfl (.inl rfl))
        (pss_one (ps_if (PW.pt (pw_or (pt_cmpR op_lt (pv 1) pe_int (nomark _)) (pw_or1 (pt_cmpR op_gt (pv 1) (pe_num T.c_GREATEST) (nomark _))))) pss_never pss_nil)))), ?_⟩
    have h3 := R.lo
    have h16 := R.hi
    refine ⟨_, rfl, a, _, rfl, .inl hS, _, _, rfl, rfl, _, rfl, ifN (by rw [vi_len]; omega) ?_⟩
    refine ⟨_, rfl, a, _, rfl, .inl hS, _, _, rfl, rfl, _, rfl, ifN (by rw [vi_len]; omega) ?_⟩
    refine ⟨_, rfl, a, rfl, ⟨_, hS⟩, for_list (K := K) (a := a) (xs := vi ns) (fun i σ H' => ∃ v, σ = [some (.ref a), v] ∧ H' = H) ⟨none, rfl, rfl⟩ (fun i σ H' _ ⟨_, _, e⟩ => e ▸ hS) ?_ ?_⟩
    · rintro i x σ H' hi ⟨v, rfl, rfl⟩
      obtain ⟨z, hz, rfl⟩ := vi_at hi
      have b := R.bd z (List.mem_of_getElem? hz)
      refine ⟨_, rfl, _, _, rfl, rfl, _, rfl, ifN (by omega) ?_⟩
      exact ⟨_, rfl, _, _, rfl, rfl, _, rfl, ifN (by omega) ⟨_, rfl, rfl⟩⟩
    · rintro σ H' ⟨v, rfl, rfl⟩
      exact q
/-! ### gaps_of -/
theorem gapE {ns : List Int} {j k : Nat} {i : Int} (hk : k < ns.length) (hj : j = (k + 1) % ns.length) (e : i = ns.getD k 0 - ns.getD j 0) : V.int (if i < 0 then -i else i) = V.int ((GR.gp ns).getD k 0) := by
  subst e hj
  rw [abs_eq, GR.gp_get hk]
theorem gp_take {ns : List Int} {k : Nat} (h : k < ns.length) : vi ((GR.gp ns).take k) ++ [V.int ((GR.gp ns).getD k 0)] = vi ((GR.gp ns).take (k + 1)) := by
  have h' : k < (GR.gp ns).length := by rw [GR.gp_length]; exact h
  show List.map V.int _ ++ _ = List.map V.int _
  rw [List.take_add_one, getD_some h', List.map_append]
  rfl
theorem gp_all (ns : List Int) : (GR.gp ns).take ns.length = GR.gp ns := List.take_of_length_le (Nat.le_of_eq (GR.gp_length ns))
def sp_gapsL (K : PySem.W.Frag) (lo : Nat) : Sp := fun vs H Q _ => ∃ (a : Addr) (ns : List Int), vs = [.ref a] ∧ SqL K H a (vi ns) ∧ lo ≤ ns.length ∧ ns.length ≤ 1000 ∧
  ∀ H' p, Same H H' → H p = none → H' p = some (.lst (vi (GR.gp ns))) → Q (.ref p) H'
theorem ok_gaps_of (T : Txt K mg) : FnOk P w K mg base CX0 1 T.f_gaps_of T.d_gaps_of ["ring"] (sp_gapsL K 1) := by
  refine T.F_gaps_of.ok sc_gaps_of (fun vs H Q E h => ?_) (fun cdv A outer s H vs Q E hr h => ?_)
  · obtain ⟨a, ns, rfl, _⟩ := h
    rfl
  · obtain ⟨a, ns, rfl, hS, h1, h16, q⟩ := h
    refine ⟨_, pss_one (ps_ret (pe_op op_cat
      (pe_lc (own := [("k", 1)]) (g := gName 1) (tt := tYes) rfl sc_gaps_of.nd (pi_range2 (by rfl) T.z_range (pa_cons pe_int (pa_cons (pe_callB call_len_seq (by rfl) T.z_len bt_len (pa_cons (pv 0) pa_nil)) pa_nil)))
        (blkOk_by (own := [("k", 1)]) (N := N_gaps_of) (sc := defScope s_gaps_of) (by decide +kernel)) (fun _ _ _ _ _ => pg_name (i := 1) sc_gaps_of.nd rfl (Or.inl rfl)) (fun _ _ _ _ _ => pts_nil)
        (fun _ _ _ _ _ => pe_callB call_abs (by rfl) T.z_abs bt_abs (pa_cons (pe_op op_sub (pe_ix (ixL K rfl) (pv 0) (pe_op op_sub (pv 1) pe_int) (fun _ _ => rfl)) (pe_ix (ixL K rfl) (pv 0) (pv 1) (fun _ _ => rfl))) pa_nil)))
      (pe_lst (pa_cons (pe_callB call_abs (by rfl) T.z_abs bt_abs (pa_cons (pe_op op_sub (pe_ix ix_list (pv 0) (pe_un un_neg pe_int) (fun _ _ => rfl)) (pe_ix ix_list (pv 0) pe_int (fun _ _ => rfl))) pa_nil)) pa_nil)))), ?_⟩
    refine ⟨_, rfl, a, _, rfl, .inl hS, _, _, rfl, ⟨by decide, by decide, by rw [vi_len]; omega, by rw [vi_len]; omega⟩, fun D nD => ?_⟩
    refine lc_range (lo := 1) (n := _) (fun i H' => Same H H' ∧ H' D = some (.lst (vi ((GR.gp ns).take i)))) ⟨Same.new nD, upd_same⟩ ?_ ?_
    · rintro i H' hi ⟨sm, eD⟩
      rw [vi_len] at hi
      have hA := sm.seq hS
      have k0 : i < ns.length := by omega
      have k1 : i + 1 < ns.length := by omega
      refine ⟨rfl, ?_⟩
      refine ⟨_, rfl, _, rfl, _, _, rfl, rfl, a, _, _, _, rfl, rfl, hA, atI_of (j := i) (by omega) (vi_nth k0), _, rfl, _, rfl, a, _, _, _, rfl, rfl, hA, atI_of (j := i + 1) (by omega) (vi_nth k1), _, _, rfl, rfl, _, rfl, _, eD, ?_, ?_⟩
      · exact line_lt (by rw [vi_len, List.length_take, GR.gp_length]; omega)
      · refine ⟨fun b o e => ?_, ?_⟩
        · rw [upd_ne (ne_of_none e nD)]
          exact sm b o e
        · rw [upd_same, gapE (j := i + 1) k0 (by rw [Nat.mod_eq_of_lt k1]) rfl, gp_take k0]
    · rintro H' ⟨sm, eD⟩
      have hA := sm.seq hS
      have kl : ns.length - 1 < ns.length := by omega
      have kz : 0 < ns.length := by omega
      rw [vi_len] at eD
      have en : ((ns.length : Int) - 1).toNat = ns.length - 1 := by omega
      rw [en] at eD
      refine ⟨_, rfl, _, rfl, a, _, _, _, rfl, rfl, hA, atI_neg (by rw [vi_len]; exact vi_nth kl), _, rfl, a, _, _, _, rfl, rfl, hA, atI_of (j := 0) rfl (vi_nth kz), _, _, rfl, rfl, _, rfl, (by show 1 ≤ sizeLine; decide), fun B nB => ?_⟩
      have nDB : D ≠ B := ne_of_none eD nB
      refine ⟨D, B, _, _, rfl, rfl, by rw [upd_ne nDB]; exact eD, upd_same, ?_, fun p np => ?_⟩
      · exact line_le (by rw [vi_len, List.length_take, GR.gp_length]; simp only [List.length_cons, List.length_nil]; omega)
      · have npB : H' p = none := by
          rw [upd_ne (fun z => by rw [z, upd_same] at np; cases np)] at np
          exact np
        refine q _ p ((sm.put (sm.free nB)).put (sm.free npB)) (sm.free npB) ?_
        rw [upd_same, gapE (j := 0) kl (by rw [show ns.length - 1 + 1 = ns.length by omega, Nat.mod_self]) rfl, gp_take kl, show ns.length - 1 + 1 = ns.length by omega, gp_all]
/-! ### gaps -/
def sp_gaps (K : PySem.W.Frag) : Sp := fun vs H Q _ => ∃ (a : Addr) (ns : List Int), vs = [.ref a] ∧ SqL K H a (vi ns) ∧ GR.Ring ns ∧
  ∀ H' p, Same H H' → H p = none → H' p = some (.lst (vi (GR.gp ns))) → Q (.ref p) H'
theorem ok_gaps (T : Txt K mg) : FnOk P w K mg base CX0 2 T.f_gaps T.d_gaps ["ring"] (sp_gaps K) := by
  refine T.F_gaps.ok sc_gaps (fun vs H Q E h => ?_) (fun cdv A outer s H vs Q E hr h => ?_)
  · obtain ⟨a, ns, rfl, _⟩ := h
    rfl
  · obtain ⟨a, ns, rfl, hS, R, q⟩ := h
    refine ⟨_, pss_cons (ps_expr (pe_call (ok_asked T) hr (by rfl) T.g_asked T.F_asked.kp T.b_asked .nil pass0 (pa_cons (pv 0) pa_nil)))
      (pss_one (ps_ret (pe_call (ok_gaps_of T) hr (by rfl) T.g_gaps_of T.F_gaps_of.kp T.b_gaps_of .nil pass0 (pa_cons (pv 0) pa_nil)))), ?_⟩
    refine ⟨_, rfl, a, ns, rfl, hS, R, _, rfl, a, ns, rfl, hS, by have := R.lo; omega, by have := R.hi; omega, fun H' p sm np ep => ?_⟩
    exact q H' p sm np ep
/-! ### walked: all rings to which a ring comes -/
def sp_walked (K : PySem.W.Frag) : Sp := fun vs H Q _ => ∃ (a : Addr) (ns : List Int), vs = [.ref a] ∧ SqL K H a (vi ns) ∧ GR.Ring ns ∧
  ∀ (H' : Hp) (t r : Addr) (rs : List Addr) (L Tl : Nat), Same H H' → H t = none → H' t = some (.tup [.ref r, .int (Tl : Nat)]) → H' r = some (.lst (rs.map V.ref)) → rs.length = L → (∀ (j : Nat) x, rs[j]? = some x → H' x = some (.lst (vi (GR.it j ns)))) → GR.Wk ns L Tl → Q (.ref t) H'
theorem ok_walked (T : Txt K mg) : FnOk P w K mg base CX0 2 T.f_walked T.d_walked ["ring"] (sp_walked K) := by
  refine T.F_walked.ok sc_walked (fun vs H Q E h => ?_) (fun cdv A outer s H vs Q E hr h => ?_)
  · obtain ⟨a, ns, rfl, _⟩ := h
    rfl
  · obtain ⟨a, ns, rfl, hS, R, q⟩ := h
    have hu := hu_of hr
    have R3 := R.lo
    have R16 := R.hi
    refine ⟨_, (pss_cons (ps_set (i := 1) sc_walked.nd rfl (.inl rfl) (pe_lst (pa_cons (pe_callTy (listL K rfl) (by rfl) T.z_list bt_list (pa_cons (pv 0) pa_nil)) pa_nil)))
      (pss_cons (ps_set (i := 2) sc_walked.nd rfl (.inl rfl) (pe_disp1T hu (pe_callTy (tupleL K rfl) (by rfl) T.z_tuple bt_tuple (pa_cons (pv 0) pa_nil)) pe_int))
      (pss_cons (ps_set (i := 3) sc_walked.nd rfl (.inl rfl) (pe_call (ok_gaps_of T) (hr.mono (by decide)) (by rfl) T.g_gaps_of T.F_gaps_of.kp T.b_gaps_of .nil pass0 (pa_cons (pv 0) pa_nil)))
      (pss_cons (ps_while PassesOwn.never (pt_cmp (pc_dnotin hu (pe_callTy (tupleL K rfl) (by rfl) T.z_tuple bt_tuple (pa_cons (pv 3) pa_nil)) (pv 2))) (pss_cons (ps_dput hu (pv 2) (pe_callTy (tupleL K rfl) (by rfl) T.z_tuple bt_tuple (pa_cons (pv 3) pa_nil)) (pe_callB (lenL K rfl) (by rfl) T.z_len bt_len (pa_cons (pv 1) pa_nil)) rfl)
      (pss_cons (ps_expr (pe_bm PySem.F.plainAttrs_list PySem.F.slot_list_append PySem.F.type_list_append mt_append (pv 1) (pa_cons (pv 3) pa_nil)))
      (pss_one (ps_set (i := 3) sc_walked.nd rfl (.inl rfl) (pe_call (ok_gaps_of T) (hr.mono (by decide)) (by rfl) T.g_gaps_of T.F_gaps_of.kp T.b_gaps_of .nil pass0 (pa_cons (pv 3) pa_nil)))))))
      (pss_one (ps_ret (pe_tup (pa_cons (pv 1) (pa_cons (pe_dget hu (pv 2) (pe_callTy (tupleL K rfl) (by rfl) T.z_tuple bt_tuple (pa_cons (pv 3) pa_nil)) (fun _ _ => rfl)) pa_nil))))))))), ?_⟩
    -- row = [list(ring)]
    refine ⟨_, rfl, a, _, rfl, .inl hS, fun c nc => ⟨by show 1 ≤ sizeLine; decide, fun r nr => ?_⟩⟩
    have s1 : Same H (upd H c (.lst (vi ns))) := Same.new nc
    have s2 := Same.new (o := .lst [.ref c]) nr
    have nrH := s1.free nr
    have ec : (upd (upd H c (.lst (vi ns))) r (.lst [.ref c])) c = some (.lst (vi ns)) := s2 _ _ upd_same
    -- places = {tuple(ring): 0}
    intro p np
    have s3 := Same.new (o := .dT []) np
    have sA := (s1.trans s2).trans s3
    have npr : p ≠ r := (new_ne np).symm
    refine ⟨_, rfl, a, _, rfl, .inl ⟨sA.seq hS, fun b nb => ?_⟩⟩
    have nbp : p ≠ b := ne_of_none upd_same nb
    refine ⟨by rw [upd_ne nbp]; exact upd_same, keyL ns, b, rfl, by rw [upd_same, keyL_kV], ?_⟩
    -- then = gaps_of(ring)
    have npH := (s1.trans s2).free np
    have nbH := sA.free nb
    have sB : Same H (upd (upd (upd (upd (upd H c (.lst (vi ns))) r (.lst [.ref c])) p (.dT [])) b (.tup (vi ns))) p (.dT [(keyL ns, .int 0)])) := (sA.put nbH).put npH
    refine ⟨_, rfl, a, ns, rfl, sB.seq hS, by omega, by omega, fun H2 th sm nth eth => ?_⟩
    have nbr : b ≠ r := by
      intro z
      rw [z, upd_ne npr.symm, upd_same] at nb
      cases nb
    have er : (upd (upd (upd (upd (upd H c (.lst (vi ns))) r (.lst [.ref c])) p (.dT [])) b (.tup (vi ns))) p (.dT [(keyL ns, .int 0)])) r = some (.lst [.ref c]) := by
      rw [upd_ne npr.symm, upd_ne nbr.symm, upd_ne npr.symm, upd_same]
    have ecr : c ≠ r := (new_ne nr)
    have ecp : c ≠ p := ne_of_none ec np
    have ecb : c ≠ b := ne_of_none (s3 _ _ ec) nb
    have ecc : (upd (upd (upd (upd (upd H c (.lst (vi ns))) r (.lst [.ref c])) p (.dT [])) b (.tup (vi ns))) p (.dT [(keyL ns, .int 0)])) c = some (.lst (vi ns)) := by
      rw [upd_ne ecp, upd_ne ecb, upd_ne ecp]
      exact ec
    have I1 : WkInv ns H 1 H2 r p th [c] := by
      refine ⟨sB.trans sm, nrH, npH, sm _ _ er, rfl, fun j x hx => ?_, sm _ _ upd_same, eth, fun z => ?_, fun j k h1 h2 => by omega⟩
      · cases j with
        | zero =>
          have ex : c = x := Option.some.inj hx
          rw [← ex]
          exact ⟨ecr, sm _ _ ecc⟩
        | succ j => simp at hx
      · rw [z, er] at nth
        cases nth
    refine ⟨fun m σ H' => ∃ (i : Nat) (th : Addr) (rs : List Addr), m + i = 80538 ∧ σ = [some (.ref a), some (.ref r), some (.ref p), some (.ref th)] ∧ WkInv ns H i H' r p th rs, ⟨80537, 1, th, [c], rfl, rfl, I1⟩, ?_⟩
    rintro m σ H' ⟨i, th, rs, em, rfl, I⟩
    -- while tuple(then) not in places
    refine ⟨_, rfl, th, _, rfl, .inl ⟨SqL.of I.hth, fun k nk => ?_⟩⟩
    have I2 := I.beside (o := .tup (vi (GR.it i ns))) nk
    refine ⟨_, rfl, p, _, rfl, DGet.t (k := keyL (GR.it i ns)) I2.hdict (by rw [upd_same, keyL_kV]), _, rfl, ?_⟩
    by_cases hin : ∃ j, j < i ∧ GR.it j ns = GR.it i ns
    · obtain ⟨j, hj, ej⟩ := hin
      have ev := kvsOf_some hj ej I.inj
      rw [ev]
      refine iteF ?_
      -- return (row, places[tuple(then)])
      refine ⟨_, rfl, _, rfl, _, rfl, th, _, rfl, .inl ⟨SqL.of I2.hth, fun k2 nk2 => ?_⟩⟩
      have I3 := I2.beside (o := .tup (vi (GR.it i ns))) nk2
      refine ⟨p, .int j, rfl, ?_, (by show 2 ≤ sizeLine; decide), fun t nt => ?_⟩
      · rw [← ev]
        exact DGet.t (k := keyL (GR.it i ns)) I3.hdict (by rw [upd_same, keyL_kV])
      · have I4 := I3.beside (o := .tup [.ref r, .int j]) nt
        exact q _ t r rs i j I4.same (I3.same.free nt) upd_same I4.hrow I4.hlen (fun j x hx => (I4.hitems j x hx).2) ⟨I.inj, hj, ej.symm⟩
    · have hno : ∀ j, j < i → GR.it j ns ≠ GR.it i ns := fun j hj e => hin ⟨j, hj, e⟩
      have hb : i + 1 ≤ 80536 := R.bound fun x y hxy hy => by
        by_cases c : y < i
        · exact I.inj x y hxy c
        · have ey : y = i := by omega
          subst ey
          exact hno x hxy
      rw [kvsOf_none hno]
      refine iteT ?_
      refine ⟨fun σ H' => ∃ (th : Addr) (rs : List Addr), σ = [some (.ref a), some (.ref r), some (.ref p), some (.ref th)] ∧ WkInv ns H (i + 1) H' r p th rs, ?_, ?_⟩
      · rintro σ' H5 ⟨th5, rs5, e5, I5⟩
        exact ⟨m - 1, by omega, i + 1, th5, rs5, by omega, e5, I5⟩
      -- places[tuple(then)] = len(row)
      refine ⟨_, rfl, r, _, rfl, .inl (SqL.of I2.hrow), _, rfl, _, rfl, th, _, rfl, .inl ⟨SqL.of I2.hth, fun k2 nk2 => ?_⟩⟩
      have I3 := I2.beside (o := .tup (vi (GR.it i ns))) nk2
      refine ⟨p, _, rfl, DPut.t (k := keyL (GR.it i ns)) I3.hdict (by rw [upd_same, keyL_kV]) (line_lt (by rw [kvsOf_len]; omega)), ?_⟩
      have e1 : putK (kvsOf ns i) (keyL (GR.it i ns)) (V.int ((rs.map V.ref).length : Nat)) = kvsOf ns (i + 1) := by
        rw [putK_new _ (kvsOf_none hno), kvsOf_succ, List.length_map, I.hlen]
      rw [e1]
      -- row.append(then)
      have npr3 : r ≠ p := npr.symm
      have er3 := at_ne (o := .dT (kvsOf ns (i + 1))) I3.hrow npr3
      refine ⟨_, rfl, .inl ⟨rfl, _, SqL.of er3⟩, _, rfl, r, _, _, rfl, rfl, er3, line_lt (by rw [List.length_map, I.hlen]; omega), ?_⟩
      -- then = gaps_of(then)
      have eth3 := at_ne (o := .lst (rs.map V.ref ++ [V.ref th])) (at_ne (o := .dT (kvsOf ns (i + 1))) I3.hth (ne_of I3.hth I3.hdict (fun z => by cases z))) I.thr
      refine ⟨_, rfl, th, GR.it i ns, rfl, SqL.of eth3, by rw [GR.it_length]; omega, by rw [GR.it_length]; omega, fun H6 g s6 ng eg => ?_⟩
      refine ⟨g, rs ++ [th], rfl, I3.next hno s6 ng ?_⟩
      rw [GR.it_succ]
      exact eg
/-! ### after -/
theorem nd_at {rs : List Addr} {j : Nat} {x : Addr} (h : rs[j]? = some x) : (rs.map V.ref)[j]? = some (.ref x) := by
  rw [List.getElem?_map, h]
  rfl
def sp_after (K : PySem.W.Frag) : Sp := fun vs H Q _ => ∃ (a : Addr) (ns : List Int) (t : Nat), vs = [.ref a, .int t] ∧ SqL K H a (vi ns) ∧ GR.Ring ns ∧
  ∀ H' p, Same H H' → H p = none → H' p = some (.lst (vi (GR.it t ns))) → Q (.ref p) H'
theorem ok_after (T : Txt K mg) : FnOk P w K mg base CX0 3 T.f_after T.d_after ["ring", "turns"] (sp_after K) := by
  refine T.F_after.ok sc_after (fun vs H Q E h => ?_) (fun cdv A outer s H vs Q E hr h => ?_)
  · obtain ⟨a, ns, t, rfl, _⟩ := h
    rfl
  · obtain ⟨a, ns, t, rfl, hS, R, q⟩ := h
    refine ⟨_, (pss_cons (ps_expr (pe_call (ok_asked T) (hr.mono (by decide)) (by rfl) T.g_asked T.F_asked.kp T.b_asked .nil pass0 (pa_cons (pv 0) pa_nil)))
      (pss_cons (ps_asg (pe_call (ok_walked T) (hr.mono (by decide)) (by rfl) T.g_walked T.F_walked.kp T.b_walked .nil pass0 (pa_cons (pv 0) pa_nil)) (pg_tup rfl (pgs_cons (pg_name (i := 2) sc_after.nd rfl (.inl rfl)) (pgs_cons (pg_name (i := 3) sc_after.nd rfl (.inl rfl)) pgs_nil))))
      (pss_cons (ps_if (pt_cmpR op_ge (pv 1) (pe_callB (lenL K rfl) (by rfl) T.z_len bt_len (pa_cons (pv 2) pa_nil)) (nomark _)) (pss_one (ps_set (i := 1) sc_after.nd rfl (.inl rfl) (pe_op op_add (pv 3) (pe_op op_mod (pe_op op_sub (pv 1) (pv 3)) (pe_op op_sub (pe_callB (lenL K rfl) (by rfl) T.z_len bt_len (pa_cons (pv 2) pa_nil)) (pv 3)))))) pss_nil)
      (pss_one (ps_ret (pe_callTy (listL K rfl) (by rfl) T.z_list bt_list (pa_cons (pe_ix (ixL K rfl) (pv 2) (pv 1) (fun _ _ => rfl)) pa_nil))))))), ?_⟩
    refine ⟨_, rfl, a, ns, rfl, hS, R, ?_⟩
    refine ⟨_, rfl, a, ns, rfl, hS, R, fun H2 tp r rs L Tl s2 _ et er hl hi W => ?_⟩
    have hlt := W.lt
    refine ⟨tp, _, rfl, SqT.of et, rfl, _, _, rfl, _, _, rfl, rfl, ?_⟩
    have key : ∀ (j : Nat), j < L → GR.it j ns = GR.it t ns → ∀ σ1 : L2.St, σ1[2]? = some (some (.ref r)) → σ1[1]? = some (some (.int j)) →
        tRet (tCB (fun xs H Q => ∃ p ys, xs = [V.ref p] ∧ (SqL K H p ys ∨ SqT K H p ys) ∧ ∀ l, H l = none → Q (.ref l) (upd H l (.lst ys))) (tCons (tOp (rIxL K) (tVar 2) (tVar 1)) tNil)) { nx := fun _ H' => Q .non H', rt := Q } σ1 H2 := by
      intro j hj ej σ1 h2 h1
      have hj' : j < rs.length := by omega
      have ex : rs[j]? = some rs[j] := List.getElem?_eq_getElem hj'
      refine ⟨_, h2, _, h1, r, _, _, _, rfl, rfl, SqL.of er, atI_nat (nd_at ex), _, _, rfl, .inl (SqL.of (hi j _ ex)), fun l nl => ?_⟩
      refine q _ l (s2.put (s2.free nl)) (s2.free nl) ?_
      rw [upd_same, ej]
    have hrl : ((rs.map V.ref).length : Int) = (L : Int) := by rw [List.length_map, hl]
    refine ⟨_, rfl, _, rfl, r, _, rfl, .inl (SqL.of er), _, _, rfl, rfl, _, rfl, if2 (fun c => ?_) (fun c => ?_)⟩
    · rw [hrl] at c
      have hm := Nat.mod_lt (t - Tl) (show 0 < L - Tl by omega)
      refine ⟨_, rfl, _, rfl, _, rfl, _, _, rfl, rfl, _, rfl, r, _, rfl, .inl (SqL.of er), _, rfl, _, _, rfl, rfl, _, _, rfl, rfl, by omega, _, _, rfl, rfl, ?_⟩
      refine key (Tl + (t - Tl) % (L - Tl)) (by omega) (W.red (by omega)) _ rfl (congrArg (fun z => some (some (V.int z))) ?_)
      rw [hrl, Int.natCast_add, Int.natCast_emod, Int.natCast_sub (by omega), Int.natCast_sub (by omega)]
    · rw [hrl] at c
      exact key t (by omega) rfl _ rfl rfl
/-! ### turned -/
def sp_turned (K : PySem.W.Frag) : Sp := fun vs H Q _ => ∃ (a : Addr) (ns : List Int) (b : Int), vs = [.ref a, .int b] ∧ SqL K H a (vi ns) ∧ GR.Ring ns ∧
  ∀ H' p, Same H H' → H p = none → H' p = some (.lst (vi (GR.td ns b))) → Q (.ref p) H'
theorem td_at {ns : List Int} (hp : 0 < ns.length) (i : Nat) (b : Int) : atI (vi ns) (((0 : Int) + i + b) % ((vi ns).length : Int)) = some (.int (GR.fn ns ((i : Int) + b))) := by
  have h0 : (0 : Int) ≤ ((0 : Int) + i + b) % (ns.length : Int) := Int.emod_nonneg _ (by omega)
  have h1 : ((0 : Int) + i + b) % (ns.length : Int) < (ns.length : Int) := Int.emod_lt_of_pos _ (by omega)
  rw [vi_len]
  have hj : (((0 : Int) + i + b) % (ns.length : Int)).toNat < ns.length := by omega
  refine atI_of (j := (((0 : Int) + i + b) % (ns.length : Int)).toNat) (by omega) ?_
  rw [vi_nth hj, ← GR.fn_nat hj, Int.toNat_of_nonneg h0, GR.fn_mod, Int.zero_add]
theorem ok_turned (T : Txt K mg) : FnOk P w K mg base CX0 2 T.f_turned T.d_turned ["ring", "by"] (sp_turned K) := by
  refine T.F_turned.ok sc_turned (fun vs H Q E h => ?_) (fun cdv A outer s H vs Q E hr h => ?_)
  · obtain ⟨a, ns, b, rfl, _⟩ := h
    rfl
  · obtain ⟨a, ns, b, rfl, hS, R, q⟩ := h
    have R3 := R.lo
    have R16 := R.hi
    refine ⟨_, (pss_cons (ps_expr (pe_call (ok_asked T) (hr.mono (by decide)) (by rfl) T.g_asked T.F_asked.kp T.b_asked .nil pass0 (pa_cons (pv 0) pa_nil)))
      (pss_one (ps_ret (pe_lc (own := [("k", 2)]) (g := gName 2) (tt := tYes) rfl sc_turned.nd (pi_range1 (by rfl) T.z_range (pa_cons (pe_callB (lenL K rfl) (by rfl) T.z_len bt_len (pa_cons (pv 0) pa_nil)) pa_nil)) (blkOk_by (own := [("k", 2)]) (N := N_turned) (sc := defScope s_turned) (by decide +kernel)) (fun _ _ _ _ _ => (pg_name (i := 2) sc_turned.nd rfl (Or.inl rfl))) (fun _ _ _ _ _ => pts_nil) (fun _ _ _ _ _ => (pe_ix (ixL K rfl) (pv 0) (pe_op op_mod (pe_op op_add (pv 2) (pv 1)) (pe_callB (lenL K rfl) (by rfl) T.z_len bt_len (pa_cons (pv 0) pa_nil))) (fun _ _ => rfl))))))), ?_⟩
    refine ⟨_, rfl, a, ns, rfl, hS, R, ?_⟩
    refine ⟨_, rfl, a, _, rfl, .inl hS, _, rfl, by rw [vi_len]; omega, by rw [vi_len]; omega, fun D nD => ?_⟩
    refine lc_ints (fun i z => z = (GR.td ns b).getD i 0) nD (by rw [vi_len]; omega) (fun i H' hi sm Q' hQ => ?_) (fun H' zs hl hR sm e => ?_)
    · rw [vi_len] at hi
      have hi : i < ns.length := by omega
      have hA := sm.seq hS
      refine ⟨_, rfl, _, rfl, _, rfl, _, _, rfl, rfl, _, rfl, a, _, rfl, .inl hA, _, _, rfl, rfl, (by rw [vi_len]; omega), a, _, _, _, rfl, rfl, hA, td_at R.pos i b, hQ _ ?_⟩
      rw [GR.td_get hi]
    · rw [vi_len] at hl hR
      have ez : zs = GR.td ns b := GR.list_ext' (by rw [hl, GR.td_length]; omega) fun k hk => hR k (by omega)
      rw [ez] at e
      exact q H' D sm nD e
/-! ### contrary -/
def sp_contrary (K : PySem.W.Frag) : Sp := fun vs H Q _ => ∃ (a : Addr) (ns : List Int), vs = [.ref a] ∧ SqL K H a (vi ns) ∧ GR.Ring ns ∧
  ∀ H' p, Same H H' → H p = none → H' p = some (.lst (vi ns.reverse)) → Q (.ref p) H'
theorem ok_contrary (T : Txt K mg) : FnOk P w K mg base CX0 2 T.f_contrary T.d_contrary ["ring"] (sp_contrary K) := by
  refine T.F_contrary.ok sc_contrary (fun vs H Q E h => ?_) (fun cdv A outer s H vs Q E hr h => ?_)
  · obtain ⟨a, ns, rfl, _⟩ := h
    rfl
  · obtain ⟨a, ns, rfl, hS, R, q⟩ := h
    refine ⟨_, (pss_cons (ps_expr (pe_call (ok_asked T) (hr.mono (by decide)) (by rfl) T.g_asked T.F_asked.kp T.b_asked .nil pass0 (pa_cons (pv 0) pa_nil)))
      (pss_one (ps_ret (pe_listRev rfl (by rfl) T.z_list (by rfl) T.z_reversed (pv 0))))), ?_⟩
    refine ⟨_, rfl, a, ns, rfl, hS, R, ?_⟩
    refine ⟨_, rfl, a, _, rfl, hS, fun p np => ?_⟩
    refine q _ p (Same.new np) np ?_
    rw [upd_same, show vi ns.reverse = (vi ns).reverse from List.map_reverse]
/-! ### tail_and_wheel -/
def sp_tail_and_wheel (K : PySem.W.Frag) : Sp := fun vs H Q _ => ∃ (a : Addr) (ns : List Int), vs = [.ref a] ∧ SqL K H a (vi ns) ∧ GR.Ring ns ∧
  ∀ (H' : Hp) (t : Addr) (L Tl : Nat), Same H H' → H t = none → H' t = some (.tup [.int (Tl : Int), .int ((L : Int) - (Tl : Int))]) → GR.Wk ns L Tl → Q (.ref t) H'
theorem ok_tail_and_wheel (T : Txt K mg) : FnOk P w K mg base CX0 3 T.f_tail_and_wheel T.d_tail_and_wheel ["ring"] (sp_tail_and_wheel K) := by
  refine T.F_tail_and_wheel.ok sc_tail_and_wheel (fun vs H Q E h => ?_) (fun cdv A outer s H vs Q E hr h => ?_)
  · obtain ⟨a, ns, rfl, _⟩ := h
    rfl
  · obtain ⟨a, ns, rfl, hS, R, q⟩ := h
    refine ⟨_, (pss_cons (ps_expr (pe_call (ok_asked T) (hr.mono (by decide)) (by rfl) T.g_asked T.F_asked.kp T.b_asked .nil pass0 (pa_cons (pv 0) pa_nil)))
      (pss_cons (ps_asg (pe_call (ok_walked T) (hr.mono (by decide)) (by rfl) T.g_walked T.F_walked.kp T.b_walked .nil pass0 (pa_cons (pv 0) pa_nil)) (pg_tup rfl (pgs_cons (pg_name (i := 1) sc_tail_and_wheel.nd rfl (.inl rfl)) (pgs_cons (pg_name (i := 2) sc_tail_and_wheel.nd rfl (.inl rfl)) pgs_nil))))
      (pss_one (ps_ret (pe_tup (pa_cons (pv 2) (pa_cons (pe_op op_sub (pe_callB (lenL K rfl) (by rfl) T.z_len bt_len (pa_cons (pv 1) pa_nil)) (pv 2)) pa_nil))))))), ?_⟩
    refine ⟨_, rfl, a, ns, rfl, hS, R, ?_⟩
    refine ⟨_, rfl, a, ns, rfl, hS, R, fun H2 tp r rs L Tl s2 _ et er hl hi W => ?_⟩
    refine ⟨tp, _, rfl, SqT.of et, rfl, _, _, rfl, _, _, rfl, rfl, ?_⟩
    refine ⟨_, rfl, _, rfl, r, _, rfl, .inl (SqL.of er), _, rfl, _, _, rfl, rfl, (by show 2 ≤ sizeLine; decide), fun t nt => ?_⟩
    refine q _ t L Tl (s2.put (s2.free nt)) (s2.free nt) ?_ W
    rw [upd_same, List.length_map, hl]
/-! ### _law_cell_at -/
def cell (ns : List Int) (k : Int) : Int := ns.getD k.toNat 0
def sp_l_cell_at (K : PySem.W.Frag) : Sp := fun vs H Q _ => ∃ (a : Addr) (ns : List Int) (k : Int), vs = [.ref a, .int k] ∧ SqL K H a (vi ns) ∧ 0 ≤ k ∧ Q (.int (cell ns k)) H
theorem ok_l_cell_at (T : Txt K mg) : FnOk P w K mg base CX0 1 T.f_l_cell_at T.d_l_cell_at ["script", "k"] (sp_l_cell_at K) := by
  refine T.F_l_cell_at.ok sc_l_cell_at (fun vs H Q E h => ?_) (fun cdv A outer s H vs Q E hr h => ?_)
  · obtain ⟨a, ns, k, rfl, _⟩ := h
    rfl
  · obtain ⟨a, ns, k, rfl, hS, hk, q⟩ := h
    refine ⟨_, pss_cons (ps_if (pt_cmpR op_lt (pv 1) (pe_callB call_len_seq (by rfl) T.z_len bt_len (pa_cons (pv 0) pa_nil)) (nomark _)) (pss_one (ps_ret (pe_ix ix_list (pv 0) (pv 1) (fun _ _ => rfl)))) pss_nil)
      (pss_one (ps_ret pe_int)), ?_⟩
    refine ⟨_, rfl, _, rfl, a, _, rfl, .inl hS, _, _, rfl, rfl, _, rfl, if2 (fun c => ?_) (fun c => ?_)⟩
    · rw [vi_len] at c
      have h1 : k.toNat < ns.length := by omega
      exact ⟨_, rfl, _, rfl, a, _, _, _, rfl, rfl, hS, atI_of (j := k.toNat) (by omega) (vi_nth h1), q⟩
    · rw [vi_len] at c
      have e : cell ns k = 0 := by
        unfold cell
        rw [List.getD_eq_getElem?_getD, List.getElem?_eq_none (by omega)]
        rfl
      rw [e] at q
      exact q
/-! ### _law_draw -/
def sp_l_draw : Sp := fun vs H Q _ => ∃ (c k b : Int), vs = [.int c, .int k, .int b] ∧ 0 < b ∧ ∀ x : Int, 0 ≤ x → x < b → Q (.int x) H
theorem ok_l_draw (T : Txt K mg) : FnOk P w K mg base CX0 1 T.f_l_draw T.d_l_draw ["cell", "k", "bound"] sp_l_draw := by
  refine T.F_l_draw.ok sc_l_draw (fun vs H Q E h => ?_) (fun cdv A outer s H vs Q E hr h => ?_)
  · obtain ⟨c, k, b, rfl, _⟩ := h
    rfl
  · obtain ⟨c, k, b, rfl, hb, q⟩ := h
    refine ⟨_, pss_cons (ps_set (i := 3) sc_l_draw.nd rfl (.inl rfl) (pe_op op_mod (pe_op op_mul (pe_op op_add (pe_op op_add (pe_op op_mod (pv 0) pe_int) (pe_op op_mul pe_int (pv 1))) pe_int) pe_int) pe_int))
      (pss_cons (ps_set (i := 3) sc_l_draw.nd rfl (.inl rfl) (pe_op op_mod (pe_op op_mul (pv 3) (pv 3)) pe_int))
      (pss_cons (ps_set (i := 3) sc_l_draw.nd rfl (.inl rfl) (pe_op op_mod (pe_op op_mul (pe_op op_add (pv 3) (pe_op op_mul pe_int (pe_op op_add (pv 1) pe_int))) pe_int) pe_int))
      (pss_one (ps_ret (pe_op op_mod (pe_op op_fdiv (pv 3) pe_int) (pv 2)))))), ?_⟩
    refine ⟨_, rfl, _, _, rfl, rfl, (by show (0 : Int) < 2147483647; decide), _, rfl, _, _, rfl, rfl, .inl ⟨by decide, by decide⟩, _, _, rfl, rfl, _, _, rfl, rfl, _, _, rfl, rfl, .inr ⟨by decide, by decide⟩, _, _, rfl, rfl, (by show (0 : Int) < 2147483647; decide), ?_⟩
    generalize hs1 : ((c % 2147483647 + 977 * k + 1) * 48271 % 2147483647 : Int) = s1
    have a1 : 0 ≤ s1 := by rw [← hs1]; exact Int.emod_nonneg _ (by decide)
    have a2 : s1 < 2147483647 := by rw [← hs1]; exact Int.emod_lt_of_pos _ (by decide)
    refine ⟨_, rfl, _, rfl, _, _, rfl, rfl, .inl ⟨by omega, by omega⟩, _, _, rfl, rfl, (by show (0 : Int) < 2147483629; decide), ?_⟩
    refine ⟨_, rfl, _, rfl, _, _, rfl, rfl, _, _, rfl, rfl, .inl ⟨by decide, by decide⟩, _, _, rfl, rfl, _, _, rfl, rfl, .inr ⟨by decide, by decide⟩, _, _, rfl, rfl, (by show (0 : Int) < 2147483647; decide), ?_⟩
    refine ⟨_, rfl, _, _, rfl, rfl, ⟨by decide, by decide⟩, _, rfl, _, _, rfl, rfl, hb, ?_⟩
    exact q _ (Int.emod_nonneg _ (by omega)) (Int.emod_lt_of_pos _ hb)
/-! ### _law_whole -/
def sp_l_whole : Sp := fun vs H Q _ => ∃ i : Int, vs = [.int i] ∧ Q (.bl true) H
theorem ok_l_whole (T : Txt K mg) : FnOk P w K mg base CX0 1 T.f_l_whole T.d_l_whole ["found"] sp_l_whole := by
  refine T.F_l_whole.ok sc_l_whole (fun vs H Q E h => ?_) (fun cdv A outer s H vs Q E hr h => ?_)
  · obtain ⟨i, rfl, _⟩ := h
    rfl
  · obtain ⟨i, rfl, q⟩ := h
    refine ⟨_, pss_one (ps_ret (pe_and (pe_callB call_isi (by rfl) T.z_isinstance bt_isinstance (pa_cons (pv 0) (pa_cons (pe_cls T.z_int bt_int) pa_nil))) (pe_one (pe_not (pe_callB call_isi (by rfl) T.z_isinstance bt_isinstance (pa_cons (pv 0) (pa_cons (pe_cls T.z_bool bt_bool) pa_nil))))))), ?_⟩
    refine ⟨_, rfl, _, _, _, _, true, rfl, .ty "int", .base (.int i), kit_ty (by decide +kernel), _, rfl, iteT ?_⟩
    exact ⟨_, rfl, _, _, _, _, false, rfl, .ty "bool", .base (.int i), kit_ty (by decide +kernel), _, rfl, q⟩
/-! ### _law_ring_by: some ring -/
theorem ring_of {zs : List Int} {n : Nat} (hl : zs.length = n) (h3 : 3 ≤ n) (h16 : n ≤ 16) (h : ∀ i, i < n → 0 ≤ zs.getD i 0 ∧ zs.getD i 0 ≤ 1000) : GR.Ring zs :=
  ⟨by omega, by omega, fun x hx => by
    obtain ⟨k, hk, e⟩ := GR.mem_getD hx
    have q := h k (by omega)
    rw [e] at q
    exact q⟩
theorem cut_to (ns : List Int) (n : Nat) : cutV (vi ns) none (some (n : Int)) = vi (ns.take n) := by
  unfold cutV
  rw [show HT.sIx (vi ns).length (vi ns).length (some (n : Int)) = min n (vi ns).length from HT.sIx_nat _ _ n, HT.sIx_none]
  rw [List.drop_zero, Nat.sub_zero, vi_len]
  show (List.map V.int ns).take (min n ns.length) = List.map V.int (ns.take n)
  rw [← List.map_take]
  congr 1
  rw [List.take_eq_take_iff]
  omega
theorem cut_from (ns : List Int) (n : Nat) : cutV (vi ns) (some (n : Int)) none = vi (ns.drop n) := by
  unfold cutV
  rw [show HT.sIx (vi ns).length 0 (some (n : Int)) = min n (vi ns).length from HT.sIx_nat _ _ n, HT.sIx_none, vi_len]
  show ((List.map V.int ns).drop (min n ns.length)).take (ns.length - min n ns.length) = List.map V.int (ns.drop n)
  rw [← List.map_drop, ← List.map_take]
  congr 1
  by_cases c : n ≤ ns.length
  · rw [Nat.min_eq_left c]
    exact List.take_of_length_le (by rw [List.length_drop]; omega)
  · rw [List.drop_eq_nil_of_le (by omega), List.drop_eq_nil_of_le (by omega)]
    exact List.take_nil
def sp_l_ring_by (K : PySem.W.Frag) : Sp := fun vs H Q _ => ∃ (a : Addr) (ns : List Int) (f : Int), vs = [.ref a, .int f] ∧ SqL K H a (vi ns) ∧ 0 ≤ f ∧
  ∀ H' p rs, Same H H' → H p = none → H' p = some (.lst (vi rs)) → GR.Ring rs → Q (.ref p) H'
theorem ok_l_ring_by (T : Txt K mg) : FnOk P w K mg base CX0 2 T.f_l_ring_by T.d_l_ring_by ["script", "first"] (sp_l_ring_by K) := by
  refine T.F_l_ring_by.ok sc_l_ring_by (fun vs H Q E h => ?_) (fun cdv A outer s H vs Q E hr h => ?_)
  · obtain ⟨a, ns, f, rfl, _⟩ := h
    rfl
  · obtain ⟨a, ns, f, rfl, hS, hf, q⟩ := h
    have hrc : ∀ {X : Cx}, X.A = A.deeper (envOfC "_law_ring_by" (defScope s_l_ring_by) s.heap.objs.size T.f_l_ring_by cdv) → Room 1 X.A := fun e => e ▸ hr
    refine ⟨_, pss_cons (ps_set (i := 2) sc_l_ring_by.nd rfl (.inl rfl) (pe_call (ok_l_cell_at T) hr (by rfl) T.g_l_cell_at T.F_l_cell_at.kp T.b_l_cell_at .nil pass0 (pa_cons (pv 0) (pa_cons (pv 1) pa_nil))))
      (pss_cons (ps_set (i := 3) sc_l_ring_by.nd rfl (.inl rfl) (pe_op op_add pe_int (pe_op op_mod (pv 2) pe_int)))
      (pss_cons (ps_if (pt_cmpR op_eq (pe_op op_mod (pe_op op_fdiv (pv 2) pe_int) pe_int) pe_int (nomark _))
        (pss_one (ps_ret (pe_lc (own := [("k", 6)]) (g := gName 6) (tt := tYes) rfl sc_l_ring_by.nd (pi_range1 (by rfl) T.z_range (pa_cons (pe_op op_add pe_int (pe_op op_mod (pv 2) pe_int)) pa_nil))
          (blkOk_by (own := [("k", 6)]) (N := N_l_ring_by) (sc := defScope s_l_ring_by) (by decide +kernel)) (fun _ _ _ _ _ => pg_name (i := 6) sc_l_ring_by.nd rfl (Or.inl rfl)) (fun _ _ _ _ _ => pts_nil)
          (fun _ _ _ _ _ => pe_call (ok_l_draw T) hr (by rfl) T.g_l_draw T.F_l_draw.kp T.b_l_draw .nil pass0 (pa_cons (pe_call (ok_l_cell_at T) hr (by rfl) T.g_l_cell_at T.F_l_cell_at.kp T.b_l_cell_at .nil pass0 (pa_cons (pv 0) (pa_cons (pe_op op_add (pv 1) pe_int) pa_nil))) (pa_cons (pv 6) (pa_cons pe_int pa_nil))))))) pss_nil)
      (pss_cons (ps_if (pt_cmpR op_eq (pe_op op_mod (pe_op op_fdiv (pv 2) pe_int) pe_int) pe_int (nomark _))
        (pss_one (ps_ret (pe_lc (own := [("k", 6)]) (g := gName 6) (tt := tYes) rfl sc_l_ring_by.nd (pi_range1 (by rfl) T.z_range (pa_cons (pe_op op_add pe_int (pe_op op_mod (pv 2) pe_int)) pa_nil))
          (blkOk_by (own := [("k", 6)]) (N := N_l_ring_by) (sc := defScope s_l_ring_by) (by decide +kernel)) (fun _ _ _ _ _ => pg_name (i := 6) sc_l_ring_by.nd rfl (Or.inl rfl)) (fun _ _ _ _ _ => pts_nil)
          (fun _ _ _ _ _ => pe_op op_mod (pe_call (ok_l_cell_at T) hr (by rfl) T.g_l_cell_at T.F_l_cell_at.kp T.b_l_cell_at .nil pass0 (pa_cons (pv 0) (pa_cons (pe_op op_add (pe_op op_add (pv 1) pe_int) (pv 6)) pa_nil))) pe_int)))) pss_nil)
      (pss_cons (ps_set (i := 4) sc_l_ring_by.nd rfl (.inr rfl) (pe_ix ix_list (pe_lst (pa_cons pe_int (pa_cons pe_int (pa_cons pe_int (pa_cons pe_int (pa_cons pe_int pa_nil)))))) (pe_op op_mod (pe_op op_fdiv (pv 2) pe_int) pe_int) (fun _ _ => rfl)))
      (pss_cons (ps_setLc (i := 5) (own := [("k", 6)]) (g := gName 6) (tt := tYes) rfl sc_l_ring_by.nd rfl rfl (sw_true rfl rfl rfl (by decide +kernel)) (pi_range1 (by rfl) T.z_range (pa_cons (pv 3) pa_nil))
          (blkOk_by (own := [("k", 6)]) (N := N_l_ring_by) (sc := defScope s_l_ring_by) (by decide +kernel)) (fun _ _ _ _ _ => pg_name (i := 6) sc_l_ring_by.nd rfl (Or.inl rfl)) (fun _ _ _ _ _ => pts_nil)
          (fun _ _ _ _ _ => pe_call (ok_l_draw T) hr (by rfl) T.g_l_draw T.F_l_draw.kp T.b_l_draw .nil pass0 (pa_cons (pe_call (ok_l_cell_at T) hr (by rfl) T.g_l_cell_at T.F_l_cell_at.kp T.b_l_cell_at .nil pass0 (pa_cons (pv 0) (pa_cons (pe_op op_add (pv 1) pe_int) pa_nil))) (pa_cons (pv 6) (pa_cons (pv 4) pa_nil)))))
      (pss_cons (ps_if (pt_cmpR op_eq (pv 4) pe_int (nomark _))
        (pss_one (ps_setLc (i := 5) (own := [("number", 7)]) (g := gName 7) (tt := tYes) rfl sc_l_ring_by.nd rfl rfl (sw_true rfl rfl rfl (by decide +kernel)) (pi_list (pv 5))
          (blkOk_by (own := [("number", 7)]) (N := N_l_ring_by) (sc := defScope s_l_ring_by) (by decide +kernel)) (fun _ _ _ _ _ => pg_name (i := 7) sc_l_ring_by.nd rfl (Or.inl rfl)) (fun _ _ _ _ _ => pts_nil)
          (fun _ _ _ _ _ => pe_op op_mul (pv 7) (pe_op op_mod (pv 7) pe_int)))) pss_nil)
      (pss_cons (ps_if (pt_cmpR op_eq (pe_op op_mod (pe_op op_fdiv (pv 2) pe_int) pe_int) pe_int (nomark _))
        (pss_one (ps_ret (pe_op op_cat (pe_slice sl_list (pv 5) po_none (po_some pe_int)) (pe_slice sl_list (pv 5) po_none (po_some pe_int))))) pss_nil)
      (pss_one (ps_ret (pv 5)))))))))), ?_⟩
    refine ⟨_, rfl, _, rfl, a, ns, f, rfl, hS, hf, ?_⟩
    generalize cell ns f = c
    refine ⟨_, rfl, _, _, rfl, rfl, (by show (0 : Int) < 14; decide), _, _, rfl, rfl, ?_⟩
    have z14 := Int.emod_nonneg c (b := 14) (by decide)
    have y14 := Int.emod_lt_of_pos c (b := 14) (by decide)
    have z3 := Int.emod_nonneg c (b := 3) (by decide)
    have y3 := Int.emod_lt_of_pos c (b := 3) (by decide)
    have z5 := Int.emod_nonneg c (b := 5) (by decide)
    have y5 := Int.emod_lt_of_pos c (b := 5) (by decide)
    refine ⟨_, rfl, _, _, rfl, rfl, ⟨by decide, by decide⟩, _, _, rfl, rfl, (by show (0 : Int) < 4; decide), rfl, _, rfl, if2 (fun _ => ?_) (fun _ => ?_)⟩
    · refine ⟨_, rfl, _, _, rfl, rfl, (by show (0 : Int) < 3; decide), _, _, rfl, rfl, _, rfl, by omega, by omega, fun D nD => ?_⟩
      refine lc_ints (fun i z => 0 ≤ z ∧ z ≤ 1000) nD (by omega) (fun i H' hi sm Q' hQ => ?_) (fun H' zs hl hR sm e => ?_)
      · refine ⟨_, rfl, _, rfl, _, _, rfl, rfl, a, ns, f + 1, rfl, sm.seq hS, by omega, _, rfl, _, _, _, rfl, by decide, fun x h0 h1 => hQ x ⟨h0, by omega⟩⟩
      · exact q H' D zs sm nD e (ring_of hl (by omega) (by omega) hR)
    refine ⟨_, rfl, _, _, rfl, rfl, ⟨by decide, by decide⟩, _, _, rfl, rfl, (by show (0 : Int) < 4; decide), rfl, _, rfl, if2 (fun _ => ?_) (fun _ => ?_)⟩
    · refine ⟨_, rfl, _, _, rfl, rfl, (by show (0 : Int) < 5; decide), _, _, rfl, rfl, _, rfl, by omega, by omega, fun D nD => ?_⟩
      refine lc_ints (fun i z => 0 ≤ z ∧ z ≤ 1000) nD (by omega) (fun i H' hi sm Q' hQ => ?_) (fun H' zs hl hR sm e => ?_)
      · refine ⟨_, rfl, _, rfl, _, _, rfl, rfl, _, rfl, _, _, rfl, rfl, a, ns, f + 10 + (0 + i), rfl, sm.seq hS, by omega, _, _, rfl, rfl, (by show (0 : Int) < 1001; decide), hQ _ ?_⟩
        have z1 := Int.emod_nonneg (cell ns (f + 10 + (0 + i))) (b := 1001) (by decide)
        have y1 := Int.emod_lt_of_pos (cell ns (f + 10 + (0 + i))) (b := 1001) (by decide)
        exact ⟨z1, by omega⟩
      · exact q H' D zs sm nD e (ring_of hl (by omega) (by omega) hR)
    refine ⟨by decide, fun B nB => ?_⟩
    have zb := Int.emod_nonneg (c / 14) (b := 5) (by decide)
    have yb := Int.emod_lt_of_pos (c / 14) (b := 5) (by decide)
    refine ⟨_, rfl, _, _, rfl, rfl, ⟨by decide, by decide⟩, _, _, rfl, rfl, (by show (0 : Int) < 5; decide), ?_⟩
    obtain ⟨bd, hb, b0, b1⟩ : ∃ bd : Int, ([.int 2, .int 3, .int 10, .int 41, .int 7] : List V)[(c / 14 % 5).toNat]? = some (.int bd) ∧ 0 < bd ∧ bd ≤ 41 := by
      have hc : c / 14 % 5 = 0 ∨ c / 14 % 5 = 1 ∨ c / 14 % 5 = 2 ∨ c / 14 % 5 = 3 ∨ c / 14 % 5 = 4 := by omega
      rcases hc with e | e | e | e | e <;> rw [e]
      · exact ⟨2, rfl, by decide, by decide⟩
      · exact ⟨3, rfl, by decide, by decide⟩
      · exact ⟨10, rfl, by decide, by decide⟩
      · exact ⟨41, rfl, by decide, by decide⟩
      · exact ⟨7, rfl, by decide, by decide⟩
    refine ⟨B, _, _, _, rfl, rfl, SqL.of upd_same, atI_of (j := (c / 14 % 5).toNat) (by omega) hb, ?_⟩
    have sB : Same H (upd H B (.lst [.int 2, .int 3, .int 10, .int 41, .int 7])) := Same.new nB
    refine ⟨_, rfl, _, rfl, by omega, by omega, fun D nD => ?_⟩
    have nD0 := sB.free nD
    refine lc_ints (fun i z => 0 ≤ z ∧ z ≤ 40) nD (by omega) (fun i H' hi sm Q' hQ => ?_) (fun H1 zs hl hR sm eD => ?_)
    · exact ⟨_, rfl, _, rfl, _, _, rfl, rfl, a, ns, f + 1, rfl, sm.seq (sB.seq hS), by omega, _, rfl, _, rfl, _, _, _, rfl, b0, fun x h0 h1 => hQ x ⟨h0, by omega⟩⟩
    have s1 : Same H H1 := sB.trans sm
    -- what follows the drawing: a ring r at some place of its own
    have tail : ∀ (H2 : Hp) (p : Addr) (rs : List Int) (y6 y7 : Option V), Same H H2 → H p = none → H2 p = some (.lst (vi rs)) → GR.Ring rs →
        tSeq (tIfS (tTest (tOp rEq (tOp (rI (fun _ j => 0 < j) fun i j => .int (i % j)) (tOp (rI CDiv fun i j => .int (i / j)) (tVar 2) (tC (.int 70))) (tC (.int 4))) (tC (.int 3))))
          (tRet (tOp rCat (tSl (rSlL K) (tVar 5) tNoPart (tPart (tC (.int 8)))) (tSl (rSlL K) (tVar 5) tNoPart (tPart (tC (.int 8)))))) tNext) (tRet (tVar 5)) { nx := fun _ H' => Q .non H', rt := Q }
          [some (.ref a), some (.int f), some (.int c), some (.int (3 + c % 14)), some (.int bd), some (.ref p), y6, y7] H2 := by
      intro H2 p rs y6 y7 sm2 np ep R
      have hP : SqL K H2 p (vi rs) := SqL.of ep
      refine ⟨_, rfl, _, _, rfl, rfl, ⟨by decide, by decide⟩, _, _, rfl, rfl, (by show (0 : Int) < 4; decide), rfl, _, rfl, if2 (fun _ => ?_) (fun _ => ?_)⟩
      · refine ⟨_, rfl, _, rfl, p, _, rfl, hP, fun u nu => ?_⟩
        have su := Same.new (o := .lst (cutV (vi rs) none (some 8))) nu
        refine ⟨_, rfl, _, rfl, p, _, rfl, su.seq hP, fun v nv => ?_⟩
        have nuv : u ≠ v := new_ne nv
        have e8 : cutV (vi rs) none (some 8) = vi (rs.take 8) := cut_to rs 8
        have l3 := R.lo
        refine ⟨u, v, _, _, rfl, rfl, by rw [upd_ne nuv]; exact upd_same, upd_same, ?_, fun x nx => ?_⟩
        · rw [e8, vi_len, List.length_take]
          exact line_le (by omega)
        · have nxv : H2 x = none := (su.trans (Same.new nv)).free nx
          refine q _ x (rs.take 8 ++ rs.take 8) (((sm2.put (sm2.free nu)).put (sm2.free (su.free nv))).put (sm2.free nxv)) (sm2.free nxv) ?_ ⟨?_, ?_, ?_⟩
          · rw [upd_same, e8, ← List.map_append]
          · rw [List.length_append, List.length_take]
            omega
          · rw [List.length_append, List.length_take]
            omega
          · intro z hz
            rcases List.mem_append.mp hz with h | h
            · exact R.bd z (List.mem_of_mem_take h)
            · exact R.bd z (List.mem_of_mem_take h)
      · exact ⟨_, rfl, q H2 p rs sm2 np ep R⟩
    refine ⟨_, rfl, rfl, _, rfl, if2 (fun _ => ?_) (fun _ => ?_)⟩
    · -- ring = [number * (number % 3) ..]
      have hD : SqL K H1 D (vi zs) := SqL.of eD
      refine ⟨_, rfl, D, rfl, ⟨_, hD⟩, fun C nC => ?_⟩
      have lz : (vi zs).length ≤ 1000 := by rw [vi_len]; omega
      refine lc_intsL (a := D) (xs := vi zs) (fun i z => 0 ≤ z ∧ z ≤ 1000) hD nC lz (fun i x H' hi sm' Q' hQ => ?_) (fun H2 ws hl2 hR2 sm2 e2 => ?_)
      · obtain ⟨z, hz, rfl⟩ := vi_at hi
        have hi2 : i < zs.length := (List.getElem?_eq_some_iff.mp hz).1
        have b := hR i (by omega)
        rw [getD_some hi2] at hz
        have ez := Option.some.inj hz
        rw [ez] at b
        have m0 := Int.emod_nonneg z (b := 3) (by decide)
        have m1 := Int.emod_lt_of_pos z (b := 3) (by decide)
        refine ⟨_, rfl, _, rfl, _, _, rfl, rfl, (by show (0 : Int) < 3; decide), _, _, rfl, rfl, .inl ⟨by omega, by omega⟩, hQ _ ⟨Int.mul_nonneg b.1 m0, ?_⟩⟩
        exact Int.le_trans (Int.mul_le_mul b.2 (show z % 3 ≤ 2 by omega) m0 (by decide)) (by decide)
      · rw [vi_len] at hl2 hR2
        exact tail H2 C ws _ _ (s1.trans sm2) (s1.free nC) e2 (ring_of hl2 (by omega) (by omega) hR2)
    · exact tail H1 D zs _ _ s1 nD0 eD (ring_of hl (by omega) (by omega) fun i hi => by have := hR i hi; omega)
/-! ### _law_is: two lists of whole numbers -/
def sp_l_is (K : PySem.W.Frag) : Sp := fun vs H Q _ => ∃ (a b : Addr) (ns ms : List Int), vs = [.ref a, .ref b] ∧ H a = some (.lst (vi ns)) ∧ SqL K H b (vi ms) ∧ Q (.bl (decide (ns = ms))) H
theorem ok_l_is (T : Txt K mg) : FnOk P w K mg base CX0 2 T.f_l_is T.d_l_is ["found", "due"] (sp_l_is K) := by
  refine T.F_l_is.ok sc_l_is (fun vs H Q E h => ?_) (fun cdv A outer s H vs Q E hr h => ?_)
  · obtain ⟨a, b, ns, ms, rfl, _⟩ := h
    rfl
  · obtain ⟨a, b, ns, ms, rfl, hA, hB, q⟩ := h
    refine ⟨_, pss_cons (ps_if (PW.pt (pw_or (pt_not (pt_val (pe_callB call_isi (by rfl) T.z_isinstance bt_isinstance (pa_cons (pv 0) (pa_cons (pe_cls T.z_list bt_list) pa_nil)))))
        (pw_or1 (pt_cmpR op_ne (pe_callB call_len_seq (by rfl) T.z_len bt_len (pa_cons (pv 0) pa_nil)) (pe_callB call_len_seq (by rfl) T.z_len bt_len (pa_cons (pv 1) pa_nil)) (nomark _))))) (pss_one (ps_ret pe_bl)) pss_nil)
      (pss_cons (ps_for PassesOwn.never rfl (pi_list (pv 0)) (pg_name (i := 2) sc_l_is.nd rfl (.inl rfl))
        (pss_one (ps_if (pt_not (pt_val (pe_call (ok_l_whole T) hr (by rfl) T.g_l_whole T.F_l_whole.kp T.b_l_whole .nil pass0 (pa_cons (pv 2) pa_nil)))) (pss_one (ps_ret pe_bl)) pss_nil)))
      (pss_one (ps_ret (pe_cmpR (op_eqD hr.units) (pv 0) (pv 1) (nomark _))))), ?_⟩
    refine ⟨_, rfl, _, _, _, _, true, rfl, .ty "list", .base (.lst hA), kit_ty (by decide +kernel), _, rfl, iteF ?_⟩
    refine ⟨_, rfl, a, _, rfl, .inl (SqL.of hA), _, rfl, b, _, rfl, .inl hB, rfl, _, rfl, ?_⟩
    by_cases hl : ns.length = ms.length
    · refine ifnN (by rw [vi_len, vi_len, hl]) ?_
      refine ⟨_, rfl, a, rfl, ⟨_, SqL.of hA⟩, for_list (K := K) (a := a) (xs := vi ns) (fun i σ H' => ∃ v, σ = [some (.ref a), some (.ref b), v] ∧ H' = H) ⟨none, rfl, rfl⟩ (fun i σ H' _ ⟨_, _, e⟩ => e ▸ SqL.of hA) ?_ ?_⟩
      · rintro i x σ H' hi ⟨v, rfl, rfl⟩
        obtain ⟨z, hz, rfl⟩ := vi_at hi
        exact ⟨_, rfl, z, rfl, _, rfl, iteF ⟨_, rfl, rfl⟩⟩
      · rintro σ H' ⟨v, rfl, rfl⟩
        exact ⟨_, rfl, _, rfl, eqL (SqL.of hA) hB q⟩
    · refine ifnY (fun e => hl ?_) ?_
      · have := V.int.inj e
        rw [vi_len, vi_len] at this
        omega
      · have e : decide (ns = ms) = false := decide_eq_false fun e => hl (by rw [e])
        rw [e] at q
        exact q
/-! ### the law -/
def sp_law (K : PySem.W.Frag) : Sp := fun vs H Q _ => ∃ (a : Addr) (ns : List Int), vs = [.ref a] ∧ SqL K H a (ns.map V.int) ∧ ns.length ≤ 63 ∧ ∀ H', Q (.bl true) H'
theorem big39 : (0 : Int) < 10 ^ (39 : Int).toNat := by decide
theorem big30 : (0 : Int) < 10 ^ (30 : Int).toNat := by decide
theorem nat_of {x y : Int} (hy : 0 < y) : ∃ n : Nat, x % y = (n : Int) := ⟨(x % y).toNat, by have := Int.emod_nonneg x (b := y) (by omega); omega⟩
theorem ok_law (T : Txt K mg) : FnOk P w K mg base CX0 4 T.f_law T.d_law ["script"] (sp_law K) := by
  refine T.F_law.ok sc_law (fun vs H Q E h => ?_) (fun cdv A outer s H vs Q E hr h => ?_)
  · obtain ⟨a, ns, rfl, _⟩ := h
    rfl
  · obtain ⟨a, ns, rfl, hS, hlen, q⟩ := h
    refine ⟨_, (pss_cons (ps_set (i := 1) sc_law.nd rfl (.inr rfl) (pe_call (ok_l_ring_by T) (hr.mono (by decide)) (by rfl) T.g_l_ring_by T.F_l_ring_by.kp T.b_l_ring_by .nil pass0 (pa_cons (pv 0) (pa_cons pe_int pa_nil))))
      (pss_cons (ps_set (i := 2) sc_law.nd rfl (.inr rfl) (pe_op op_mod (pe_call (ok_l_cell_at T) (hr.mono (by decide)) (by rfl) T.g_l_cell_at T.F_l_cell_at.kp T.b_l_cell_at .nil pass0 (pa_cons (pv 0) (pa_cons pe_int pa_nil))) (pe_op op_pow pe_int pe_int)))
      (pss_cons (ps_if (pt_cmpR op_eq (pe_op op_mod (pe_call (ok_l_cell_at T) (hr.mono (by decide)) (by rfl) T.g_l_cell_at T.F_l_cell_at.kp T.b_l_cell_at .nil pass0 (pa_cons (pv 0) (pa_cons pe_int pa_nil))) pe_int) pe_int (nomark _)) (pss_one (ps_set (i := 2) sc_law.nd rfl (.inr rfl) (pe_op op_sub pe_int (pv 2)))) pss_nil)
      (pss_cons (ps_set (i := 3) sc_law.nd rfl (.inl rfl) (pe_callTy (listL K rfl) (by rfl) T.z_list bt_list (pa_cons (pv 1) pa_nil)))
      (pss_cons (ps_set (i := 4) sc_law.nd rfl (.inl rfl) (pe_call (ok_turned T) (hr.mono (by decide)) (by rfl) T.g_turned T.F_turned.kp T.b_turned .nil pass0 (pa_cons (pv 3) (pa_cons (pv 2) pa_nil))))
      (pss_cons (ps_set (i := 5) sc_law.nd rfl (.inl rfl) (pe_call (ok_contrary T) (hr.mono (by decide)) (by rfl) T.g_contrary T.F_contrary.kp T.b_contrary .nil pass0 (pa_cons (pv 3) pa_nil)))
      (pss_cons (ps_if (PW.pt (pw_or (pt_not (pt_val (pe_call (ok_l_is T) (hr.mono (by decide)) (by rfl) T.g_l_is T.F_l_is.kp T.b_l_is .nil pass0 (pa_cons (pv 4) (pa_cons (pe_lc (own := [("k", 9)]) (g := gName 9) (tt := tYes) rfl sc_law.nd (pi_range1 (by rfl) T.z_range (pa_cons (pe_callB (lenL K rfl) (by rfl) T.z_len bt_len (pa_cons (pv 1) pa_nil)) pa_nil)) (blkOk_by (own := [("k", 9)]) (N := N_law) (sc := defScope s_law) (by decide +kernel)) (fun _ _ _ _ _ => (pg_name (i := 9) sc_law.nd rfl (Or.inl rfl))) (fun _ _ _ _ _ => pts_nil) (fun _ _ _ _ _ => (pe_ix (ixL K rfl) (pv 1) (pe_op op_mod (pe_op op_add (pv 9) (pv 2)) (pe_callB (lenL K rfl) (by rfl) T.z_len bt_len (pa_cons (pv 1) pa_nil))) (fun _ _ => rfl)))) pa_nil))))) (pw_or1 (pt_cmpR (op_neD hr.units) (pv 3) (pv 1) (nomark _))))) (pss_one (ps_ret pe_bl)) pss_nil)
      (pss_cons (ps_if (pt_not (pt_val (pe_call (ok_l_is T) (hr.mono (by decide)) (by rfl) T.g_l_is T.F_l_is.kp T.b_l_is .nil pass0 (pa_cons (pv 5) (pa_cons (pe_lc (own := [("k", 9)]) (g := gName 9) (tt := tYes) rfl sc_law.nd (pi_range1 (by rfl) T.z_range (pa_cons (pe_callB (lenL K rfl) (by rfl) T.z_len bt_len (pa_cons (pv 1) pa_nil)) pa_nil)) (blkOk_by (own := [("k", 9)]) (N := N_law) (sc := defScope s_law) (by decide +kernel)) (fun _ _ _ _ _ => (pg_name (i := 9) sc_law.nd rfl (Or.inl rfl))) (fun _ _ _ _ _ => pts_nil) (fun _ _ _ _ _ => (pe_ix (ixL K rfl) (pv 1) (pe_op op_sub (pe_op op_sub (pe_callB (lenL K rfl) (by rfl) T.z_len bt_len (pa_cons (pv 1) pa_nil)) pe_int) (pv 9)) (fun _ _ => rfl)))) pa_nil))))) (pss_one (ps_ret pe_bl)) pss_nil)
      (pss_cons (ps_if (PW.pt (pw_or (pt_cmpR (op_neD hr.units) (pe_call (ok_turned T) (hr.mono (by decide)) (by rfl) T.g_turned T.F_turned.kp T.b_turned .nil pass0 (pa_cons (pe_callTy (listL K rfl) (by rfl) T.z_list bt_list (pa_cons (pv 4) pa_nil)) (pa_cons (pe_op op_sub pe_int (pv 2)) pa_nil))) (pv 1) (nomark _)) (pw_or1 (pt_cmpR (op_neD hr.units) (pe_call (ok_contrary T) (hr.mono (by decide)) (by rfl) T.g_contrary T.F_contrary.kp T.b_contrary .nil pass0 (pa_cons (pe_callTy (listL K rfl) (by rfl) T.z_list bt_list (pa_cons (pv 5) pa_nil)) pa_nil)) (pv 1) (nomark _))))) (pss_one (ps_ret pe_bl)) pss_nil)
      (pss_cons (ps_expr (pe_bm PySem.F.plainAttrs_list PySem.F.slot_list_append PySem.F.type_list_append mt_append (pv 5) (pa_cons pe_int pa_nil)))
      (pss_cons (ps_for PassesOwn.never rfl (pi_list (pe_lst (pa_cons (pe_call (ok_turned T) (hr.mono (by decide)) (by rfl) T.g_turned T.F_turned.kp T.b_turned .nil pass0 (pa_cons (pv 3) (pa_cons (pe_op op_mul (pe_callB (lenL K rfl) (by rfl) T.z_len bt_len (pa_cons (pv 1) pa_nil)) (pe_op op_mod (pv 2) pe_int)) pa_nil))) (pa_cons (pe_call (ok_turned T) (hr.mono (by decide)) (by rfl) T.g_turned T.F_turned.kp T.b_turned .nil pass0 (pa_cons (pv 3) (pa_cons pe_int pa_nil))) (pa_cons (pe_call (ok_contrary T) (hr.mono (by decide)) (by rfl) T.g_contrary T.F_contrary.kp T.b_contrary .nil pass0 (pa_cons (pv 3) pa_nil)) pa_nil))))) (pg_name (i := 6) sc_law.nd rfl (.inl rfl)) (pss_one (ps_expr (pe_bm PySem.F.plainAttrs_list PySem.F.slot_list_append PySem.F.type_list_append mt_append (pv 6) (pa_cons pe_int pa_nil)))))
      (pss_cons (ps_expr (pe_bm0 PySem.F.plainAttrs_list PySem.F.slot_list_pop PySem.F.type_list_pop mt_pop (pv 5)))
      (pss_cons (ps_if (pt_cmpR (op_neD hr.units) (pv 3) (pv 1) (nomark _)) (pss_one (ps_ret pe_bl)) pss_nil)
      (pss_cons (ps_set (i := 7) sc_law.nd rfl (.inl rfl) (pe_op op_mod (pe_call (ok_l_cell_at T) (hr.mono (by decide)) (by rfl) T.g_l_cell_at T.F_l_cell_at.kp T.b_l_cell_at .nil pass0 (pa_cons (pv 0) (pa_cons pe_int pa_nil))) (pe_op op_pow pe_int pe_int)))
      (pss_cons (ps_if (pt_not (pt_val (pe_call (ok_l_is T) (hr.mono (by decide)) (by rfl) T.g_l_is T.F_l_is.kp T.b_l_is .nil pass0 (pa_cons (pe_call (ok_after T) (hr.mono (by decide)) (by rfl) T.g_after T.F_after.kp T.b_after .nil pass0 (pa_cons (pe_callTy (listL K rfl) (by rfl) T.z_list bt_list (pa_cons (pv 4) pa_nil)) (pa_cons (pv 7) pa_nil))) (pa_cons (pe_call (ok_turned T) (hr.mono (by decide)) (by rfl) T.g_turned T.F_turned.kp T.b_turned .nil pass0 (pa_cons (pe_call (ok_after T) (hr.mono (by decide)) (by rfl) T.g_after T.F_after.kp T.b_after .nil pass0 (pa_cons (pe_callTy (listL K rfl) (by rfl) T.z_list bt_list (pa_cons (pv 1) pa_nil)) (pa_cons (pv 7) pa_nil))) (pa_cons (pv 2) pa_nil))) pa_nil))))) (pss_one (ps_ret pe_bl)) pss_nil)
      (pss_cons (ps_if (pt_not (pt_val (pe_call (ok_l_is T) (hr.mono (by decide)) (by rfl) T.g_l_is T.F_l_is.kp T.b_l_is .nil pass0 (pa_cons (pe_call (ok_gaps T) (hr.mono (by decide)) (by rfl) T.g_gaps T.F_gaps.kp T.b_gaps .nil pass0 (pa_cons (pe_callTy (listL K rfl) (by rfl) T.z_list bt_list (pa_cons (pv 5) pa_nil)) pa_nil)) (pa_cons (pe_call (ok_turned T) (hr.mono (by decide)) (by rfl) T.g_turned T.F_turned.kp T.b_turned .nil pass0 (pa_cons (pe_call (ok_contrary T) (hr.mono (by decide)) (by rfl) T.g_contrary T.F_contrary.kp T.b_contrary .nil pass0 (pa_cons (pe_call (ok_gaps T) (hr.mono (by decide)) (by rfl) T.g_gaps T.F_gaps.kp T.b_gaps .nil pass0 (pa_cons (pe_callTy (listL K rfl) (by rfl) T.z_list bt_list (pa_cons (pv 1) pa_nil)) pa_nil)) pa_nil)) (pa_cons pe_int pa_nil))) pa_nil))))) (pss_one (ps_ret pe_bl)) pss_nil)
      (pss_cons (ps_set (i := 8) sc_law.nd rfl (.inl rfl) (pe_call (ok_tail_and_wheel T) (hr.mono (by decide)) (by rfl) T.g_tail_and_wheel T.F_tail_and_wheel.kp T.b_tail_and_wheel .nil pass0 (pa_cons (pe_callTy (listL K rfl) (by rfl) T.z_list bt_list (pa_cons (pv 1) pa_nil)) pa_nil)))
      (pss_cons (ps_expr (pe_bm PySem.F.plainAttrs_list PySem.F.slot_list_append PySem.F.type_list_append mt_append (pv 4) (pa_cons pe_int pa_nil)))
      (pss_one (ps_ret (pe_and (pe_cmpR (op_eqD hr.units) (pe_call (ok_tail_and_wheel T) (hr.mono (by decide)) (by rfl) T.g_tail_and_wheel T.F_tail_and_wheel.kp T.b_tail_and_wheel .nil pass0 (pa_cons (pe_call (ok_turned T) (hr.mono (by decide)) (by rfl) T.g_turned T.F_turned.kp T.b_turned .nil pass0 (pa_cons (pe_callTy (listL K rfl) (by rfl) T.z_list bt_list (pa_cons (pv 1) pa_nil)) (pa_cons (pv 2) pa_nil))) pa_nil)) (pv 8) (nomark _)) (pe_one (pe_cmpR op_eq (pe_ix (ixT K rfl) (pe_call (ok_tail_and_wheel T) (hr.mono (by decide)) (by rfl) T.g_tail_and_wheel T.F_tail_and_wheel.kp T.b_tail_and_wheel .nil pass0 (pa_cons (pe_callTy (listL K rfl) (by rfl) T.z_list bt_list (pa_cons (pv 5) pa_nil)) pa_nil)) pe_int (fun _ _ => rfl)) (pe_ix (ixT K rfl) (pv 8) pe_int (fun _ _ => rfl)) (nomark _)))))))))))))))))))))))), ?_⟩
    refine ⟨_, rfl, a, ns, 0, rfl, hS, by decide, fun H1 r rs s1 nr er R => ?_⟩
    have R3 := R.lo
    have R16 := R.hi
    have hS1 := s1.seq hS
    refine ⟨_, rfl, a, ns, 2, rfl, hS1, by decide, _, _, rfl, rfl, ⟨by decide, by decide, by decide⟩, _, _, rfl, rfl, big30, ?_⟩
    dsimp only [gName]
    refine cut (fun σ' H' => ∃ b : Int, σ' = [some (.ref a), some (.ref r), some (.int b), none, none, none, none, none, none, none] ∧ H1 = H') (fun N hN => ?_) ?_
    · refine ⟨_, rfl, a, ns, 3, rfl, hS1, by decide, _, _, rfl, rfl, (by show (0 : Int) < 2; decide), rfl, _, rfl, if2 (fun _ => ?_) (fun _ => ?_)⟩
      · exact ⟨_, rfl, _, _, rfl, rfl, hN _ _ ⟨_, rfl, rfl⟩⟩
      · exact hN _ _ ⟨_, rfl, rfl⟩
    rintro σ' H' ⟨b, rfl, rfl⟩
    -- handed, found, back
    refine ⟨_, rfl, r, _, rfl, .inl (SqL.of er), fun h nh => ?_⟩
    have sh := Same.new (o := .lst (vi rs)) nh
    have eh0 : (upd H1 h (.lst (vi rs))) h = some (.lst (vi rs)) := upd_same
    refine ⟨_, rfl, _, rfl, h, rs, b, rfl, SqL.of eh0, R, fun H2 f s2 nf ef => ?_⟩
    have eh2 := s2 _ _ eh0
    refine ⟨_, rfl, h, rs, rfl, SqL.of eh2, R, fun H3 c s3 nc ec => ?_⟩
    have er3 := s3 _ _ (s2 _ _ (sh _ _ er))
    have eh3 := s3 _ _ eh2
    have ef3 := s3 _ _ ef
    -- the first test
    refine ⟨_, rfl, _, rfl, r, _, rfl, .inl (SqL.of er3), _, rfl, by rw [vi_len]; omega, by rw [vi_len]; omega, fun D nD => ?_⟩
    refine lc_ints (fun i z => z = (GR.td rs b).getD i 0) nD (by rw [vi_len]; omega) (fun i H' hi sm Q' hQ => ?_) (fun H4 zs hl hR s4 ez => ?_)
    · rw [vi_len] at hi
      have hi : i < rs.length := by omega
      have er' := sm _ _ er3
      refine ⟨_, rfl, _, rfl, _, rfl, _, _, rfl, rfl, _, rfl, r, _, rfl, .inl (SqL.of er'), _, _, rfl, rfl, (by rw [vi_len]; omega), r, _, _, _, rfl, rfl, SqL.of er', td_at R.pos i b, hQ _ ?_⟩
      rw [GR.td_get hi]
    rw [vi_len] at hl hR
    have ezs : zs = GR.td rs b := GR.list_ext' (by rw [hl, GR.td_length]; omega) fun k hk => hR k (by omega)
    have er4 := s4 _ _ er3
    have eh4 := s4 _ _ eh3
    have ef4 := s4 _ _ ef3
    have ec4 := s4 _ _ ec
    refine ⟨f, D, _, _, rfl, ef4, SqL.of ez, _, rfl, ?_⟩
    rw [decide_eq_true ezs.symm]
    refine iteF ⟨_, rfl, _, rfl, neL (SqL.of eh4) (SqL.of er4) ⟨_, rfl, ifnN rfl ?_⟩⟩
    -- the second test
    refine ⟨_, rfl, _, rfl, r, _, rfl, .inl (SqL.of er4), _, rfl, by rw [vi_len]; omega, by rw [vi_len]; omega, fun D2 nD2 => ?_⟩
    refine lc_ints (fun i z => z = rs.reverse.getD i 0) nD2 (by rw [vi_len]; omega) (fun i H' hi sm Q' hQ => ?_) (fun H5 ys hl5 hR5 s5 ey => ?_)
    · rw [vi_len] at hi
      have hi : i < rs.length := by omega
      have hj : rs.length - 1 - i < rs.length := by omega
      have er' := sm _ _ er4
      refine ⟨_, rfl, _, rfl, r, _, rfl, .inl (SqL.of er'), _, _, rfl, rfl, _, rfl, _, _, rfl, rfl, r, _, _, _, rfl, rfl, SqL.of er', atI_of (j := rs.length - 1 - i) (by rw [vi_len]; omega) (vi_nth hj), hQ _ ?_⟩
      rw [GR.rev_get hi]
    rw [vi_len] at hl5 hR5
    have eys : ys = rs.reverse := GR.list_ext' (by rw [hl5, List.length_reverse]; omega) fun k hk => hR5 k (by omega)
    have er5 := s5 _ _ er4
    have eh5 := s5 _ _ eh4
    have ef5 := s5 _ _ ef4
    have ec5 := s5 _ _ ec4
    refine ⟨c, D2, _, _, rfl, ec5, SqL.of ey, _, rfl, ?_⟩
    rw [decide_eq_true eys.symm]
    refine iteF ?_
    -- the third test
    refine ⟨_, rfl, f, _, rfl, .inl (SqL.of ef5), fun c1 nc1 => ⟨_, rfl, _, _, rfl, rfl, c1, _, _, rfl, SqL.of upd_same, R.td b, fun H6 x s6 nx ex => ?_⟩⟩
    have s6' := (Same.new (o := .lst (vi (GR.td rs b))) nc1).trans s6
    have er6 := s6' _ _ er5
    have ec6 := s6' _ _ ec5
    rw [GR.td_back] at ex
    refine ⟨_, rfl, neL (SqL.of ex) (SqL.of er6) ⟨_, rfl, ifnN rfl ?_⟩⟩
    refine ⟨_, rfl, c, _, rfl, .inl (SqL.of ec6), fun c2 nc2 => ⟨c2, _, rfl, SqL.of upd_same, R.rev, fun H7 x2 s7 nx2 ex2 => ?_⟩⟩
    have s7' := (Same.new (o := .lst (vi rs.reverse)) nc2).trans s7
    have er7 := s7' _ _ er6
    have ec7 := s7' _ _ ec6
    rw [List.reverse_reverse] at ex2
    refine ⟨_, rfl, neL (SqL.of ex2) (SqL.of er7) ⟨_, rfl, ifnN rfl ?_⟩⟩
    have eh7 := s7' _ _ (s6' _ _ eh5)
    have ef7 := s7' _ _ (s6' _ _ ef5)
    have s17 : Same H1 H7 := (((((sh.trans s2).trans s3).trans s4).trans s5).trans s6').trans s7'
    have nch : c ≠ h := (ne_of_none eh2 nc).symm
    have ncr : c ≠ r := (ne_of_none (s2 _ _ (sh _ _ er)) nc).symm
    have ncf : c ≠ f := (ne_of_none ef nc).symm
    have nfh : f ≠ h := (ne_of_none eh0 nf).symm
    have nfr : f ≠ r := (ne_of_none (sh _ _ er) nf).symm
    have nc1' : H1 c = none := sh.free (s2.free nc)
    have nf1' : H1 f = none := sh.free nf
    -- back.append(5)
    refine ⟨_, rfl, .inl ⟨rfl, _, SqL.of ec7⟩, c, _, _, rfl, rfl, ec7, line_lt (by rw [vi_len, List.length_reverse]; omega), ?_⟩
    have s18 : Same H1 (upd H7 c (.lst (vi rs.reverse ++ [V.int 5]))) := s17.put nc1'
    have er8 := s18 _ _ er
    have eh8 := at_ne (o := .lst (vi rs.reverse ++ [V.int 5])) eh7 nch.symm
    have ef8 := at_ne (o := .lst (vi rs.reverse ++ [V.int 5])) ef7 ncf.symm
    have ec8 : (upd H7 c (.lst (vi rs.reverse ++ [V.int 5]))) c = some (.lst (vi rs.reverse ++ [V.int 5])) := upd_same
    -- the three told
    refine ⟨_, rfl, _, rfl, r, _, rfl, .inl (SqL.of er8), _, rfl, _, _, rfl, rfl, (by show (0 : Int) < 1000; decide), _, _, rfl, rfl, .inl ⟨by rw [vi_len]; omega, by rw [vi_len]; omega⟩, h, rs, _, rfl, SqL.of eh8, R, fun H9 t1 s9 nt1 et1 => ?_⟩
    have eh9 := s9 _ _ eh8
    refine ⟨_, rfl, h, rs, _, rfl, SqL.of eh9, R, fun H10 t2 s10 nt2 et2 => ?_⟩
    have eh10 := s10 _ _ eh9
    refine ⟨_, rfl, h, rs, rfl, SqL.of eh10, R, fun H11 t3 s11 nt3 et3 => ?_⟩
    refine ⟨by show 3 ≤ sizeLine; decide, fun p np => ?_⟩
    have sp := Same.new (o := .lst [.ref t1, .ref t2, .ref t3]) np
    have s8p : Same (upd H7 c (.lst (vi rs.reverse ++ [V.int 5]))) (upd H11 p (.lst [.ref t1, .ref t2, .ref t3])) := ((s9.trans s10).trans s11).trans sp
    have ep1 := (s11.trans sp) _ _ (s10 _ _ et1)
    have ep2 := (s11.trans sp) _ _ et2
    have ep3 := sp _ _ et3
    have npt1 : p ≠ t1 := (ne_of_none (s11 _ _ (s10 _ _ et1)) np).symm
    have npt2 : p ≠ t2 := (ne_of_none (s11 _ _ et2) np).symm
    have npt3 : p ≠ t3 := (ne_of_none et3 np).symm
    -- what stood ahead of the three is none of them
    have old : ∀ (x : Addr) (o : HO), (upd H7 c (.lst (vi rs.reverse ++ [V.int 5]))) x = some o → x ≠ t1 ∧ x ≠ t2 ∧ x ≠ t3 := fun x o e => ⟨ne_of_none e nt1, ne_of_none (s9 _ _ e) nt2, ne_of_none (s10 _ _ (s9 _ _ e)) nt3⟩
    refine ⟨p, rfl, ⟨_, SqL.of upd_same⟩, for_list (K := K) (a := p) (xs := [.ref t1, .ref t2, .ref t3]) (fun i σ H' => ∃ v : Option V, σ = [some (.ref a), some (.ref r), some (.int b), some (.ref h), some (.ref f), some (.ref c), v, none, none, none] ∧
        (∀ (x : Addr) (o : HO), (upd H7 c (.lst (vi rs.reverse ++ [V.int 5]))) x = some o → H' x = some o) ∧ H' p = some (.lst [.ref t1, .ref t2, .ref t3]) ∧
        ∀ t, t = t1 ∨ t = t2 ∨ t = t3 → ∃ xs : List V, H' t = some (.lst xs) ∧ xs.length ≤ 16 + i) ⟨none, rfl, s8p, upd_same, fun t ht => ?_⟩ (fun i σ H' _ ⟨_, _, _, e, _⟩ => SqL.of e) ?_ ?_⟩
    · rcases ht with e | e | e <;> rw [e]
      · exact ⟨_, ep1, by rw [vi_len, GR.td_length]; omega⟩
      · exact ⟨_, ep2, by rw [vi_len, GR.td_length]; omega⟩
      · exact ⟨_, ep3, by rw [vi_len, List.length_reverse]; omega⟩
    · rintro i x σ H' hi ⟨v, rfl, hold, hp, hts⟩
      have hil : i < 3 := (List.getElem?_eq_some_iff.mp hi).1
      obtain ⟨t, ht, rfl⟩ : ∃ t, (t = t1 ∨ t = t2 ∨ t = t3) ∧ x = .ref t := by
        have hm := List.mem_of_getElem? hi
        simp only [List.mem_cons, List.not_mem_nil, or_false] at hm
        rcases hm with e | e | e
        · exact ⟨t1, .inl rfl, e⟩
        · exact ⟨t2, .inr (.inl rfl), e⟩
        · exact ⟨t3, .inr (.inr rfl), e⟩
      obtain ⟨xs, ext, hxl⟩ := hts t ht
      refine ⟨_, rfl, .inl ⟨rfl, _, SqL.of ext⟩, t, _, _, rfl, rfl, ext, line_lt (by omega), _, rfl, fun y o e => ?_, ?_, fun u hu => ?_⟩
      · rw [upd_ne (fun z => by
          have := old y o e
          rcases ht with k | k | k <;> rw [k] at z
          · exact this.1 z
          · exact this.2.1 z
          · exact this.2.2 z)]
        exact hold y o e
      · rw [upd_ne (fun z => by
          rcases ht with k | k | k <;> rw [k] at z
          · exact npt1 z
          · exact npt2 z
          · exact npt3 z)]
        exact hp
      · by_cases e : u = t
        · rw [e, upd_same]
          exact ⟨_, rfl, by rw [List.length_append]; simp only [List.length_cons, List.length_nil]; omega⟩
        · rw [upd_ne e]
          obtain ⟨ys, e1, e2⟩ := hts u hu
          exact ⟨ys, e1, by omega⟩
    · rintro σ H' ⟨v, rfl, hold, _, _⟩
      have er9' := hold _ _ er8
      have eh9' := hold _ _ eh8
      have ef9' := hold _ _ ef8
      have ec9' := hold _ _ ec8
      have s19 : Same H1 H' := fun x o e => hold x o (s18 x o e)
      -- back.pop()
      have hcl : (vi rs.reverse ++ [V.int 5])[(vi rs.reverse ++ [V.int 5]).length - 1]? = some (.int 5) := by
        rw [List.length_append, List.getElem?_append_right (by simp)]
        simp
      refine ⟨_, rfl, .inl ⟨rfl, _, SqL.of ec9'⟩, c, _, _, rfl, rfl, ec9', hcl, ?_⟩
      rw [List.dropLast_concat]
      have s20 : Same H1 (upd H' c (.lst (vi rs.reverse))) := s19.put nc1'
      have er20 := s20 _ _ er
      have eh20 := at_ne (o := .lst (vi rs.reverse)) eh9' nch.symm
      have ef20 := at_ne (o := .lst (vi rs.reverse)) ef9' ncf.symm
      have ec20 : (upd H' c (.lst (vi rs.reverse))) c = some (.lst (vi rs.reverse)) := upd_same
      refine ⟨_, rfl, _, rfl, neL (SqL.of eh20) (SqL.of er20) ⟨_, rfl, ifnN rfl ?_⟩⟩
      -- turns
      obtain ⟨u, hu⟩ := nat_of (x := cell ns 4) big39
      refine ⟨_, rfl, a, ns, 4, rfl, (s1.trans s20).seq hS, by decide, _, _, rfl, rfl, ⟨by decide, by decide, by decide⟩, _, _, rfl, rfl, big39, ?_⟩
      dsimp only [gName]
      rw [hu]
      generalize upd H' c (.lst (vi rs.reverse)) = G0 at s20 er20 eh20 ef20 ec20
      refine ⟨_, rfl, f, _, rfl, .inl (SqL.of ef20), fun c3 nc3 => ⟨_, rfl, c3, _, u, rfl, SqL.of upd_same, R.td b, fun G1 l g1 nl el => ?_⟩⟩
      have g1' := (Same.new (o := .lst (vi (GR.td rs b))) nc3).trans g1
      refine ⟨_, rfl, r, _, rfl, .inl (SqL.of (g1' _ _ er20)), fun c4 nc4 => ⟨_, rfl, c4, _, u, rfl, SqL.of upd_same, R, fun G2 m g2 nm em => ?_⟩⟩
      have g2' := (Same.new (o := .lst (vi rs)) nc4).trans g2
      refine ⟨_, rfl, m, _, b, rfl, SqL.of em, R.itR u, fun G3 n g3 nn en => ?_⟩
      have g03 := (g1'.trans g2').trans g3
      refine ⟨l, n, _, _, rfl, g3 _ _ (g2' _ _ el), SqL.of en, _, rfl, ?_⟩
      rw [decide_eq_true (GR.td_it rs b u)]
      refine iteF ?_
      -- gaps(list(back))
      refine ⟨_, rfl, c, _, rfl, .inl (SqL.of (g03 _ _ ec20)), fun c5 nc5 => ⟨c5, _, rfl, SqL.of upd_same, R.rev, fun G4 l2 g4 nl2 el2 => ?_⟩⟩
      have g4' := (Same.new (o := .lst (vi rs.reverse)) nc5).trans g4
      refine ⟨_, rfl, r, _, rfl, .inl (SqL.of (g4' _ _ (g03 _ _ er20))), fun c6 nc6 => ⟨c6, _, rfl, SqL.of upd_same, R, fun G5 m2 g5 nm2 em2 => ?_⟩⟩
      have g5' := (Same.new (o := .lst (vi rs)) nc6).trans g5
      refine ⟨m2, _, rfl, SqL.of em2, R.gpR, fun G6 m3 g6 nm3 em3 => ⟨m3, _, 1, rfl, SqL.of em3, R.gpR.rev, fun G7 n2 g7 nn2 en2 => ?_⟩⟩
      have g37 := ((g4'.trans g5').trans g6).trans g7
      refine ⟨l2, n2, _, _, rfl, g7 _ _ (g6 _ _ (g5' _ _ el2)), SqL.of en2, _, rfl, ?_⟩
      rw [decide_eq_true (GR.rev_gp rs)]
      refine iteF ?_
      have g07 := g03.trans g37
      have er7' := g07 _ _ er20
      have ef7' := g07 _ _ ef20
      have ec7' := g07 _ _ ec20
      -- own
      refine ⟨_, rfl, r, _, rfl, .inl (SqL.of er7'), fun c7 nc7 => ⟨c7, _, rfl, SqL.of upd_same, R, fun G8 o L Tl g8 no eo W => ?_⟩⟩
      have g8' := (Same.new (o := .lst (vi rs)) nc7).trans g8
      have ef8' := g8' _ _ ef7'
      -- found.append(7)
      refine ⟨_, rfl, .inl ⟨rfl, _, SqL.of ef8'⟩, f, _, _, rfl, rfl, ef8', line_lt (by rw [vi_len, GR.td_length]; omega), ?_⟩
      have er9 := at_ne (o := .lst (vi (GR.td rs b) ++ [.int 7])) (g8' _ _ er7') nfr.symm
      have ec9 := at_ne (o := .lst (vi (GR.td rs b) ++ [.int 7])) (g8' _ _ ec7') ncf
      have eo9 := at_ne (o := .lst (vi (GR.td rs b) ++ [.int 7])) eo (ne_of eo ef8' (fun z => by cases z))
      generalize upd G8 f (.lst (vi (GR.td rs b) ++ [.int 7])) = G9 at er9 ec9 eo9
      refine ⟨_, rfl, r, _, rfl, .inl (SqL.of er9), fun c8 nc8 => ⟨_, rfl, c8, _, b, rfl, SqL.of upd_same, R, fun G10 d g10 nd ed => ?_⟩⟩
      have g10' := (Same.new (o := .lst (vi rs)) nc8).trans g10
      refine ⟨d, _, rfl, SqL.of ed, R.td b, fun G11 o2 L2 Tl2 g11 no2 eo2 W2 => ?_⟩
      obtain ⟨e1, e2⟩ := (W.td b).unique W2
      subst e1 e2
      have eo11 := g11 _ _ (g10' _ _ eo9)
      have ec11 := g11 _ _ (g10' _ _ ec9)
      refine ⟨_, rfl, eqT (SqT.of eo2) (SqT.of eo11) ?_⟩
      rw [beq_self_eq_true, beq_self_eq_true]
      refine ⟨true, rfl, iteT ?_⟩
      refine ⟨_, rfl, c, _, rfl, .inl (SqL.of ec11), fun c9 nc9 => ⟨c9, _, rfl, SqL.of upd_same, R.rev, fun G12 o3 L3 Tl3 g12 no3 eo3 W3 => ?_⟩⟩
      have eo12 := g12 _ _ ((Same.new (o := .lst (vi rs.reverse)) nc9) _ _ eo11)
      refine ⟨o3, _, _, _, rfl, rfl, SqT.of eo3, atI_of (j := 0) rfl rfl, _, rfl, o, _, _, _, rfl, rfl, SqT.of eo12, atI_of (j := 0) rfl rfl, rfl, ?_⟩
      rw [W.rev_tail R W3, decide_eq_true rfl]
      exact q _
end
/-! ### what the top has written; the law's own head -/
theorem all_mk {l : PySem.W.OpenLaw} {w : World} {K : PySem.W.Frag} {h : Heap} {mg : Str → Option Value} {fa : Addr} (X : K.In h) (G : h.Ns mainGlobals mg) (hfa : mg "law" = some (.ref fa))
    {f_asked : Addr} {od_asked an_asked : Option Addr} {sl_asked : Array (Option Value)} {oc_asked kV_asked dc_asked pm_asked cd_asked ct_asked : Value}
    (a_asked : PySem.W.nsIn K mainGlobals "asked" = some (some (.ref f_asked))) (l_asked : K.lookup f_asked = some ⟨oc_asked, od_asked, .func (PySem.W.fnOf "asked" "asked" (defArgs s_asked) (defBody s_asked) (defScope s_asked) .none kV_asked dc_asked pm_asked an_asked cd_asked ct_asked), sl_asked⟩) (co_asked : PySem.W.codeIn K cd_asked "asked" = true) (k_asked : PySem.W.keepIn K (.ref f_asked) = true)
    {f_gaps_of : Addr} {od_gaps_of an_gaps_of : Option Addr} {sl_gaps_of : Array (Option Value)} {oc_gaps_of kV_gaps_of dc_gaps_of pm_gaps_of cd_gaps_of ct_gaps_of : Value}
    (a_gaps_of : PySem.W.nsIn K mainGlobals "gaps_of" = some (some (.ref f_gaps_of))) (l_gaps_of : K.lookup f_gaps_of = some ⟨oc_gaps_of, od_gaps_of, .func (PySem.W.fnOf "gaps_of" "gaps_of" (defArgs s_gaps_of) (defBody s_gaps_of) (defScope s_gaps_of) .none kV_gaps_of dc_gaps_of pm_gaps_of an_gaps_of cd_gaps_of ct_gaps_of), sl_gaps_of⟩) (co_gaps_of : PySem.W.codeIn K cd_gaps_of "gaps_of" = true) (k_gaps_of : PySem.W.keepIn K (.ref f_gaps_of) = true)
    {f_gaps : Addr} {od_gaps an_gaps : Option Addr} {sl_gaps : Array (Option Value)} {oc_gaps kV_gaps dc_gaps pm_gaps cd_gaps ct_gaps : Value}
    (a_gaps : PySem.W.nsIn K mainGlobals "gaps" = some (some (.ref f_gaps))) (l_gaps : K.lookup f_gaps = some ⟨oc_gaps, od_gaps, .func (PySem.W.fnOf "gaps" "gaps" (defArgs s_gaps) (defBody s_gaps) (defScope s_gaps) .none kV_gaps dc_gaps pm_gaps an_gaps cd_gaps ct_gaps), sl_gaps⟩) (co_gaps : PySem.W.codeIn K cd_gaps "gaps" = true) (k_gaps : PySem.W.keepIn K (.ref f_gaps) = true)
    {f_walked : Addr} {od_walked an_walked : Option Addr} {sl_walked : Array (Option Value)} {oc_walked kV_walked dc_walked pm_walked cd_walked ct_walked : Value}
    (a_walked : PySem.W.nsIn K mainGlobals "walked" = some (some (.ref f_walked))) (l_walked : K.lookup f_walked = some ⟨oc_walked, od_walked, .func (PySem.W.fnOf "walked" "walked" (defArgs s_walked) (defBody s_walked) (defScope s_walked) .none kV_walked dc_walked pm_walked an_walked cd_walked ct_walked), sl_walked⟩) (co_walked : PySem.W.codeIn K cd_walked "walked" = true) (k_walked : PySem.W.keepIn K (.ref f_walked) = true)
    {f_after : Addr} {od_after an_after : Option Addr} {sl_after : Array (Option Value)} {oc_after kV_after dc_after pm_after cd_after ct_after : Value}
    (a_after : PySem.W.nsIn K mainGlobals "after" = some (some (.ref f_after))) (l_after : K.lookup f_after = some ⟨oc_after, od_after, .func (PySem.W.fnOf "after" "after" (defArgs s_after) (defBody s_after) (defScope s_after) .none kV_after dc_after pm_after an_after cd_after ct_after), sl_after⟩) (co_after : PySem.W.codeIn K cd_after "after" = true) (k_after : PySem.W.keepIn K (.ref f_after) = true)
    {f_turned : Addr} {od_turned an_turned : Option Addr} {sl_turned : Array (Option Value)} {oc_turned kV_turned dc_turned pm_turned cd_turned ct_turned : Value}
    (a_turned : PySem.W.nsIn K mainGlobals "turned" = some (some (.ref f_turned))) (l_turned : K.lookup f_turned = some ⟨oc_turned, od_turned, .func (PySem.W.fnOf "turned" "turned" (defArgs s_turned) (defBody s_turned) (defScope s_turned) .none kV_turned dc_turned pm_turned an_turned cd_turned ct_turned), sl_turned⟩) (co_turned : PySem.W.codeIn K cd_turned "turned" = true) (k_turned : PySem.W.keepIn K (.ref f_turned) = true)
    {f_contrary : Addr} {od_contrary an_contrary : Option Addr} {sl_contrary : Array (Option Value)} {oc_contrary kV_contrary dc_contrary pm_contrary cd_contrary ct_contrary : Value}
    (a_contrary : PySem.W.nsIn K mainGlobals "contrary" = some (some (.ref f_contrary))) (l_contrary : K.lookup f_contrary = some ⟨oc_contrary, od_contrary, .func (PySem.W.fnOf "contrary" "contrary" (defArgs s_contrary) (defBody s_contrary) (defScope s_contrary) .none kV_contrary dc_contrary pm_contrary an_contrary cd_contrary ct_contrary), sl_contrary⟩) (co_contrary : PySem.W.codeIn K cd_contrary "contrary" = true) (k_contrary : PySem.W.keepIn K (.ref f_contrary) = true)
    {f_tail_and_wheel : Addr} {od_tail_and_wheel an_tail_and_wheel : Option Addr} {sl_tail_and_wheel : Array (Option Value)} {oc_tail_and_wheel kV_tail_and_wheel dc_tail_and_wheel pm_tail_and_wheel cd_tail_and_wheel ct_tail_and_wheel : Value}
    (a_tail_and_wheel : PySem.W.nsIn K mainGlobals "tail_and_wheel" = some (some (.ref f_tail_and_wheel))) (l_tail_and_wheel : K.lookup f_tail_and_wheel = some ⟨oc_tail_and_wheel, od_tail_and_wheel, .func (PySem.W.fnOf "tail_and_wheel" "tail_and_wheel" (defArgs s_tail_and_wheel) (defBody s_tail_and_wheel) (defScope s_tail_and_wheel) .none kV_tail_and_wheel dc_tail_and_wheel pm_tail_and_wheel an_tail_and_wheel cd_tail_and_wheel ct_tail_and_wheel), sl_tail_and_wheel⟩) (co_tail_and_wheel : PySem.W.codeIn K cd_tail_and_wheel "tail_and_wheel" = true) (k_tail_and_wheel : PySem.W.keepIn K (.ref f_tail_and_wheel) = true)
    {f_l_cell_at : Addr} {od_l_cell_at an_l_cell_at : Option Addr} {sl_l_cell_at : Array (Option Value)} {oc_l_cell_at kV_l_cell_at dc_l_cell_at pm_l_cell_at cd_l_cell_at ct_l_cell_at : Value}
    (a_l_cell_at : PySem.W.nsIn K mainGlobals "_law_cell_at" = some (some (.ref f_l_cell_at))) (l_l_cell_at : K.lookup f_l_cell_at = some ⟨oc_l_cell_at, od_l_cell_at, .func (PySem.W.fnOf "_law_cell_at" "_law_cell_at" (defArgs s_l_cell_at) (defBody s_l_cell_at) (defScope s_l_cell_at) .none kV_l_cell_at dc_l_cell_at pm_l_cell_at an_l_cell_at cd_l_cell_at ct_l_cell_at), sl_l_cell_at⟩) (co_l_cell_at : PySem.W.codeIn K cd_l_cell_at "_law_cell_at" = true) (k_l_cell_at : PySem.W.keepIn K (.ref f_l_cell_at) = true)
    {f_l_draw : Addr} {od_l_draw an_l_draw : Option Addr} {sl_l_draw : Array (Option Value)} {oc_l_draw kV_l_draw dc_l_draw pm_l_draw cd_l_draw ct_l_draw : Value}
    (a_l_draw : PySem.W.nsIn K mainGlobals "_law_draw" = some (some (.ref f_l_draw))) (l_l_draw : K.lookup f_l_draw = some ⟨oc_l_draw, od_l_draw, .func (PySem.W.fnOf "_law_draw" "_law_draw" (defArgs s_l_draw) (defBody s_l_draw) (defScope s_l_draw) .none kV_l_draw dc_l_draw pm_l_draw an_l_draw cd_l_draw ct_l_draw), sl_l_draw⟩) (co_l_draw : PySem.W.codeIn K cd_l_draw "_law_draw" = true) (k_l_draw : PySem.W.keepIn K (.ref f_l_draw) = true)
    {f_l_whole : Addr} {od_l_whole an_l_whole : Option Addr} {sl_l_whole : Array (Option Value)} {oc_l_whole kV_l_whole dc_l_whole pm_l_whole cd_l_whole ct_l_whole : Value}
    (a_l_whole : PySem.W.nsIn K mainGlobals "_law_whole" = some (some (.ref f_l_whole))) (l_l_whole : K.lookup f_l_whole = some ⟨oc_l_whole, od_l_whole, .func (PySem.W.fnOf "_law_whole" "_law_whole" (defArgs s_l_whole) (defBody s_l_whole) (defScope s_l_whole) .none kV_l_whole dc_l_whole pm_l_whole an_l_whole cd_l_whole ct_l_whole), sl_l_whole⟩) (co_l_whole : PySem.W.codeIn K cd_l_whole "_law_whole" = true) (k_l_whole : PySem.W.keepIn K (.ref f_l_whole) = true)
    {f_l_ring_by : Addr} {od_l_ring_by an_l_ring_by : Option Addr} {sl_l_ring_by : Array (Option Value)} {oc_l_ring_by kV_l_ring_by dc_l_ring_by pm_l_ring_by cd_l_ring_by ct_l_ring_by : Value}
    (a_l_ring_by : PySem.W.nsIn K mainGlobals "_law_ring_by" = some (some (.ref f_l_ring_by))) (l_l_ring_by : K.lookup f_l_ring_by = some ⟨oc_l_ring_by, od_l_ring_by, .func (PySem.W.fnOf "_law_ring_by" "_law_ring_by" (defArgs s_l_ring_by) (defBody s_l_ring_by) (defScope s_l_ring_by) .none kV_l_ring_by dc_l_ring_by pm_l_ring_by an_l_ring_by cd_l_ring_by ct_l_ring_by), sl_l_ring_by⟩) (co_l_ring_by : PySem.W.codeIn K cd_l_ring_by "_law_ring_by" = true) (k_l_ring_by : PySem.W.keepIn K (.ref f_l_ring_by) = true)
    {f_l_is : Addr} {od_l_is an_l_is : Option Addr} {sl_l_is : Array (Option Value)} {oc_l_is kV_l_is dc_l_is pm_l_is cd_l_is ct_l_is : Value}
    (a_l_is : PySem.W.nsIn K mainGlobals "_law_is" = some (some (.ref f_l_is))) (l_l_is : K.lookup f_l_is = some ⟨oc_l_is, od_l_is, .func (PySem.W.fnOf "_law_is" "_law_is" (defArgs s_l_is) (defBody s_l_is) (defScope s_l_is) .none kV_l_is dc_l_is pm_l_is an_l_is cd_l_is ct_l_is), sl_l_is⟩) (co_l_is : PySem.W.codeIn K cd_l_is "_law_is" = true) (k_l_is : PySem.W.keepIn K (.ref f_l_is) = true)
    {f_law : Addr} {od_law an_law : Option Addr} {sl_law : Array (Option Value)} {oc_law kV_law dc_law pm_law cd_law ct_law : Value}
    (a_law : PySem.W.nsIn K mainGlobals "law" = some (some (.ref f_law))) (l_law : K.lookup f_law = some ⟨oc_law, od_law, .func (PySem.W.fnOf "law" "law" (defArgs s_law) (defBody s_law) (defScope s_law) .none kV_law dc_law pm_law an_law cd_law ct_law), sl_law⟩) (co_law : PySem.W.codeIn K cd_law "law" = true) (k_law : PySem.W.keepIn K (.ref f_law) = true)
    {t_FEWEST : Tok} (c_FEWEST : PySem.W.nsIn K mainGlobals "FEWEST" = some (some (.int 3 t_FEWEST)))
    {t_MOST : Tok} (c_MOST : PySem.W.nsIn K mainGlobals "MOST" = some (some (.int 16 t_MOST)))
    {t_GREATEST : Tok} (c_GREATEST : PySem.W.nsIn K mainGlobals "GREATEST" = some (some (.int 1000 t_GREATEST)))
    (z_abs : PySem.W.nsIn K mainGlobals "abs" = some none)
    (z_bool : PySem.W.nsIn K mainGlobals "bool" = some none)
    (z_int : PySem.W.nsIn K mainGlobals "int" = some none)
    (z_isinstance : PySem.W.nsIn K mainGlobals "isinstance" = some none)
    (z_len : PySem.W.nsIn K mainGlobals "len" = some none)
    (z_list : PySem.W.nsIn K mainGlobals "list" = some none)
    (z_range : PySem.W.nsIn K mainGlobals "range" = some none)
    (z_reversed : PySem.W.nsIn K mainGlobals "reversed" = some none)
    (z_tuple : PySem.W.nsIn K mainGlobals "tuple" = some none)
    : ∃ fd : FuncData, (∀ (s : Shared) (v : Value), BindsTo s fd ⟨[v], []⟩ [("script", v)]) ∧ ∀ base : Heap, K.In base → base.Ns mainGlobals mg → FnOk l.prog w K mg base CX0 4 fa fd ["script"] (sp_law K) := by
  have e := hfa.symm.trans (PySem.W.mg_of X G a_law)
  cases e
  have F_asked := fun_mk (st := s_asked) l_asked co_asked k_asked
  have b_asked := F_asked.binds (ps := ["ring"]) fun _ _ _ _ _ _ us hl => match us, hl with | [_], _ => rfl
  have F_gaps_of := fun_mk (st := s_gaps_of) l_gaps_of co_gaps_of k_gaps_of
  have b_gaps_of := F_gaps_of.binds (ps := ["ring"]) fun _ _ _ _ _ _ us hl => match us, hl with | [_], _ => rfl
  have F_gaps := fun_mk (st := s_gaps) l_gaps co_gaps k_gaps
  have b_gaps := F_gaps.binds (ps := ["ring"]) fun _ _ _ _ _ _ us hl => match us, hl with | [_], _ => rfl
  have F_walked := fun_mk (st := s_walked) l_walked co_walked k_walked
  have b_walked := F_walked.binds (ps := ["ring"]) fun _ _ _ _ _ _ us hl => match us, hl with | [_], _ => rfl
  have F_after := fun_mk (st := s_after) l_after co_after k_after
  have b_after := F_after.binds (ps := ["ring", "turns"]) fun _ _ _ _ _ _ us hl => match us, hl with | [_, _], _ => rfl
  have F_turned := fun_mk (st := s_turned) l_turned co_turned k_turned
  have b_turned := F_turned.binds (ps := ["ring", "by"]) fun _ _ _ _ _ _ us hl => match us, hl with | [_, _], _ => rfl
  have F_contrary := fun_mk (st := s_contrary) l_contrary co_contrary k_contrary
  have b_contrary := F_contrary.binds (ps := ["ring"]) fun _ _ _ _ _ _ us hl => match us, hl with | [_], _ => rfl
  have F_tail_and_wheel := fun_mk (st := s_tail_and_wheel) l_tail_and_wheel co_tail_and_wheel k_tail_and_wheel
  have b_tail_and_wheel := F_tail_and_wheel.binds (ps := ["ring"]) fun _ _ _ _ _ _ us hl => match us, hl with | [_], _ => rfl
  have F_l_cell_at := fun_mk (st := s_l_cell_at) l_l_cell_at co_l_cell_at k_l_cell_at
  have b_l_cell_at := F_l_cell_at.binds (ps := ["script", "k"]) fun _ _ _ _ _ _ us hl => match us, hl with | [_, _], _ => rfl
  have F_l_draw := fun_mk (st := s_l_draw) l_l_draw co_l_draw k_l_draw
  have b_l_draw := F_l_draw.binds (ps := ["cell", "k", "bound"]) fun _ _ _ _ _ _ us hl => match us, hl with | [_, _, _], _ => rfl
  have F_l_whole := fun_mk (st := s_l_whole) l_l_whole co_l_whole k_l_whole
  have b_l_whole := F_l_whole.binds (ps := ["found"]) fun _ _ _ _ _ _ us hl => match us, hl with | [_], _ => rfl
  have F_l_ring_by := fun_mk (st := s_l_ring_by) l_l_ring_by co_l_ring_by k_l_ring_by
  have b_l_ring_by := F_l_ring_by.binds (ps := ["script", "first"]) fun _ _ _ _ _ _ us hl => match us, hl with | [_, _], _ => rfl
  have F_l_is := fun_mk (st := s_l_is) l_l_is co_l_is k_l_is
  have b_l_is := F_l_is.binds (ps := ["found", "due"]) fun _ _ _ _ _ _ us hl => match us, hl with | [_, _], _ => rfl
  have F_law := fun_mk (st := s_law) l_law co_law k_law
  have b_law := F_law.binds (ps := ["script"]) fun _ _ _ _ _ _ us hl => match us, hl with | [_], _ => rfl
  let T : Txt K mg := {
    f_asked := _, d_asked := _, F_asked := F_asked, b_asked := b_asked, g_asked := PySem.W.mg_of X G a_asked,
    f_gaps_of := _, d_gaps_of := _, F_gaps_of := F_gaps_of, b_gaps_of := b_gaps_of, g_gaps_of := PySem.W.mg_of X G a_gaps_of,
    f_gaps := _, d_gaps := _, F_gaps := F_gaps, b_gaps := b_gaps, g_gaps := PySem.W.mg_of X G a_gaps,
    f_walked := _, d_walked := _, F_walked := F_walked, b_walked := b_walked, g_walked := PySem.W.mg_of X G a_walked,
    f_after := _, d_after := _, F_after := F_after, b_after := b_after, g_after := PySem.W.mg_of X G a_after,
    f_turned := _, d_turned := _, F_turned := F_turned, b_turned := b_turned, g_turned := PySem.W.mg_of X G a_turned,
    f_contrary := _, d_contrary := _, F_contrary := F_contrary, b_contrary := b_contrary, g_contrary := PySem.W.mg_of X G a_contrary,
    f_tail_and_wheel := _, d_tail_and_wheel := _, F_tail_and_wheel := F_tail_and_wheel, b_tail_and_wheel := b_tail_and_wheel, g_tail_and_wheel := PySem.W.mg_of X G a_tail_and_wheel,
    f_l_cell_at := _, d_l_cell_at := _, F_l_cell_at := F_l_cell_at, b_l_cell_at := b_l_cell_at, g_l_cell_at := PySem.W.mg_of X G a_l_cell_at,
    f_l_draw := _, d_l_draw := _, F_l_draw := F_l_draw, b_l_draw := b_l_draw, g_l_draw := PySem.W.mg_of X G a_l_draw,
    f_l_whole := _, d_l_whole := _, F_l_whole := F_l_whole, b_l_whole := b_l_whole, g_l_whole := PySem.W.mg_of X G a_l_whole,
    f_l_ring_by := _, d_l_ring_by := _, F_l_ring_by := F_l_ring_by, b_l_ring_by := b_l_ring_by, g_l_ring_by := PySem.W.mg_of X G a_l_ring_by,
    f_l_is := _, d_l_is := _, F_l_is := F_l_is, b_l_is := b_l_is, g_l_is := PySem.W.mg_of X G a_l_is,
    f_law := _, d_law := _, F_law := F_law, b_law := b_law, g_law := PySem.W.mg_of X G a_law,
    c_FEWEST := ⟨_, PySem.W.mg_of X G c_FEWEST⟩,
    c_MOST := ⟨_, PySem.W.mg_of X G c_MOST⟩,
    c_GREATEST := ⟨_, PySem.W.mg_of X G c_GREATEST⟩,
    z_abs := PySem.W.mg_none_of X G z_abs,
    z_bool := PySem.W.mg_none_of X G z_bool,
    z_int := PySem.W.mg_none_of X G z_int,
    z_isinstance := PySem.W.mg_none_of X G z_isinstance,
    z_len := PySem.W.mg_none_of X G z_len,
    z_list := PySem.W.mg_none_of X G z_list,
    z_range := PySem.W.mg_none_of X G z_range,
    z_reversed := PySem.W.mg_none_of X G z_reversed,
    z_tuple := PySem.W.mg_none_of X G z_tuple }
  exact ⟨PySem.W.fnOf "law" "law" (defArgs s_law) (defBody s_law) (defScope s_law) .none kV_law dc_law pm_law an_law cd_law ct_law, fun s v => .of_eq rfl, fun base _ _ => ok_law T⟩
end GK
open PySem PySem.W PyProof.Rows
set_option maxHeartbeats 0 in
theorem PySem.Challenge.cw_gapring_k12_whole_turned_holds : PySem.Challenge.rw_gapring_k12_whole_turned.Holds := by
  w_on; o_law; k_head; (case hw => w_witness2)
  k_fill
  refine L2.walk_of (l := PySem.Challenge.rw_gapring_k12_whole_turned) (n := 63) (k := 4) (x := "script") (CX := fun _ => L2.CX0) (sp := fun w => GK.sp_law _) rfl (by decide) rfl ⟨rfl, by decide, by decide⟩ (fun w h Y => PySem.W.kIn_of Y) ?F (fun _ _ a ns hl _ hS => ⟨a, ns, rfl, hS, hl, fun _ => rfl⟩) (fun _ _ _ _ _ h => h)
  case F =>
    intro w mg fa h KX G hmg
    refine' GK.all_mk KX G hmg ?a_asked ?l_asked ?co_asked ?k_asked ?a_gaps_of ?l_gaps_of ?co_gaps_of ?k_gaps_of ?a_gaps ?l_gaps ?co_gaps ?k_gaps ?a_walked ?l_walked ?co_walked ?k_walked ?a_after ?l_after ?co_after ?k_after ?a_turned ?l_turned ?co_turned ?k_turned ?a_contrary ?l_contrary ?co_contrary ?k_contrary ?a_tail_and_wheel ?l_tail_and_wheel ?co_tail_and_wheel ?k_tail_and_wheel ?a_l_cell_at ?l_l_cell_at ?co_l_cell_at ?k_l_cell_at ?a_l_draw ?l_l_draw ?co_l_draw ?k_l_draw ?a_l_whole ?l_l_whole ?co_l_whole ?k_l_whole ?a_l_ring_by ?l_l_ring_by ?co_l_ring_by ?k_l_ring_by ?a_l_is ?l_l_is ?co_l_is ?k_l_is ?a_law ?l_law ?co_law ?k_law ?c_FEWEST ?c_MOST ?c_GREATEST ?z_abs ?z_bool ?z_int ?z_isinstance ?z_len ?z_list ?z_range ?z_reversed ?z_tuple
    (case a_asked => k_is)
    (case l_asked => k_is)
    (case co_asked => k_is)
    (case k_asked => k_is)
    (case a_gaps_of => k_is)
    (case l_gaps_of => k_is)
    (case co_gaps_of => k_is)
    (case k_gaps_of => k_is)
    (case a_gaps => k_is)
    (case l_gaps => k_is)
    (case co_gaps => k_is)
    (case k_gaps => k_is)
    (case a_walked => k_is)
    (case l_walked => k_is)
    (case co_walked => k_is)
    (case k_walked => k_is)
    (case a_after => k_is)
    (case l_after => k_is)
    (case co_after => k_is)
    (case k_after => k_is)
    (case a_turned => k_is)
    (case l_turned => k_is)
    (case co_turned => k_is)
    (case k_turned => k_is)
    (case a_contrary => k_is)
    (case l_contrary => k_is)
    (case co_contrary => k_is)
    (case k_contrary => k_is)
    (case a_tail_and_wheel => k_is)
    (case l_tail_and_wheel => k_is)
    (case co_tail_and_wheel => k_is)
    (case k_tail_and_wheel => k_is)
    (case a_l_cell_at => k_is)
    (case l_l_cell_at => k_is)
    (case co_l_cell_at => k_is)
    (case k_l_cell_at => k_is)
    (case a_l_draw => k_is)
    (case l_l_draw => k_is)
    (case co_l_draw => k_is)
    (case k_l_draw => k_is)
    (case a_l_whole => k_is)
    (case l_l_whole => k_is)
    (case co_l_whole => k_is)
    (case k_l_whole => k_is)
    (case a_l_ring_by => k_is)
    (case l_l_ring_by => k_is)
    (case co_l_ring_by => k_is)
    (case k_l_ring_by => k_is)
    (case a_l_is => k_is)
    (case l_l_is => k_is)
    (case co_l_is => k_is)
    (case k_l_is => k_is)
    (case a_law => k_is)
    (case l_law => k_is)
    (case co_law => k_is)
    (case k_law => k_is)
    (case c_FEWEST => k_is)
    (case c_MOST => k_is)
    (case c_GREATEST => k_is)
    (case z_abs => k_is)
    (case z_bool => k_is)
    (case z_int => k_is)
    (case z_isinstance => k_is)
    (case z_len => k_is)
    (case z_list => k_is)
    (case z_range => k_is)
    (case z_reversed => k_is)
    (case z_tuple => k_is)
