import PyProof.Rows.All
import Wide.All
import OpenK.AllK
import Wide.FinOn
import PySem.Challenge.RW_gapring_k16_read_or_refused
import HandS.ForMost
import HandS.IsInst
import KE.KDictDisplayH
import HandS.Text
import KE.GoesComp
import KE.GoesRaise
import KE.KAsSuite
import HandS.WordsExc
import HandS.ExcIs
import HandS.HotCalls
set_option Elab.async false
set_option linter.all false
set_option maxRecDepth 100000
set_option maxHeartbeats 8000000
/-! Rings of numbers and their gaps: plain mathematics. -/
namespace GR
abbrev Fn := Int → Int
def D (r : Fn) : Fn := fun i => ((r i - r (i + 1)).natAbs : Int)
def itD : Nat → Fn → Fn
  | 0, r => r
  | t + 1, r => itD t (D r)
theorem itD_add (t u : Nat) (r : Fn) : itD (t + u) r = itD u (itD t r) := by
  induction t generalizing r with
  | zero => rw [Nat.zero_add]; rfl
  | succ t ih => rw [Nat.succ_add]; exact ih (D r)
theorem itD_succ (t : Nat) (r : Fn) : itD (t + 1) r = D (itD t r) := itD_add t 1 r
/-! ### lists -/
def gp (ns : List Int) : List Int := (List.range ns.length).map fun k => ((ns.getD k 0 - ns.getD ((k + 1) % ns.length) 0).natAbs : Int)
def it : Nat → List Int → List Int
  | 0, l => l
  | t + 1, l => it t (gp l)
theorem it_add (t u : Nat) (r : List Int) : it (t + u) r = it u (it t r) := by
  induction t generalizing r with
  | zero => rw [Nat.zero_add]; rfl
  | succ t ih => rw [Nat.succ_add]; exact ih (gp r)
theorem it_succ (t : Nat) (r : List Int) : it (t + 1) r = gp (it t r) := it_add t 1 r
theorem gp_length (ns : List Int) : (gp ns).length = ns.length := by
  unfold gp
  rw [List.length_map, List.length_range]
theorem it_length (t : Nat) (ns : List Int) : (it t ns).length = ns.length := by
  induction t generalizing ns with
  | zero => rfl
  | succ t ih => exact (ih (gp ns)).trans (gp_length ns)
theorem gp_get {ns : List Int} {k : Nat} (h : k < ns.length) : (gp ns).getD k 0 = ((ns.getD k 0 - ns.getD ((k + 1) % ns.length) 0).natAbs : Int) := by
  unfold gp
  rw [List.getD_eq_getElem?_getD, List.getElem?_map, List.getElem?_range h]
  rfl
/-- a list, round and round -/
def fn (ns : List Int) : Fn := fun i => ns.getD (i % (ns.length : Int)).toNat 0
theorem fn_nat {ns : List Int} {k : Nat} (h : k < ns.length) : fn ns (k : Int) = ns.getD k 0 := by
  unfold fn
  have e : ((k : Int) % (ns.length : Int)).toNat = k := by
    rw [← Int.natCast_emod, Int.toNat_natCast]
    exact Nat.mod_eq_of_lt h
  rw [e]
theorem fn_per (ns : List Int) (i : Int) : fn ns (i + ns.length) = fn ns i := by
  unfold fn
  rw [Int.add_emod_right]
theorem fn_mod (ns : List Int) (i : Int) : fn ns (i % (ns.length : Int)) = fn ns i := by
  unfold fn
  rw [Int.emod_emod]
theorem fn_at {ns : List Int} (h : 0 < ns.length) (i : Int) : ∃ k, k < ns.length ∧ ((k : Int) = i % (ns.length : Int)) ∧ fn ns i = ns.getD k 0 := by
  have h0 : (0 : Int) ≤ i % (ns.length : Int) := Int.emod_nonneg _ (by omega)
  have h1 : i % (ns.length : Int) < (ns.length : Int) := Int.emod_lt_of_pos _ (by omega)
  refine ⟨(i % (ns.length : Int)).toNat, by omega, by omega, rfl⟩
theorem list_ext {ns ms : List Int} (hl : ns.length = ms.length) (h : fn ns = fn ms) : ns = ms := by
  apply List.ext_getElem hl
  intro k h1 h2
  have e := congrFun h (k : Int)
  rw [fn_nat h1, fn_nat h2] at e
  rw [List.getD_eq_getElem?_getD, List.getD_eq_getElem?_getD, List.getElem?_eq_getElem h1, List.getElem?_eq_getElem h2] at e
  exact e
theorem list_ext' {ns ms : List Int} (hl : ns.length = ms.length) (h : ∀ k, k < ns.length → ns.getD k 0 = ms.getD k 0) : ns = ms := by
  apply List.ext_getElem hl
  intro k h1 h2
  have e := h k h1
  rw [List.getD_eq_getElem?_getD, List.getD_eq_getElem?_getD, List.getElem?_eq_getElem h1, List.getElem?_eq_getElem h2] at e
  exact e
theorem fn_gp (ns : List Int) : fn (gp ns) = D (fn ns) := by
  by_cases h : 0 < ns.length
  · funext i
    obtain ⟨k, hk, ek, e⟩ := fn_at (ns := gp ns) (by rw [gp_length]; exact h) i
    rw [gp_length] at hk ek
    rw [e, gp_get hk]
    unfold D
    have e1 : fn ns i = ns.getD k 0 := by
      rw [← fn_mod, ← ek, fn_nat hk]
    have hm : (k + 1) % ns.length < ns.length := Nat.mod_lt _ h
    have e2 : fn ns (i + 1) = ns.getD ((k + 1) % ns.length) 0 := by
      rw [← fn_nat hm, Int.natCast_emod, fn_mod, ← fn_mod ns (i + 1), ← fn_mod ns (((k + 1 : Nat) : Int))]
      congr 1
      rw [Int.natCast_add, ek]
      exact (Int.emod_add_emod i (ns.length : Int) 1).symm
    rw [e1, e2]
  · have e : ns = [] := List.length_eq_zero_iff.mp (by omega)
    subst e
    funext i
    show fn [] i = D (fn []) i
    unfold D fn
    simp
theorem fn_it (t : Nat) (ns : List Int) : fn (it t ns) = itD t (fn ns) := by
  induction t generalizing ns with
  | zero => rfl
  | succ t ih =>
    show fn (it t (gp ns)) = itD t (D (fn ns))
    rw [ih, fn_gp]
/-! ### bounds -/
def Bd (m : Int) (r : Fn) : Prop := ∀ i, 0 ≤ r i ∧ r i ≤ m
theorem Bd.D {m : Int} {r : Fn} (h : Bd m r) : Bd m (D r) := fun i => by
  have h1 := h i
  have h2 := h (i + 1)
  unfold GR.D
  omega
theorem Bd.itD {m : Int} {r : Fn} (h : Bd m r) (t : Nat) : Bd m (itD t r) := by
  induction t generalizing r with
  | zero => exact h
  | succ t ih => exact ih h.D
def Bl (m : Int) (ns : List Int) : Prop := ∀ x ∈ ns, 0 ≤ x ∧ x ≤ m
theorem Bl.get {m : Int} {ns : List Int} (h : Bl m ns) {k : Nat} (hk : k < ns.length) : 0 ≤ ns.getD k 0 ∧ ns.getD k 0 ≤ m := by
  rw [List.getD_eq_getElem?_getD, List.getElem?_eq_getElem hk]
  exact h _ (List.getElem_mem hk)
theorem Bl.fn {m : Int} {ns : List Int} (h : Bl m ns) (hp : 0 < ns.length) : Bd m (fn ns) := fun i => by
  obtain ⟨k, hk, _, e⟩ := fn_at hp i
  rw [e]
  exact h.get hk
theorem mem_getD {ns : List Int} {x : Int} (h : x ∈ ns) : ∃ k, k < ns.length ∧ ns.getD k 0 = x := by
  obtain ⟨k, hk, e⟩ := List.getElem_of_mem h
  refine ⟨k, hk, ?_⟩
  rw [List.getD_eq_getElem?_getD, List.getElem?_eq_getElem hk]
  exact e
theorem getD_mem {ns : List Int} {k : Nat} (hk : k < ns.length) : ns.getD k 0 ∈ ns := by
  rw [List.getD_eq_getElem?_getD, List.getElem?_eq_getElem hk]
  exact List.getElem_mem hk
theorem Bl.of_fn {m : Int} {ns : List Int} (h : Bd m (GR.fn ns)) : Bl m ns := fun x hx => by
  obtain ⟨k, hk, e⟩ := mem_getD hx
  have q := h (k : Int)
  rw [fn_nat hk, e] at q
  exact q
theorem Bl.gp {m : Int} {ns : List Int} (h : Bl m ns) : Bl m (gp ns) := by
  by_cases hp : 0 < ns.length
  · refine Bl.of_fn ?_
    rw [fn_gp]
    exact (h.fn hp).D
  · have e : ns = [] := List.length_eq_zero_iff.mp (by omega)
    subst e
    exact fun x hx => nomatch hx
theorem Bl.it {m : Int} {ns : List Int} (h : Bl m ns) (t : Nat) : Bl m (it t ns) := by
  induction t generalizing ns with
  | zero => exact h
  | succ t ih => exact ih h.gp
structure Ring (ns : List Int) : Prop where
  lo : 3 ≤ ns.length
  hi : ns.length ≤ 16
  bd : Bl 1000 ns
theorem Ring.gpR {ns : List Int} (R : Ring ns) : Ring (gp ns) := ⟨by rw [gp_length]; exact R.lo, by rw [gp_length]; exact R.hi, R.bd.gp⟩
theorem Ring.itR {ns : List Int} (R : Ring ns) (t : Nat) : Ring (it t ns) := ⟨by rw [it_length]; exact R.lo, by rw [it_length]; exact R.hi, R.bd.it t⟩
theorem Ring.pos {ns : List Int} (R : Ring ns) : 0 < ns.length := Nat.lt_of_lt_of_le (by decide) R.lo
/-! ### every ring comes to a flat one -/
theorem itD_le {m : Int} {r : Fn} (h : Bd m r) (k : Nat) (i : Int) : ∃ j : Int, i ≤ j ∧ j ≤ i + k ∧ itD k r i ≤ r j := by
  induction k generalizing r with
  | zero => exact ⟨i, Int.le_refl _, by omega, Int.le_refl _⟩
  | succ k ih =>
    obtain ⟨j, h1, h2, h3⟩ := ih h.D
    have a := h j
    have b := h (j + 1)
    have e : D r j = ((r j - r (j + 1)).natAbs : Int) := rfl
    by_cases c : r j ≤ r (j + 1)
    · exact ⟨j + 1, by omega, by omega, by show itD k (D r) i ≤ r (j + 1); omega⟩
    · exact ⟨j, by omega, by omega, by show itD k (D r) i ≤ r j; omega⟩
def Two (m : Int) (r : Fn) (i j : Int) : Prop := ∀ l, i ≤ l → l ≤ j → r l = 0 ∨ r l = m
theorem two_up {m : Int} {r : Fn} (h : Bd m r) {i : Int} {k : Nat} (hd : Two m (D r) i (i + k)) {j : Int} (h1 : i ≤ j) (hj : r j = 0 ∨ r j = m) (n : Nat) (h2 : j + n ≤ i + k + 1) : r (j + n) = 0 ∨ r (j + n) = m := by
  induction n with
  | zero => simpa using hj
  | succ n ih =>
    have q := ih (by omega)
    have d := hd (j + n) (by omega) (by omega)
    have e : D r (j + n) = ((r (j + n) - r (j + n + 1)).natAbs : Int) := rfl
    have b := h (j + n + 1)
    have b0 := h (j + n)
    have e1 : j + ((n + 1 : Nat) : Int) = j + n + 1 := by omega
    rw [e1]
    omega
theorem two_down {m : Int} {r : Fn} (h : Bd m r) {i : Int} {k : Nat} (hd : Two m (D r) i (i + k)) {j : Int} (hj : r j = 0 ∨ r j = m) (h2 : j ≤ i + k + 1) (n : Nat) (h1 : i ≤ j - n) : r (j - n) = 0 ∨ r (j - n) = m := by
  induction n with
  | zero => simpa using hj
  | succ n ih =>
    have q := ih (by omega)
    have d := hd (j - n - 1) (by omega) (by omega)
    have e : D r (j - n - 1) = ((r (j - n - 1) - r (j - n - 1 + 1)).natAbs : Int) := rfl
    have e0 : j - n - 1 + 1 = j - n := by omega
    rw [e0] at e
    have b := h (j - n - 1)
    have b0 := h (j - n)
    have e1 : j - ((n + 1 : Nat) : Int) = j - n - 1 := by omega
    rw [e1]
    omega
theorem two_of {m : Int} {r : Fn} (h : Bd m r) (hm : 0 < m) (k : Nat) (i : Int) (e : itD k r i = m) : Two m r i (i + k) := by
  induction k generalizing r with
  | zero =>
    intro l h1 h2
    have z : l = i := by omega
    subst z
    exact .inr e
  | succ k ih =>
    have hd : Two m (D r) i (i + k) := ih h.D e
    obtain ⟨j, h1, h2, h3⟩ := itD_le h.D k i
    have e' : itD k (D r) i = m := e
    have b := h.D j
    have ej : D r j = m := by omega
    have ej' : D r j = ((r j - r (j + 1)).natAbs : Int) := rfl
    have b1 := h j
    have b2 := h (j + 1)
    have z : r j = 0 ∨ r j = m := by omega
    intro l hl1 hl2
    by_cases c : j ≤ l
    · have q := two_up h hd h1 z (l - j).toNat (by omega)
      have e1 : j + ((l - j).toNat : Int) = l := by omega
      rw [e1] at q
      exact q
    · have q := two_down h hd z (by omega) (j - l).toNat (by omega)
      have e1 : j - ((j - l).toNat : Int) = l := by omega
      rw [e1] at q
      exact q
def Flat (m : Int) (r : Fn) : Prop := ∀ i, r i = 0 ∨ r i = m
theorem Flat.D {m : Int} {r : Fn} (hm : 0 ≤ m) (h : Flat m r) : Flat m (D r) := fun i => by
  have h1 := h i
  have h2 := h (i + 1)
  unfold GR.D
  omega
theorem Flat.itD {m : Int} {r : Fn} (hm : 0 ≤ m) (h : Flat m r) (t : Nat) : Flat m (itD t r) := by
  induction t generalizing r with
  | zero => exact h
  | succ t ih => exact ih (h.D hm)
def Per (n : Nat) (r : Fn) : Prop := ∀ i, r (i + n) = r i
theorem Per.D {n : Nat} {r : Fn} (h : Per n r) : Per n (D r) := fun i => by
  unfold GR.D
  rw [h i, show i + (n : Int) + 1 = (i + 1) + n by omega, h (i + 1)]
theorem Per.itD {n : Nat} {r : Fn} (h : Per n r) (t : Nat) : Per n (itD t r) := by
  induction t generalizing r with
  | zero => exact h
  | succ t ih => exact ih h.D
theorem Per.mul {n : Nat} {r : Fn} (h : Per n r) (k : Nat) (i : Int) : r (i + k * n) = r i := by
  induction k with
  | zero => simp
  | succ k ih =>
    rw [show i + ((k + 1 : Nat) : Int) * n = (i + k * n) + n by rw [Int.natCast_add, Int.add_mul]; omega, h, ih]
theorem Per.mod {n : Nat} {r : Fn} (h : Per n r) (i : Int) : r (i % n) = r i := by
  have e := Int.emod_add_mul_ediv i n
  by_cases c : 0 ≤ i / n
  · have q := h.mul (i / n).toNat (i % n)
    rw [Int.toNat_of_nonneg c, Int.mul_comm (i / (n : Int)) (n : Int), e] at q
    exact q.symm
  · have q := h.mul (-(i / n)).toNat i
    rw [Int.toNat_of_nonneg (by omega), Int.neg_mul, Int.mul_comm (i / (n : Int)) (n : Int)] at q
    rw [← q]
    congr 1
    omega
theorem Per.win {n : Nat} {r : Fn} (h : Per n r) (hn : 0 < n) (i l : Int) : ∃ j, i ≤ j ∧ j < i + n ∧ r l = r j := by
  refine ⟨i + (l - i) % n, ?_, ?_, ?_⟩
  · have := Int.emod_nonneg (l - i) (b := (n : Int)) (by omega)
    omega
  · have := Int.emod_lt_of_pos (l - i) (b := (n : Int)) (by omega)
    omega
  · have s : Per n (fun x => r (i + x)) := fun x => by
      show r (i + (x + n)) = r (i + x)
      rw [← Int.add_assoc]
      exact h _
    have q := s.mod (l - i)
    have e : i + (l - i) = l := by omega
    simp only [e] at q
    exact q.symm
theorem flat_step {m : Int} {n : Nat} {r : Fn} (h : Bd (m + 1) r) (hm : 0 ≤ m) (hp : Per n r) (hn : 0 < n) (k : Nat) (hk : n ≤ k + 1) : Flat (m + 1) r ∨ Bd m (itD k r) := by
  by_cases c : ∃ i, itD k r i = m + 1
  · obtain ⟨i, e⟩ := c
    refine .inl fun l => ?_
    obtain ⟨j, h1, h2, h3⟩ := hp.win hn i l
    rw [h3]
    exact two_of h (by omega) k i e j h1 (by omega)
  · refine .inr fun i => ?_
    have b := h.itD k i
    have q : itD k r i ≠ m + 1 := fun z => c ⟨i, z⟩
    omega
theorem flat_by {n : Nat} {r : Fn} (hp : Per n r) (hn : 0 < n) (hn16 : n ≤ 16) (m : Nat) (h : Bd m r) : ∃ c : Int, 0 ≤ c ∧ c ≤ m ∧ Flat c (itD (15 * m) r) := by
  induction m generalizing r with
  | zero =>
    refine ⟨0, Int.le_refl _, by simp, fun i => ?_⟩
    have q := h i
    show r i = 0 ∨ r i = 0
    have z : ((0 : Nat) : Int) = 0 := rfl
    omega
  | succ m ih =>
    rcases flat_step (m := m) (k := 15) h (by omega) hp hn (by omega) with f | b
    · exact ⟨(m : Int) + 1, by omega, by omega, f.itD (by omega) _⟩
    · obtain ⟨c, h1, h2, h3⟩ := ih (hp.itD 15) b
      refine ⟨c, h1, by omega, ?_⟩
      rw [show 15 * (m + 1) = 15 + 15 * m by omega, itD_add]
      exact h3
/-! ### drawers -/
theorem drawers : ∀ (N n : Nat) (f : Nat → Nat), (∀ i, i < n → f i < N) → (∀ i j, i < j → j < n → f i ≠ f j) → n ≤ N
  | 0, n, f, h, _ => by
    cases n with
    | zero => exact Nat.le_refl _
    | succ n => exact absurd (h 0 (by omega)) (by omega)
  | N + 1, n, f, h, q => by
    cases n with
    | zero => exact Nat.zero_le _
    | succ n =>
      have r := drawers N n (fun i => if f i > f n then f i - 1 else f i) (fun i hi => by
          have a := h i (by omega)
          have b := h n (by omega)
          have c := q i n hi (by omega)
          show (if f i > f n then f i - 1 else f i) < N
          split <;> omega) (fun i j hij hj => by
          have a := q i j hij (by omega)
          have b := q i n (by omega) (by omega)
          have c := q j n (by omega) (by omega)
          show (if f i > f n then f i - 1 else f i) ≠ (if f j > f n then f j - 1 else f j)
          split <;> split <;> omega)
      omega
def code : List Int → Nat
  | [] => 0
  | x :: r => (if x = 0 then 0 else 1) + 2 * code r
theorem code_lt (l : List Int) : code l < 2 ^ l.length := by
  induction l with
  | nil => decide
  | cons x r ih =>
    show (if x = 0 then 0 else 1) + 2 * code r < 2 ^ (r.length + 1)
    rw [Nat.pow_succ]
    split <;> omega
theorem code_inj {c : Int} : ∀ {l m : List Int}, l.length = m.length → (∀ x ∈ l, x = 0 ∨ x = c) → (∀ x ∈ m, x = 0 ∨ x = c) → code l = code m → l = m
  | [], [], _, _, _, _ => rfl
  | x :: l, y :: m, hl, h1, h2, e => by
    have e : (if x = 0 then 0 else 1) + 2 * code l = (if y = 0 then 0 else 1) + 2 * code m := e
    have hx := h1 x (by simp)
    have hy := h2 y (by simp)
    have ec : code l = code m := by
      split at e <;> split at e <;> omega
    have exy : x = y := by
      rw [ec] at e
      split at e <;> split at e <;> omega
    rw [exy, code_inj (by simpa using hl) (fun z hz => h1 z (by simp [hz])) (fun z hz => h2 z (by simp [hz])) ec]
/-! ### the walk: how far all rings are unlike, and the place of the one that comes again -/
structure Wk (ns : List Int) (L T : Nat) : Prop where
  inj : ∀ i j, i < j → j < L → it i ns ≠ it j ns
  lt : T < L
  eq : it L ns = it T ns
theorem wk_or (ns : List Int) (n : Nat) : (∀ i j, i < j → j < n → it i ns ≠ it j ns) ∨ ∃ L T, L < n ∧ Wk ns L T := by
  induction n with
  | zero => exact .inl fun i j _ h => absurd h (Nat.not_lt_zero _)
  | succ n ih =>
    rcases ih with h | ⟨L, T, a, b⟩
    · by_cases c : ∃ i, i < n ∧ it n ns = it i ns
      · obtain ⟨i, hi, e⟩ := c
        exact .inr ⟨n, i, Nat.lt_succ_self n, h, hi, e⟩
      · refine .inl fun i j hij hj => ?_
        by_cases z : j = n
        · subst z
          exact fun e => c ⟨i, hij, e.symm⟩
        · exact h i j hij (by omega)
    · exact .inr ⟨L, T, by omega, b⟩
theorem Ring.flat {ns : List Int} (R : Ring ns) : ∃ c : Int, 0 ≤ c ∧ c ≤ 1000 ∧ ∀ t, 15000 ≤ t → Flat c (fn (it t ns)) := by
  obtain ⟨c, h1, h2, h3⟩ := flat_by (n := ns.length) (r := fn ns) (fn_per ns) R.pos R.hi 1000 (R.bd.fn R.pos)
  refine ⟨c, h1, by omega, fun t ht => ?_⟩
  rw [fn_it, show t = 15 * 1000 + (t - 15000) by omega, itD_add]
  exact h3.itD h1 _
theorem Flat.mem {c : Int} {ns : List Int} (h : Flat c (fn ns)) : ∀ x ∈ ns, x = 0 ∨ x = c := fun x hx => by
  obtain ⟨k, hk, e⟩ := mem_getD hx
  have q := h (k : Int)
  rw [fn_nat hk, e] at q
  exact q
theorem Ring.bound {ns : List Int} (R : Ring ns) {n : Nat} (h : ∀ i j, i < j → j < n → it i ns ≠ it j ns) : n ≤ 80536 := by
  obtain ⟨c, h1, h2, h3⟩ := R.flat
  have q := drawers 65536 (n - 15000) (fun i => code (it (15000 + i) ns)) (fun i hi => by
      have a := code_lt (it (15000 + i) ns)
      rw [it_length] at a
      exact Nat.lt_of_lt_of_le a (Nat.pow_le_pow_right (by decide) R.hi)) (fun i j hij hj e => by
      refine h (15000 + i) (15000 + j) (by omega) (by omega) (code_inj (c := c) (by rw [it_length, it_length]) (h3 _ (by omega)).mem (h3 _ (by omega)).mem e))
  omega
theorem Ring.walk {ns : List Int} (R : Ring ns) : ∃ L T, L ≤ 80536 ∧ Wk ns L T := by
  rcases wk_or ns 80537 with h | ⟨L, T, a, b⟩
  · have := R.bound h
    omega
  · exact ⟨L, T, by omega, b⟩
theorem Wk.unique {ns : List Int} {L T L' T' : Nat} (w : Wk ns L T) (w' : Wk ns L' T') : L = L' ∧ T = T' := by
  have e : L = L' := by
    rcases Nat.lt_trichotomy L L' with h | h | h
    · exact absurd w.eq.symm (w'.inj T L w.lt h)
    · exact h
    · exact absurd w'.eq.symm (w.inj T' L' w'.lt h)
  subst e
  refine ⟨rfl, ?_⟩
  have e2 : it T ns = it T' ns := w.eq.symm.trans w'.eq
  rcases Nat.lt_trichotomy T T' with h | h | h
  · exact absurd e2 (w.inj T T' h w'.lt)
  · exact h
  · exact absurd e2.symm (w.inj T' T h w.lt)
theorem Wk.le {ns : List Int} {L T : Nat} (w : Wk ns L T) (R : Ring ns) : L ≤ 80536 := R.bound w.inj
theorem it_shift {ns : List Int} {t p : Nat} (h : it (t + p) ns = it t ns) (u : Nat) (hu : t ≤ u) : it (u + p) ns = it u ns := by
  rw [show u + p = (t + p) + (u - t) by omega, it_add, h, ← it_add]
  congr 1
  omega
theorem it_shift_mul {ns : List Int} {t p : Nat} (h : it (t + p) ns = it t ns) (k : Nat) (u : Nat) (hu : t ≤ u) : it (u + k * p) ns = it u ns := by
  induction k with
  | zero => simp
  | succ k ih =>
    rw [show u + (k + 1) * p = (u + k * p) + p by rw [Nat.succ_mul]; omega, it_shift h _ (by omega), ih]
theorem Wk.per {ns : List Int} {L T : Nat} (w : Wk ns L T) : it (T + (L - T)) ns = it T ns := by
  have h := w.lt
  rw [show T + (L - T) = L by omega]
  exact w.eq
theorem Wk.red {ns : List Int} {L T t : Nat} (w : Wk ns L T) (h : T ≤ t) : it (T + (t - T) % (L - T)) ns = it t ns := by
  have e := Nat.mod_add_div (t - T) (L - T)
  have q := it_shift_mul w.per ((t - T) / (L - T)) (T + (t - T) % (L - T)) (by omega)
  rw [← q]
  congr 1
  rw [Nat.mul_comm]
  omega
/-- every ring behind some turns stands in the walk -/
theorem Wk.all {ns : List Int} {L T : Nat} (w : Wk ns L T) (t : Nat) : ∃ i, i < L ∧ it i ns = it t ns := by
  by_cases h : t < L
  · exact ⟨t, h, rfl⟩
  · have hl := w.lt
    refine ⟨T + (t - T) % (L - T), ?_, w.red (by omega)⟩
    have := Nat.mod_lt (t - T) (show 0 < L - T by omega)
    omega
/-- the tail: the least number of turns behind which a ring comes that comes again -/
theorem Wk.tail {ns : List Int} {L T t p : Nat} (w : Wk ns L T) (hp : 0 < p) (h : it (t + p) ns = it t ns) : T ≤ t := by
  refine Nat.le_of_not_lt fun c => ?_
  -- t < T: t itself stands alone among the first L; but it t = it (t + k p) for all k
  have hl := w.lt
  have q := it_shift_mul h L t (Nat.le_refl _)
  have hb : T ≤ t + L * p := by
    have : L * 1 ≤ L * p := Nat.mul_le_mul_left L hp
    omega
  have r := w.red hb
  rw [q] at r
  have m := Nat.mod_lt (t + L * p - T) (show 0 < L - T by omega)
  exact w.inj t (T + (t + L * p - T) % (L - T)) (by omega) (by omega) r.symm
theorem Wk.wheel {ns : List Int} {L T t p : Nat} (w : Wk ns L T) (h : it (t + p) ns = it t ns) (ht : T ≤ t) : (L - T) ∣ p := by
  have hl := w.lt
  have e1 := w.red (t := t) ht
  have e2 := w.red (t := t + p) (by omega)
  rw [h, ← e1] at e2
  have m1 := Nat.mod_lt (t - T) (show 0 < L - T by omega)
  have m2 := Nat.mod_lt (t + p - T) (show 0 < L - T by omega)
  have e3 : (t + p - T) % (L - T) = (t - T) % (L - T) := by
    rcases Nat.lt_trichotomy ((t + p - T) % (L - T)) ((t - T) % (L - T)) with c | c | c
    · exact absurd e2 (w.inj _ _ (by omega) (by omega))
    · exact c
    · exact absurd e2.symm (w.inj _ _ (by omega) (by omega))
  have e4 : (t + p - T) = (t - T) + p := by omega
  rw [e4] at e3
  have e5 : ((t - T) + p - (t - T)) % (L - T) = 0 := by
    have := Nat.sub_mod_eq_zero_of_mod_eq e3
    exact this
  rw [show (t - T) + p - (t - T) = p by omega] at e5
  exact Nat.dvd_of_mod_eq_zero e5
theorem Wk.mk_of {ns : List Int} {T P : Nat} (hp : 0 < P) (he : it (T + P) ns = it T ns) (ht : ∀ t p, 0 < p → it (t + p) ns = it t ns → T ≤ t) (hw : ∀ p, 0 < p → it (T + p) ns = it T ns → P ≤ p) : Wk ns (T + P) T := by
  refine ⟨fun i j hij hj e => ?_, by omega, he⟩
  have h1 : it (i + (j - i)) ns = it i ns := by
    rw [show i + (j - i) = j by omega]
    exact e.symm
  have h2 := ht i (j - i) (by omega) h1
  -- behind T the period is P
  have h3 := it_shift h1 (T + (P - (i - T) + (i - T)) - 0) (by omega)
  have h4 : it (T + (j - i)) ns = it T ns := by
    have a := it_shift_mul he (i + 1) T (Nat.le_refl _)
    have hb : i ≤ T + (i + 1) * P := by
      have : (i + 1) * 1 ≤ (i + 1) * P := Nat.mul_le_mul_left (i + 1) hp
      omega
    have b := it_shift h1 (T + (i + 1) * P) hb
    have c := it_shift_mul he (i + 1) (T + (j - i)) (by omega)
    rw [show T + (i + 1) * P + (j - i) = T + (j - i) + (i + 1) * P by omega, c, a] at b
    exact b
  have h5 := hw (j - i) (by omega) h4
  omega
end GR
/-! ### small words over the hand layer -/
namespace GL
open PySem PySem.Spec PyProof.Rows L2
theorem bt_len : bootBuiltins "len" = some (.builtin "len") := by decide +kernel
theorem bt_abs : bootBuiltins "abs" = some (.builtin "abs") := by decide +kernel
theorem bt_max : bootBuiltins "max" = some (.builtin "max") := by decide +kernel
theorem bt_min : bootBuiltins "min" = some (.builtin "min") := by decide +kernel
theorem bt_sum : bootBuiltins "sum" = some (.builtin "sum") := by decide +kernel
theorem bt_isinstance : bootBuiltins "isinstance" = some (.builtin "isinstance") := by decide +kernel
theorem bt_int : bootBuiltins "int" = some (.type "int") := by decide +kernel
theorem bt_bool : bootBuiltins "bool" = some (.type "bool") := by decide +kernel
theorem bt_str : bootBuiltins "str" = some (.type "str") := by decide +kernel
theorem bt_list : bootBuiltins "list" = some (.type "list") := by decide +kernel
theorem bt_tuple : bootBuiltins "tuple" = some (.type "tuple") := by decide +kernel
theorem bt_zip : bootBuiltins "zip" = some (.type "zip") := by decide +kernel
theorem bt_reversed : bootBuiltins "reversed" = some (.type "reversed") := by decide +kernel
theorem bt_ValueError : bootBuiltins "ValueError" = some (.type "ValueError") := by decide +kernel
theorem ifN {c : Prop} [Decidable c] {A B : Prop} (hc : ¬ c) (h : B) : if decide c = true then A else B := by
  rw [decide_eq_false hc]
  exact iteF h
theorem ifY {c : Prop} [Decidable c] {A B : Prop} (hc : c) (h : A) : if decide c = true then A else B := by
  rw [decide_eq_true hc]
  exact iteT h
theorem if2 {c : Prop} [Decidable c] {A B : Prop} (h1 : c → A) (h2 : ¬ c → B) : if decide c = true then A else B := by
  by_cases h : c
  · exact ifY h (h1 h)
  · exact ifN h (h2 h)
theorem ifnN {c : Prop} [Decidable c] {A B : Prop} (hc : c) (h : B) : if (!decide c) = true then A else B := by
  rw [decide_eq_true hc]
  exact iteF h
theorem ifnY {c : Prop} [Decidable c] {A B : Prop} (hc : ¬ c) (h : A) : if (!decide c) = true then A else B := by
  rw [decide_eq_false hc]
  exact iteT h
theorem if2B {c : Bool} {A B : Prop} (h1 : c = true → A) (h2 : c = false → B) : if c = true then A else B := by
  cases c with
  | true => exact iteT (h1 rfl)
  | false => exact iteF (h2 rfl)
theorem vint {i j : Int} (h : i = j) : V.int i = V.int j := by rw [h]
theorem vint_ne {i j : Int} (h : i ≠ j) : V.int i ≠ V.int j := fun e => h (V.int.inj e)
/-- what holds behind a statement, said once for all its ways -/
theorem cut {t u : TS} {D : Ends} {σ : L2.St} {H : Hp} (P : L2.St → Hp → Prop) (h1 : ∀ N : L2.St → Hp → Prop, (∀ σ' H', P σ' H' → N σ' H') → t { D with nx := N } σ H) (h2 : ∀ σ' H', P σ' H' → u D σ' H') : tSeq t u D σ H := h1 (u D) h2
/-! ### heaps -/
theorem _root_.L2.Same.new {H : Hp} {p : Addr} {o : HO} (h : H p = none) : Same H (upd H p o) := fun b x e => by
  rw [upd_ne (ne_of_none e h)]
  exact e
theorem _root_.L2.Same.put {H H' : Hp} {p : Addr} {o : HO} (s : Same H H') (h : H p = none) : Same H (upd H' p o) := fun b x e => by
  rw [upd_ne (ne_of_none e h)]
  exact s b x e
theorem _root_.L2.Same.none {H H' : Hp} (s : Same H H') {p : Addr} (h : H' p = none) : H p = none := s.free h
theorem _root_.L2.Same.sqT {K : PySem.W.Frag} {H H' : Hp} {a : Addr} {xs : List V} (e : Same H H') (h : SqT K H a xs) : SqT K H' a xs := by
  rcases h with (h | ⟨o, h⟩) | h
  · exact .inl (.inl (e _ _ h))
  · exact .inl (.inr ⟨o, e _ _ h⟩)
  · exact .inr h
theorem new_ne {H : Hp} {u v : Addr} {o : HO} (h : upd H u o v = none) : u ≠ v := fun z => by
  rw [z, upd_same] at h
  cases h
theorem new_old {H : Hp} {u v : Addr} {o : HO} (h : upd H u o v = none) : H v = none := by
  rw [upd_ne (new_ne h).symm] at h
  exact h
/-- an own list is changed: what was there ahead of it stands -/
theorem _root_.L2.Same.own {H H' : Hp} {p : Addr} {o : HO} (s : Same H H') (h : H p = none) : Same H (upd H' p o) := s.put h
theorem at_ne {H : Hp} {a p : Addr} {o : HO} {x : Option HO} (h : H a = x) (ne : a ≠ p) : upd H p o a = x := by
  rw [upd_ne ne]
  exact h
/-! ### lists of ints -/
abbrev vi (ns : List Int) : List V := ns.map V.int
theorem vi_at {ns : List Int} {i : Nat} {x : V} (h : (vi ns)[i]? = some x) : ∃ z, ns[i]? = some z ∧ x = .int z := by
  rw [List.getElem?_map] at h
  cases e : ns[i]? with
  | none => rw [e] at h; cases h
  | some z => rw [e] at h; exact ⟨z, rfl, (Option.some.inj h).symm⟩
theorem vi_get {ns : List Int} {i : Nat} {z : Int} (h : ns[i]? = some z) : (vi ns)[i]? = some (.int z) := by
  rw [List.getElem?_map, h]
  rfl
theorem vi_len (ns : List Int) : (vi ns).length = ns.length := List.length_map _
theorem getD_some {ns : List Int} {k : Nat} (h : k < ns.length) : ns[k]? = some (ns.getD k 0) := by
  rw [List.getD_eq_getElem?_getD, List.getElem?_eq_getElem h]
  rfl
theorem vi_nth {ns : List Int} {k : Nat} (h : k < ns.length) : (vi ns)[k]? = some (.int (ns.getD k 0)) := vi_get (getD_some h)
theorem atI_of {xs : List V} {i : Int} {j : Nat} {v : V} (e : i = (j : Int)) (h : xs[j]? = some v) : atI xs i = some v := by
  rw [e]
  exact atI_nat h
theorem atI_neg {xs : List V} {v : V} (h : xs[xs.length - 1]? = some v) : atI xs (-1) = some v := by
  have hl : 0 < xs.length := by
    rcases Nat.eq_zero_or_pos xs.length with z | z
    · rw [List.getElem?_eq_none (by omega)] at h
      cases h
    · exact z
  unfold atI ixN
  rw [if_neg (by decide), if_pos (by omega)]
  have e : (-1 + (xs.length : Int)).toNat = xs.length - 1 := by omega
  rw [e]
  exact h
theorem abs_eq (i : Int) : (if i < 0 then -i else i) = (i.natAbs : Int) := by
  split <;> omega
theorem line_lt {n : Nat} (h : n ≤ 1000000) : n < sizeLine := Nat.lt_of_le_of_lt h (by decide)
theorem line_le {n : Nat} (h : n ≤ 1000000) : n ≤ sizeLine := Nat.le_of_lt (line_lt h)
/-- a list of ints as plain data -/
def dI (ns : List Int) : PyData := .list (ns.map PyData.int)
theorem dp_vi {K : PySem.W.Frag} {H : Hp} : ∀ ns : List Int, DpAll K H (vi ns) (ns.map PyData.int)
  | [] => .nil
  | x :: r => .cons (.int x) (dp_vi r)
theorem dp_list {K : PySem.W.Frag} {H : Hp} {a : Addr} {ns : List Int} (h : SqL K H a (vi ns)) : Dp K H (.ref a) (dI ns) := .lst h (dp_vi ns)
/-! ### comprehensions whose elements change nothing -/
theorem wipe1 (σ : L2.St) (v : Nat) (x : Option V) : wipe ((wipe σ [v]).set v x) [v] = wipe σ [v] := by
  show ((σ.set v none).set v x).set v none = σ.set v none
  rw [List.set_set, List.set_set]
theorem yes_of {σ : L2.St} {H : Hp} {Q : Bool → Hp → Prop} (h : Q true H) : tYes σ H Q := h
theorem lc_grow {lo : Int} {n : Nat} {te : TE} {v : Nat} {σ : L2.St} {H1 : Hp} {D : Addr} {Qd : Hp → Prop} (R : Nat → V → Prop) (nD : H1 D = none) (hn : n ≤ 1000)
    (hs : ∀ i H', i < n → Same H1 H' → ∀ Q' : VK, (∀ y H2, Same H' H2 → R i y → Q' y H2) → te ((wipe σ [v]).set v (some (.int (lo + i)))) H' Q')
    (hd : ∀ H' ys, ys.length = n → (∀ i y, ys[i]? = some y → R i y) → Same H1 H' → H' D = some (.lst ys) → Qd H') :
    ∃ W : Nat → Nat → Hp → Prop, (∃ m, W 0 m (upd H1 D (.lst []))) ∧ ∀ i m H, W i m H →
      ((Itr lo n).stop i H ∧ Qd H) ∨ ((Itr lo n).go i H ∧ ∃ Nx : Hp → Prop, (∀ H', Nx H' → ∃ m', m' < m ∧ W (i + 1) m' H') ∧ ∀ x H', (Itr lo n).yld i H x H' → gName v x (wipe σ [v]) H' fun σ2 H2 => wipe σ2 [v] = wipe σ [v] ∧ tYes σ2 H2 fun b H3 =>
        if b = true then te σ2 H3 fun y H4 => ∃ acc, H4 D = some (.lst acc) ∧ acc.length < sizeLine ∧ Nx (upd H4 D (.lst (acc ++ [y]))) else Nx H3) := by
  refine lc_range (lo := lo) (n := n) (fun i H' => Same H1 H' ∧ ∃ ys, H' D = some (.lst ys) ∧ ys.length = i ∧ ∀ j y, ys[j]? = some y → R j y) ⟨Same.new nD, [], upd_same, rfl, fun j y h => by simp at h⟩ ?_ ?_
  · rintro i H' hi ⟨sm, ys, eD, hl, hR⟩
    refine ⟨wipe1 _ _ _, ?_⟩
    refine yes_of ?_
    refine iteT (hs i H' hi sm _ fun y H4 s4 hy => ⟨ys, s4 _ _ eD, line_lt (by omega), (sm.trans s4).put nD, ys ++ [y], upd_same, by rw [List.length_append, hl]; rfl, fun j z hz => ?_⟩)
    by_cases c : j < ys.length
    · rw [List.getElem?_append_left c] at hz
      exact hR j z hz
    · rw [List.getElem?_append_right (by omega)] at hz
      have e0 : j - ys.length = 0 := by
        rcases Nat.eq_zero_or_pos (j - ys.length) with q | q
        · exact q
        · rw [List.getElem?_eq_none (by simp only [List.length_cons, List.length_nil]; omega)] at hz
          cases hz
      rw [e0] at hz
      have ez : y = z := Option.some.inj hz
      have ej : j = i := by omega
      rw [← ez, ej]
      exact hy
  · rintro H' ⟨sm, ys, eD, hl, hR⟩
    exact hd H' ys hl hR sm eD
theorem lc_pure {lo : Int} {n : Nat} {te : TE} {v : Nat} {σ : L2.St} {H1 : Hp} {D : Addr} {Qd : Hp → Prop} (R : Nat → V → Prop) (nD : H1 D = none) (hn : n ≤ 1000)
    (hs : ∀ i H', i < n → Same H1 H' → ∀ Q' : VK, (∀ y, R i y → Q' y H') → te ((wipe σ [v]).set v (some (.int (lo + i)))) H' Q')
    (hd : ∀ H' ys, ys.length = n → (∀ i y, ys[i]? = some y → R i y) → Same H1 H' → H' D = some (.lst ys) → Qd H') :
    ∃ W : Nat → Nat → Hp → Prop, (∃ m, W 0 m (upd H1 D (.lst []))) ∧ ∀ i m H, W i m H →
      ((Itr lo n).stop i H ∧ Qd H) ∨ ((Itr lo n).go i H ∧ ∃ Nx : Hp → Prop, (∀ H', Nx H' → ∃ m', m' < m ∧ W (i + 1) m' H') ∧ ∀ x H', (Itr lo n).yld i H x H' → gName v x (wipe σ [v]) H' fun σ2 H2 => wipe σ2 [v] = wipe σ [v] ∧ tYes σ2 H2 fun b H3 =>
        if b = true then te σ2 H3 fun y H4 => ∃ acc, H4 D = some (.lst acc) ∧ acc.length < sizeLine ∧ Nx (upd H4 D (.lst (acc ++ [y]))) else Nx H3) :=
  lc_grow R nD hn (fun i H' hi sm Q' hQ => hs i H' hi sm Q' fun y hy => hQ y H' (Same.refl _) hy) hd
theorem lc_pureL {K : PySem.W.Frag} {a : Addr} {xs : List V} {te : TE} {v : Nat} {σ : L2.St} {H1 : Hp} {D : Addr} {Qd : Hp → Prop} (R : Nat → V → Prop) (hA : SqL K H1 a xs) (nD : H1 D = none) (hn : xs.length ≤ 1000)
    (hs : ∀ i x H', xs[i]? = some x → Same H1 H' → ∀ Q' : VK, (∀ y, R i y → Q' y H') → te ((wipe σ [v]).set v (some x)) H' Q')
    (hd : ∀ H' ys, ys.length = xs.length → (∀ i y, ys[i]? = some y → R i y) → Same H1 H' → H' D = some (.lst ys) → Qd H') :
    ∃ W : Nat → Nat → Hp → Prop, (∃ m, W 0 m (upd H1 D (.lst []))) ∧ ∀ i m H, W i m H →
      ((Itl K a).stop i H ∧ Qd H) ∨ ((Itl K a).go i H ∧ ∃ Nx : Hp → Prop, (∀ H', Nx H' → ∃ m', m' < m ∧ W (i + 1) m' H') ∧ ∀ x H', (Itl K a).yld i H x H' → gName v x (wipe σ [v]) H' fun σ2 H2 => wipe σ2 [v] = wipe σ [v] ∧ tYes σ2 H2 fun b H3 =>
        if b = true then te σ2 H3 fun y H4 => ∃ acc, H4 D = some (.lst acc) ∧ acc.length < sizeLine ∧ Nx (upd H4 D (.lst (acc ++ [y]))) else Nx H3) := by
  refine lc_list (K := K) (a := a) (xs := xs) (fun i H' => Same H1 H' ∧ ∃ ys, H' D = some (.lst ys) ∧ ys.length = i ∧ ∀ j y, ys[j]? = some y → R j y) ⟨Same.new nD, [], upd_same, rfl, fun j y h => by simp at h⟩ (fun i H' _ h => h.1.seq hA) ?_ ?_
  · rintro i x H' hi ⟨sm, ys, eD, hl, hR⟩
    have hil : i < xs.length := (List.getElem?_eq_some_iff.mp hi).1
    refine ⟨wipe1 _ _ _, ?_⟩
    refine yes_of ?_
    refine iteT (hs i x H' hi sm _ fun y hy => ⟨ys, eD, line_lt (by omega), sm.put nD, ys ++ [y], upd_same, by rw [List.length_append, hl]; rfl, fun j z hz => ?_⟩)
    by_cases c : j < ys.length
    · rw [List.getElem?_append_left c] at hz
      exact hR j z hz
    · rw [List.getElem?_append_right (by omega)] at hz
      have e0 : j - ys.length = 0 := by
        rcases Nat.eq_zero_or_pos (j - ys.length) with q | q
        · exact q
        · rw [List.getElem?_eq_none (by simp only [List.length_cons, List.length_nil]; omega)] at hz
          cases hz
      rw [e0] at hz
      have ez : y = z := Option.some.inj hz
      have ej : j = i := by omega
      rw [← ez, ej]
      exact hy
  · rintro H' ⟨sm, ys, eD, hl, hR⟩
    exact hd H' ys hl hR sm eD
theorem all_ints {n : Nat} {ys : List V} {P : Nat → Int → Prop} (hl : ys.length = n) (h : ∀ i y, ys[i]? = some y → ∃ z, y = .int z ∧ P i z) : ∃ zs, ys = vi zs ∧ zs.length = n ∧ ∀ i, i < n → P i (zs.getD i 0) := by
  induction ys generalizing n P with
  | nil => exact ⟨[], rfl, hl, fun i hi => by simp at hl; omega⟩
  | cons y r ih =>
    obtain ⟨z, ez, pz⟩ := h 0 y rfl
    obtain ⟨zs, e, l, q⟩ := ih (n := r.length) (P := fun i => P (i + 1)) rfl (fun i y hy => h (i + 1) y hy)
    refine ⟨z :: zs, by rw [ez, e]; rfl, by simp only [List.length_cons] at hl ⊢; omega, fun i hi => ?_⟩
    cases i with
    | zero => exact pz
    | succ i =>
      simp only [List.length_cons] at hl
      exact q i (by omega)
theorem lc_ints {lo : Int} {n : Nat} {te : TE} {v : Nat} {σ : L2.St} {H1 : Hp} {D : Addr} {Qd : Hp → Prop} (P : Nat → Int → Prop) (nD : H1 D = none) (hn : n ≤ 1000)
    (hs : ∀ i H', i < n → Same H1 H' → ∀ Q' : VK, (∀ z, P i z → Q' (.int z) H') → te ((wipe σ [v]).set v (some (.int (lo + i)))) H' Q')
    (hd : ∀ H' zs, zs.length = n → (∀ i, i < n → P i (zs.getD i 0)) → Same H1 H' → H' D = some (.lst (vi zs)) → Qd H') :
    ∃ W : Nat → Nat → Hp → Prop, (∃ m, W 0 m (upd H1 D (.lst []))) ∧ ∀ i m H, W i m H →
      ((Itr lo n).stop i H ∧ Qd H) ∨ ((Itr lo n).go i H ∧ ∃ Nx : Hp → Prop, (∀ H', Nx H' → ∃ m', m' < m ∧ W (i + 1) m' H') ∧ ∀ x H', (Itr lo n).yld i H x H' → gName v x (wipe σ [v]) H' fun σ2 H2 => wipe σ2 [v] = wipe σ [v] ∧ tYes σ2 H2 fun b H3 =>
        if b = true then te σ2 H3 fun y H4 => ∃ acc, H4 D = some (.lst acc) ∧ acc.length < sizeLine ∧ Nx (upd H4 D (.lst (acc ++ [y]))) else Nx H3) :=
  lc_pure (fun i y => ∃ z, y = .int z ∧ P i z) nD hn (fun i H' hi sm Q' hQ => hs i H' hi sm Q' fun z hz => hQ _ ⟨z, rfl, hz⟩) fun H' ys hl hR sm e => by
    obtain ⟨zs, ez, l, q⟩ := all_ints hl hR
    rw [ez] at e
    exact hd H' zs l q sm e
theorem lc_intsG {lo : Int} {n : Nat} {te : TE} {v : Nat} {σ : L2.St} {H1 : Hp} {D : Addr} {Qd : Hp → Prop} (P : Nat → Int → Prop) (nD : H1 D = none) (hn : n ≤ 1000)
    (hs : ∀ i H', i < n → Same H1 H' → ∀ Q' : VK, (∀ z H2, Same H' H2 → P i z → Q' (.int z) H2) → te ((wipe σ [v]).set v (some (.int (lo + i)))) H' Q')
    (hd : ∀ H' zs, zs.length = n → (∀ i, i < n → P i (zs.getD i 0)) → Same H1 H' → H' D = some (.lst (vi zs)) → Qd H') :
    ∃ W : Nat → Nat → Hp → Prop, (∃ m, W 0 m (upd H1 D (.lst []))) ∧ ∀ i m H, W i m H →
      ((Itr lo n).stop i H ∧ Qd H) ∨ ((Itr lo n).go i H ∧ ∃ Nx : Hp → Prop, (∀ H', Nx H' → ∃ m', m' < m ∧ W (i + 1) m' H') ∧ ∀ x H', (Itr lo n).yld i H x H' → gName v x (wipe σ [v]) H' fun σ2 H2 => wipe σ2 [v] = wipe σ [v] ∧ tYes σ2 H2 fun b H3 =>
        if b = true then te σ2 H3 fun y H4 => ∃ acc, H4 D = some (.lst acc) ∧ acc.length < sizeLine ∧ Nx (upd H4 D (.lst (acc ++ [y]))) else Nx H3) :=
  lc_grow (fun i y => ∃ z, y = .int z ∧ P i z) nD hn (fun i H' hi sm Q' hQ => hs i H' hi sm Q' fun z H2 s2 hz => hQ _ H2 s2 ⟨z, rfl, hz⟩) fun H' ys hl hR sm e => by
    obtain ⟨zs, ez, l, q⟩ := all_ints hl hR
    rw [ez] at e
    exact hd H' zs l q sm e
theorem lc_intsL {K : PySem.W.Frag} {a : Addr} {xs : List V} {te : TE} {v : Nat} {σ : L2.St} {H1 : Hp} {D : Addr} {Qd : Hp → Prop} (P : Nat → Int → Prop) (hA : SqL K H1 a xs) (nD : H1 D = none) (hn : xs.length ≤ 1000)
    (hs : ∀ i x H', xs[i]? = some x → Same H1 H' → ∀ Q' : VK, (∀ z, P i z → Q' (.int z) H') → te ((wipe σ [v]).set v (some x)) H' Q')
    (hd : ∀ H' zs, zs.length = xs.length → (∀ i, i < xs.length → P i (zs.getD i 0)) → Same H1 H' → H' D = some (.lst (vi zs)) → Qd H') :
    ∃ W : Nat → Nat → Hp → Prop, (∃ m, W 0 m (upd H1 D (.lst []))) ∧ ∀ i m H, W i m H →
      ((Itl K a).stop i H ∧ Qd H) ∨ ((Itl K a).go i H ∧ ∃ Nx : Hp → Prop, (∀ H', Nx H' → ∃ m', m' < m ∧ W (i + 1) m' H') ∧ ∀ x H', (Itl K a).yld i H x H' → gName v x (wipe σ [v]) H' fun σ2 H2 => wipe σ2 [v] = wipe σ [v] ∧ tYes σ2 H2 fun b H3 =>
        if b = true then te σ2 H3 fun y H4 => ∃ acc, H4 D = some (.lst acc) ∧ acc.length < sizeLine ∧ Nx (upd H4 D (.lst (acc ++ [y]))) else Nx H3) :=
  lc_pureL (fun i y => ∃ z, y = .int z ∧ P i z) hA nD hn (fun i x H' hi sm Q' hQ => hs i x H' hi sm Q' fun z hz => hQ _ ⟨z, rfl, hz⟩) fun H' ys hl hR sm e => by
    obtain ⟨zs, ez, l, q⟩ := all_ints hl hR
    rw [ez] at e
    exact hd H' zs l q sm e
theorem eqvAll_ints : ∀ a b : List Int, PyData.eqvAll (a.map PyData.int) (b.map PyData.int) = decide (a = b)
  | [], [] => rfl
  | [], _ :: _ => rfl
  | _ :: _, [] => rfl
  | x :: r, y :: q => by
    show (PyData.eqv (.int x) (.int y) && PyData.eqvAll (r.map PyData.int) (q.map PyData.int)) = decide (x :: r = y :: q)
    rw [eqvAll_ints r q]
    show ((x == y) && decide (r = q)) = decide (x :: r = y :: q)
    by_cases e : x = y
    · by_cases e2 : r = q
      · simp [e, e2]
      · simp [e, e2]
    · simp [e]
theorem eqv_dI (a b : List Int) : PyData.eqv (dI a) (dI b) = decide (a = b) := eqvAll_ints a b
theorem canLay_ints : ∀ a : List Int, PyData.canLayAll0 (a.map PyData.int) = true
  | [] => rfl
  | x :: r => by
    show (PyData.canLay0 (.int x) && PyData.canLayAll0 (r.map PyData.int)) = true
    rw [canLay_ints r]
    rfl
theorem depth_ints : ∀ a : List Int, PyData.depthAll (a.map PyData.int) = 0
  | [] => rfl
  | x :: r => by
    show max (PyData.depth (.int x)) (PyData.depthAll (r.map PyData.int)) = 0
    rw [depth_ints r]
    rfl
theorem shaped_dI (a : List Int) : SeqAt.shaped (dI a) = true := by
  show (PyData.canLay0 (dI a) && decide ((dI a).depth ≤ 64)) = true
  have e1 : PyData.canLay0 (dI a) = true := canLay_ints a
  have e2 : (dI a).depth = 1 := by
    show PyData.depthAll (a.map PyData.int) + 1 = 1
    rw [depth_ints]
  rw [e1, e2]
  rfl
/-- a pair of ints as plain data -/
def dT2 (i j : Int) : PyData := .tuple [.int i, .int j]
theorem dp_pair {K : PySem.W.Frag} {H : Hp} {a : Addr} {i j : Int} (h : SqT K H a [.int i, .int j]) : Dp K H (.ref a) (dT2 i j) := .tup h (.cons (.int i) (.cons (.int j) .nil))
theorem eqT {K : PySem.W.Frag} {H : Hp} {a b : Addr} {i j k l : Int} {Q : VK} (h1 : SqT K H a [.int i, .int j]) (h2 : SqT K H b [.int k, .int l]) (q : Q (.bl ((i == k) && ((j == l) && true))) H) : rEqD K (.ref a) (.ref b) H Q :=
  ⟨dT2 i j, dT2 k l, dp_pair h1, dp_pair h2, rfl, rfl, q⟩
theorem neT {K : PySem.W.Frag} {H : Hp} {a b : Addr} {i j k l : Int} {Q : VK} (h1 : SqT K H a [.int i, .int j]) (h2 : SqT K H b [.int k, .int l]) (q : Q (.bl (!((i == k) && ((j == l) && true)))) H) : rNeD K (.ref a) (.ref b) H Q :=
  ⟨dT2 i j, dT2 k l, dp_pair h1, dp_pair h2, rfl, rfl, q⟩
/-- == and != of two lists of ints, said with decide -/
theorem eqL {K : PySem.W.Frag} {H : Hp} {a b : Addr} {ns ms : List Int} {Q : VK} (h1 : SqL K H a (vi ns)) (h2 : SqL K H b (vi ms)) (q : Q (.bl (decide (ns = ms))) H) : rEqD K (.ref a) (.ref b) H Q :=
  ⟨dI ns, dI ms, dp_list h1, dp_list h2, shaped_dI _, shaped_dI _, by rw [eqv_dI]; exact q⟩
theorem neL {K : PySem.W.Frag} {H : Hp} {a b : Addr} {ns ms : List Int} {Q : VK} (h1 : SqL K H a (vi ns)) (h2 : SqL K H b (vi ms)) (q : Q (.bl (!decide (ns = ms))) H) : rNeD K (.ref a) (.ref b) H Q :=
  ⟨dI ns, dI ms, dp_list h1, dp_list h2, shaped_dI _, shaped_dI _, by rw [eqv_dI]; exact q⟩
section
variable {X : Cx}
/-- a module's whole number -/
theorem pe_num {x : Str} {i : Int} {pos : Pos} (h : ∃ t, X.mg x = some (.int i t)) (hg : Gl X x := by rfl) (hd : (x == ("__debug__" : Str)) = false := by decide) : PE X (.Name x pos) (tC (.int i)) := by
  obtain ⟨t, h⟩ := h
  exact pe_glob hg h ⟨t, rfl⟩ hd
/-- a built-in class as a value -/
theorem pe_cls {x : Str} {n : String} {pos : Pos} (hm : X.mg x = none) (hv : bootBuiltins x = some (.type n)) (hg : Gl X x := by rfl) (hn : x ≠ "__name__" := by decide) (hd : (x == ("__debug__" : Str)) = false := by decide) : PE X (.Name x pos) (tC (.ty n)) :=
  pe_bltn hg hm hv rfl hn hd
/-- rules that name the written part, for the blocks of comprehensions -/
theorem ixL (K : PySem.W.Frag) (h : X.K = K) : IxR X (rIxL K) := h ▸ ix_list
theorem ixT (K : PySem.W.Frag) (h : X.K = K) : IxR X (rIxT K) := h ▸ ix_tup
theorem lenL (K : PySem.W.Frag) (h : X.K = K) : CallR X (.builtin "len") (fun xs H Q => ∃ p ys, xs = [.ref p] ∧ (SqL K H p ys ∨ SqT K H p ys) ∧ Q (.int ys.length) H) := h ▸ call_len_seq
theorem maxL (K : PySem.W.Frag) (hc : X.calm = true) (h : X.K = K) : CallR X (.builtin "max") (rMax K) := h ▸ cr_max hc
theorem isiL (K : PySem.W.Frag) (h : X.K = K) : CallR X (.builtin "isinstance") (rIsi K) := h ▸ call_isi
theorem listL (K : PySem.W.Frag) (h : X.K = K) : CallR X (.type "list") (fun xs H Q => ∃ p ys, xs = [.ref p] ∧ (SqL K H p ys ∨ SqT K H p ys) ∧ ∀ l, H l = none → Q (.ref l) (upd H l (.lst ys))) := h ▸ call_list_of
theorem tupleL (K : PySem.W.Frag) (h : X.K = K) : CallR X (.type "tuple") (fun xs H Q => ∃ p ys, xs = [.ref p] ∧ ((SqL K H p ys ∧ ∀ l, H l = none → Q (.ref l) (upd H l (.tup ys))) ∨ (SqT K H p ys ∧ Q (.ref p) H))) := h ▸ call_tuple_of
end
end GL
/-! ### texts -/
namespace GL
open PySem PySem.Spec L2 TL
section
variable {X : Cx}
theorem pe_text {x : Str} {z : Str} {pos : Pos} (h : ∃ t, X.mg x = some (.str z t)) (hg : Gl X x := by rfl) (hd : (x == ("__debug__" : Str)) = false := by decide) : PE X (.Name x pos) (tC (.str z)) := by
  obtain ⟨t, h⟩ := h
  exact pe_glob hg h ⟨t, rfl⟩ hd
end
theorem for_str {x : Str} {g : TG} {tb : TS} {D : Ends} {σ : L2.St} {H : Hp} (Pv : Nat → L2.St → Hp → Prop) (h0 : Pv 0 σ H)
    (hs : ∀ (i : Nat) (c : Nat) (σ : L2.St) (H : Hp), x.cps[i]? = some c → Pv i σ H → g (.str ⟨#[c]⟩) σ H fun σ2 H2 => tb { D with nx := Pv (i + 1), ct := Pv (i + 1), bk := D.nx } σ2 H2) (hd : ∀ σ H, Pv x.cps.size σ H → D.nx σ H) :
    ∃ W : Nat → Nat → L2.St → Hp → Prop, (∃ m, W 0 m σ H) ∧ ∀ i m σ H, W i m σ H →
      ((Its x).stop i H ∧ D.nx σ H) ∨ ((Its x).go i H ∧ ∃ N : L2.St → Hp → Prop, (∀ σ' H', N σ' H' → ∃ m', m' < m ∧ W (i + 1) m' σ' H') ∧ ∀ v H', (Its x).yld i H v H' → g v σ H' fun σ2 H2 => tb { D with nx := N, ct := N, bk := D.nx } σ2 H2) := by
  refine ⟨fun i m σ H => m = x.cps.size - i ∧ i ≤ x.cps.size ∧ Pv i σ H, ⟨x.cps.size, rfl, Nat.zero_le _, h0⟩, ?_⟩
  rintro i m σ H ⟨rfl, hi, p⟩
  by_cases hlt : i < x.cps.size
  · refine .inr ⟨hlt, Pv (i + 1), fun σ' H' p' => ⟨x.cps.size - (i + 1), by omega, rfl, hlt, p'⟩, fun v H' y => ?_⟩
    obtain ⟨rfl, c, e, rfl⟩ := y
    exact hs i c σ _ e p
  · have e : i = x.cps.size := by omega
    subst e
    exact .inl ⟨Nat.le_refl _, hd σ H p⟩
/-- a number's text -/
def sI (n : Int) : Str := Str.ofString (toString n)
theorem tl_sI (n : Nat) : tl (sI (n : Int)) = numL n := tl_num n
theorem tl_sI' {z : Int} (h : 0 ≤ z) : tl (sI z) = numL z.toNat := by
  have e : z = ((z.toNat : Nat) : Int) := by omega
  rw [e, tl_sI]
  rfl
theorem numL_head : ∀ n : Nat, 1 ≤ n → ∃ c r, numL n = c :: r ∧ 49 ≤ c := by
  intro n
  induction n using Nat.strongRecOn with
  | _ n ih =>
    intro h
    by_cases h10 : n < 10
    · exact ⟨48 + n, [], numL_lt h10, by omega⟩
    · obtain ⟨c, r, e, hc⟩ := ih (n / 10) (by omega) (by omega)
      exact ⟨c, r ++ [48 + n % 10], by rw [numL_step (by omega), e]; rfl, hc⟩
theorem numL_pos (n : Nat) : 1 ≤ (numL n).length := by
  rcases Nat.eq_zero_or_pos (numL n).length with h | h
  · exact absurd (List.length_eq_zero_iff.mp h) (numL_ne n)
  · exact h
theorem numL_4 {n : Nat} (h : n ≤ 9999) : (numL n).length ≤ 4 := numL_len (by decide) (Nat.lt_of_le_of_lt h (by decide))
theorem figs : tl (Str.ofString "0123456789") = [48, 49, 50, 51, 52, 53, 54, 55, 56, 57] := by decide +kernel
theorem blank1 : tl (Str.ofString " ") = [32] := by decide +kernel
theorem in_figs {c : Nat} : c ∈ tl (Str.ofString "0123456789") ↔ 48 ≤ c ∧ c ≤ 57 := by
  rw [figs]
  simp only [List.mem_cons, List.not_mem_nil, or_false]
  omega
theorem len_sI {n : Nat} : (sI (n : Int)).length = (numL n).length := by rw [len_tl, tl_sI]
/-- a text's signs by place -/
theorem cps_at {x : Str} {i c : Nat} (h : x.cps[i]? = some c) : (tl x)[i]? = some c := by
  rw [← h]
  exact Array.getElem?_toList
theorem sign1 (c : Nat) : (⟨#[c]⟩ : Str) = Str.ofString "0" ↔ c = 48 := by
  have e : tl (Str.ofString "0") = [48] := by decide +kernel
  constructor
  · intro h
    have q := congrArg tl h
    rw [e] at q
    exact (List.cons.inj q).1
  · intro h
    refine ext_tl ?_
    rw [e, h]
theorem join_snoc (y : Str) : ∀ (l : List Str) (x : Str), l ≠ [] → Str.join y (l ++ [x]) = Str.join y l ++ y ++ x
  | [], _, h => absurd rfl h
  | [a], x, _ => by
    refine ext_tl ?_
    rw [tl_append, tl_append]
    show tl (a ++ y ++ x) = tl a ++ tl y ++ tl x
    rw [tl_append, tl_append]
  | a :: b :: r, x, _ => by
    have ih := join_snoc y (b :: r) x (by simp)
    refine ext_tl ?_
    show tl (a ++ y ++ Str.join y ((b :: r) ++ [x])) = _
    rw [ih]
    rw [tl_append, tl_append, tl_append, tl_append, tl_append, tl_append]
    show tl a ++ tl y ++ (tl (Str.join y (b :: r)) ++ tl y ++ tl x) = tl (a ++ y ++ Str.join y (b :: r)) ++ tl y ++ tl x
    rw [tl_append, tl_append]
    simp only [List.append_assoc]
theorem empty_append (x : Str) : (Str.ofString "" : Str) ++ x = x := by
  refine ext_tl ?_
  rw [tl_append, show tl (Str.ofString "") = [] by decide +kernel]
  rfl
theorem joinL_len (S : List Nat) : ∀ (ps : List (List Nat)) (m : Nat), (∀ p ∈ ps, p.length ≤ m) → (joinL S ps).length ≤ ps.length * (m + S.length)
  | [], _, _ => Nat.zero_le _
  | [p], m, h => by
    have := h p (by simp)
    show p.length ≤ 1 * (m + S.length)
    omega
  | p :: q :: r, m, h => by
    have a := h p (by simp)
    have b := joinL_len S (q :: r) m (fun x hx => h x (by simp at hx ⊢; right; exact hx))
    show (p ++ (S ++ joinL S (q :: r))).length ≤ (r.length + 1 + 1) * (m + S.length)
    rw [List.length_append, List.length_append]
    have e : (r.length + 1 + 1) * (m + S.length) = (r.length + 1) * (m + S.length) + (m + S.length) := Nat.succ_mul _ _
    have b' : (joinL S (q :: r)).length ≤ (r.length + 1) * (m + S.length) := b
    omega
end GL
/-! ### errors of own classes: what the top says of them; a def that is handed the caught error -/
namespace GL
open PySem PySem.Spec PyProof.Rows L2
/-- what the top has left of an error's class -/
structure ErrTxt (K : PySem.W.Frag) (mg : Str → Option Value) (x : Str) (C : Addr) : Prop where
  g : mg x = some (.ref C)
  xi : PySem.W.excIn K C [.type "ValueError", .type "Exception", .type "BaseException", .type "object"] "ValueError.__new__" = true
  kp : PySem.W.keepIn K (.ref C) = true
  sb : PySem.W.subIn K (.ref C) (.type "BaseException") = some true
  ty : PySem.W.typeIn K (.ref C) = some (.type "type")
  ic : PySem.W.isClsIn K C = true
  sv : PySem.W.subIn K (.ref C) (.type "ValueError") = some true
  ss : PySem.W.subIn K (.ref C) (.ref C) = some true
  ex : ExcC K C
theorem kit_sub {K : PySem.W.Frag} {D C : Addr} {b : Bool} (sd : PySem.W.subIn K (.ref D) (.ref D) = some true) (ic : PySem.W.isClsIn K C = true) (ty : PySem.W.typeIn K (.ref C) = some (.type "type")) (s : PySem.W.subIn K (.ref D) (.ref C) = some b) : PySem.W.kitOne K (.ref D) (.ref C) = some b := by
  unfold PySem.W.kitOne
  by_cases e : D = C
  · subst e
    rw [sd] at s
    cases s
    exact if_pos (beq_self_eq_true _)
  · have e2 : (Value.ref D == Value.ref C) = false := beq_eq_false_iff_ne.mpr fun z => e (Value.ref.inj z)
    rw [e2, if_neg Bool.false_ne_true]
    have e3 : ((PySem.W.clsIn K C).isSome && PySem.W.typeIn K (.ref C) == some (.type "type")) = true := by
      have ic' : (PySem.W.clsIn K C).isSome = true := ic
      rw [ic', ty] <;> rfl
    show (if ((PySem.W.clsIn K C).isSome && PySem.W.typeIn K (.ref C) == some (.type "type")) = true then PySem.W.subIn K (.ref D) (.ref C) else none) = some b
    rw [if_pos e3]
    exact s
theorem kit_val {K : PySem.W.Frag} {D : Addr} {b : Bool} (s : PySem.W.subIn K (.ref D) (.type "ValueError") = some b) : PySem.W.kitOne K (.ref D) (.type "ValueError") = some b := by
  unfold PySem.W.kitOne
  have e2 : (Value.ref D == Value.type "ValueError") = false := rfl
  rw [e2, if_neg Bool.false_ne_true]
  have e3 : PySem.W.kitMeta "ValueError" = true := by decide +kernel
  show (if PySem.W.kitMeta "ValueError" = true then PySem.W.subIn K (.ref D) (.type "ValueError") else none) = some b
  rw [if_pos e3]
  exact s
/-- what a def promises that is called within an except suite and is handed the error (at a, of the class cls) -/
structure FnE (P : Program) (w : World) (K : PySem.W.Frag) (mg : Str → Option Value) (base : Heap) (CX : CXT) (k : Nat) (f : Addr) (fd : FuncData) (ps : List Str) (sp : Addr → Value → Option Addr → Sp) : Prop where
  len : ∀ a cls d vs H Q E, sp a cls d vs H Q E → vs.length = ps.length
  run : ∀ (A : Around) (outer : List Env) (s : Shared) (H : Hp) (args : Args) (us : List Value) (vs : List V) (Q : VK) (E : XK) (a : Addr) (oe : Obj) (cls : Value) (d : Option Addr), L2H.RoomH k A → Zc cls d oe → (∃ fv, oe.data = .fields fv) → L2H.PinOk outer H s (a, oe) →
    Env0 P w K mg base A outer s H → BindsTo s fd args (ps.zip us) → Vals vs us → sp a cls d vs H Q E → codeAny (model P w) A (.call (.ref f) args) (CR CX outer P w H s Q E) s
theorem fn_ofE {CX : CXT} {P : Program} {w : World} {K : PySem.W.Frag} {mg : Str → Option Value} {base : Heap} {k : Nat} {f : Addr} {name qual : Str} {params : Arguments} {body : List Stmt} {scope : Scope} {dV kV doc pm cdv ct oc : Value} {an od : Option Addr}
    {osl : Array (Option Value)} {N ps : List Str} {sp : Addr → Value → Option Addr → Sp} (lk : K.lookup f = some ⟨oc, od, .func (PySem.W.fnOf name qual params body scope dV kV doc pm an cdv ct), osl⟩) (hcd : PySem.W.codeIn K cdv qual = true) (S : FnScope N ps scope)
    (len : ∀ a cls d vs H Q E, sp a cls d vs H Q E → vs.length = ps.length)
    (hbody : ∀ (A : Around) (outer : List Env) (s : Shared) (H : Hp) (vs : List V) (Q : VK) (E : XK) (a : Addr) (oe : Obj) (cls : Value) (d : Option Addr), Zc cls d oe → (∃ fv, oe.data = .fields fv) → L2H.RoomH k (A.deeper (envOfC qual scope s.heap.objs.size f cdv)) → sp a cls d vs H Q E →
      ∃ t, PSs (L2H.cxH CX P w K mg base N qual scope f cdv A outer s H E (a, oe)) body t ∧ t { nx := fun _ H' => Q .non H', rt := Q } (L2.start N vs) H) :
    FnE P w K mg base CX (k + 1) f (PySem.W.fnOf name qual params body scope dV kV doc pm an cdv ct) ps sp where
  len := len
  run := by
    intro A outer s H args us vs Q E a oe cls d room zc fld pinned env bound rel ask
    have written : K.In s.heap := env.mod.kin.keeps fun b o h => (env.bs b o h).1
    have params : ∀ y ∈ ps.zip us, scope.names.lookup y.1 = some .local ∨ (scope.names.lookup y.1 = some .cell ∧ ((cellsFrom (s.heap.objs.size + 1) scope.names []).lookup y.1).isSome = true) := fun y hy =>
      (S.par y.1 (List.of_mem_zip (a := y.1) (b := y.2) hy).1).imp id fun q => ⟨q, PySem.W.cellsFrom_some _ _ _ (.inl q)⟩
    refine codeAny_call_function room.depth (written _ _ lk) rfl S.co S.gen rfl (PySem.W.codeRec_of written hcd) (bound _ _ _ _ (wpAny_newFunctionEnv_cells S.kind params ?_))
    rintro _ rfl s1 born
    obtain ⟨t, runs, want⟩ := hbody A outer s H vs Q E a oe cls d zc fld (room.deeper _) ask
    have start := L2H.inv_startH (CX := CX) (E := E) S pinned env (len _ _ _ _ _ _ _ ask) rel born
    have limit : s.heap.NoLimit := env.mod.nolimit.keeps fun b o h => (env.bs b o h).1
    refine ⟨limit.keeps born.toInCall.keep, codeAny_func (wpAny_mono (runs.run [] s1 _ H _ start want) (fun fl t hfl => ?_) fun _ _ h => h)⟩
    match fl, hfl with
    | .ret _, ⟨v, _, H', J, rv, qv⟩ => exact ⟨v, H', J.os, J.bare, J.base, J.hok, rv, qv⟩
    | .next, ⟨_, H', J, qv⟩ => exact ⟨V.non, H', J.os, J.bare, J.base, J.hok, rfl, qv⟩
    | .brk, ⟨_, _, _, z⟩ => exact False.elim z
    | .cont, ⟨_, _, _, z⟩ => exact False.elim z
theorem fun_okE {CX : CXT} {P : Program} {w : World} {K : PySem.W.Frag} {mg : Str → Option Value} {base : Heap} {x qual : Str} {st : Stmt} {f : Addr} {fd : FuncData} {N ps : List Str} {k : Nat} {sp : Addr → Value → Option Addr → Sp} (F : Fun K x qual st f fd) (S : FnScope N ps (defScope st))
    (len : ∀ a cls d vs H Q E, sp a cls d vs H Q E → vs.length = ps.length)
    (hbody : ∀ (cdv : Value) (A : Around) (outer : List Env) (s : Shared) (H : Hp) (vs : List V) (Q : VK) (E : XK) (a : Addr) (oe : Obj) (cls : Value) (d : Option Addr), Zc cls d oe → (∃ fv, oe.data = .fields fv) → L2H.RoomH k (A.deeper (envOfC qual (defScope st) s.heap.objs.size f cdv)) → sp a cls d vs H Q E →
      ∃ t, PSs (L2H.cxH CX P w K mg base N qual (defScope st) f cdv A outer s H E (a, oe)) (defBody st) t ∧ t { nx := fun _ H' => Q .non H', rt := Q } (L2.start N vs) H) : FnE P w K mg base CX (k + 1) f fd ps sp := by
  obtain ⟨_, _, _, _, _, _, code, _, _, rfl, lk, hc⟩ := F.ex
  exact fn_ofE lk hc S len (hbody code)
section
variable {X : Cx} {CX : CXT} {k : Nat} {f : Addr} {fd : FuncData} {ps : List Str} {x : Str} {p pos : Pos} {e : Expr} {es : List Expr} {t : TA}
def tCallE (sp : Sp) (t : TA) : TE := fun σ H Q => t σ H fun vs H1 => sp vs H1 Q fun _ _ _ => False
theorem run_fnE {sp : Addr → Value → Option Addr → Sp} {pins : List (Addr × Obj)} {σ : L2.St} {H : Hp} {s : Shared} {Q : VK} {us : List Value} {vs : List V} {a : Addr} {oe : Obj} {cls : Value} {d : Option Addr} (hp : (a, oe) ∈ X.pn) (hz : Zc cls d oe) (hf : ∃ fv, oe.data = .fields fv)
    (F : FnE X.prog X.w X.K X.mg X.base CX0 k f fd ps sp) (hr : L2H.RoomH k X.A) (hb : Binds X.K fd ps []) (I : L2.Inv X pins σ H s) (r : Vals vs us) (q : sp a cls d vs H Q fun _ _ _ => False) :
    wpAny (model X.prog X.w) X.A (call (.ref f) us) (EP X pins σ Q) X.xe s := by
  have many : us.length = ps.length := r.length.symm.trans (F.len _ _ _ _ _ _ _ q)
  have bound := hb s us I.kIn (by simpa using many)
  rw [List.append_nil] at bound
  obtain ⟨p1, p2, p3, p4, p5⟩ := I.pin (a, oe) (List.mem_append_left _ hp)
  have stands : L2H.PinOk X.stack H s (a, oe) := ⟨p1, p2, fun hm => (List.mem_cons.mp (I.stkSub a hm)).elim p3 p4, p5⟩
  refine wpAny_call (codeAny_mono (F.run X.A X.stack s H ⟨us, []⟩ us vs Q _ a oe cls d hr hz hf stands I.env0 bound r q) fun res t ht => ?_)
  match res, ht with
  | .ok (.ret _), ht => exact I.after ht
  | .ok .next, ht => exact False.elim ht
  | .ok .brk, ht => exact False.elim ht
  | .ok .cont, ht => exact False.elim ht
  | .error _, ht => exact False.elim ht
/-- g(e), within the suite that holds the error -/
theorem pe_callE {sp : Addr → Value → Option Addr → Sp} {a : Addr} {oe : Obj} {cls : Value} {d : Option Addr} (hp : (a, oe) ∈ X.pn) (hz : Zc cls d oe) (hf : ∃ fv, oe.data = .fields fv) (F : FnE X.prog X.w X.K X.mg X.base CX0 k f fd ps sp) (hr : L2H.RoomH k X.A) (hg : Gl X x) (hm : X.mg x = some (.ref f))
    (hk : PySem.W.keepIn X.K (.ref f) = true) (hb : Binds X.K fd ps []) (ha : PA X (e :: es) t) (hd : (x == ("__debug__" : Str)) = false := by decide) (h1 : starEach (e :: es) X.env = (false, eval e X.env) :: starEach es X.env := by rfl)
    (h2 : (backTo pos (starEach es X.env)).any (·.1) = false := by rfl) : PE X (.Call (.Name x p) (e :: es) [] pos) (tCallE (sp a cls d) t) where
  run := fun pins s σ H Q I h => wpAny_Call_Name_kw (ld_glob I hg hm (PySem.W.callWith_K (h₀ := X.base) I.ok.mod.kin hk (thn (ha.run pos pins s σ H _ I h) fun us s1 hu => by
    obtain ⟨vs, H1, I1, r, q⟩ := hu
    exact ⟨I1.kIn, run_fnE hp hz hf F hr hb I1 r q⟩) h1 h2) hd)
/-- isinstance(e, c), e an error that the context pins -/
theorem call_isP {a D : Addr} {oe : Obj} (hp : (a, oe) ∈ X.pn) (C : ExcC X.K D) (hz : Zc (.ref D) none oe) (hf : ∃ vs, oe.data = .fields vs) : CallR X (.builtin "isinstance") (rIsE X.K D a) := by
  rintro pins s σ H _ us Q I rel ⟨c, cv, b, rfl, only, kit, q⟩
  obtain ⟨u, rfl, rc⟩ : ∃ u, us = [.ref a, u] ∧ RelV c u := by
    match us, rel with
    | [_, u], .cons rfl (.cons rc .nil) => exact ⟨u, rfl, rc⟩
  obtain rfl := only u rc
  have inst : PySem.W.InstAt s.heap a oe D none := by
    refine ⟨(I.pin (a, oe) (List.mem_append_left _ hp)).1, hz.1, ?_, ?_⟩
    · obtain ⟨fv, e⟩ := hf
      unfold PySem.W.notCls
      rw [e] <;> rfl
    · rw [hz.2]
      trivial
  exact PySem.W.kia_one (PySem.W.handS_kitx_exc C.hg C.hk C.hs C.hd C.ha C.hn C.ht C.hm) I.kIn inst kit (fun e => by cases e) fun tk => ⟨.bl b, H, I.kept (t' := tk) fun _ _ h => h, rfl, q⟩
theorem rH {j : Nat} {A : Around} {v : Option Value} (r : Room j A) : L2H.RoomH j (A.mark v) := ⟨r.dp, r.un⟩
theorem pe_own {C : Addr} (T : ErrTxt X.K X.mg x C) (hg : Gl X x := by rfl) (hd : (x == ("__debug__" : Str)) = false := by decide) : PE X (.Name x pos) (tC (.ref C)) := pe_glob hg T.g rfl hd
/-- one of the questions -/
theorem isE {K : PySem.W.Frag} {D a C : Addr} {b : Bool} {H : Hp} {Q : VK} (k : PySem.W.kitOne K (.ref D) (.ref C) = some b) (q : Q (.bl b) H) : rIsE K D a [.ref a, .ref C] H Q :=
  ⟨.ref C, .ref C, b, rfl, fun _ r => r, k, q⟩
theorem isT {K : PySem.W.Frag} {D a : Addr} {n : String} {b : Bool} {H : Hp} {Q : VK} (k : PySem.W.kitOne K (.ref D) (.type n) = some b) (q : Q (.bl b) H) : rIsE K D a [.ref a, .ty n] H Q :=
  ⟨.ty n, .type n, b, rfl, fun _ r => r, k, q⟩
/-- a statement behind which nothing is reached: what follows it needs nothing -/
theorem pss_stop {st : Stmt} {rest : List Stmt} {t : TS} (h1 : PS X st t) : PSs X (st :: rest) (fun D σ H => t { D with nx := fun _ _ => False } σ H) := by
  refine ⟨fun pins s σ H D I h => ?_⟩
  refine wpAny_execs_cons (thn (h1.run pins s σ H { D with nx := fun _ _ => False } I h) fun f s1 q => ?_)
  cases f with
  | next =>
    obtain ⟨_, _, _, z⟩ := q
    exact False.elim z
  | ret v => exact q
  | brk => exact q
  | cont => exact q
/-- a def that answers in one case and raises in the other, each proved by itself -/
theorem fn_or {P : Program} {w : World} {K : PySem.W.Frag} {mg : Str → Option Value} {base : Heap} {i j n : Nat} {sp1 sp2 : Sp} (F : FnOk P w K mg base CX0 i f fd ps sp1) (G : FnOk P w K mg base (L2.CX P w) j f fd ps sp2) (hi : i ≤ n) (hj : j ≤ n) :
    FnOk P w K mg base (L2.CX P w) n f fd ps (fun vs H Q E => sp1 vs H Q E ∨ sp2 vs H Q E) := by
  refine ⟨fun vs H Q E h => h.elim (F.len _ _ _ _) (G.len _ _ _ _), fun A outer s H args us vs Q E hr e0 b r h => ?_⟩
  rcases h with h | h
  · refine codeAny_mono (F.run A outer s H args us vs Q E (hr.mono hi) e0 b r h) fun r s' z => ?_
    cases r with
    | error e => exact False.elim z
    | ok fl => cases fl <;> exact z
  · exact G.run A outer s H args us vs Q E (hr.mono hj) e0 b r h
/-! ### list.count of flat values -/
def rCntF (K : PySem.W.Frag) : V → List V → Hp → VK → Prop := fun x xs H Q => ∃ (p : Addr) (ys : List V) (y : V), x = .ref p ∧ xs = [y] ∧ SqL K H p ys ∧ flatV y = true ∧ ys.all flatV = true ∧ Q (.int (ys.countP (fun z => eqV z y) : Nat)) H
theorem count_vals {y : V} : ∀ {ys : List V} {us : List Value}, Vals ys us → ys.all flatV = true → us.countP (eqU y) = ys.countP (fun z => eqV z y)
  | _, _, .nil, _ => rfl
  | z :: ys, u :: us, .cons r t, f => by
    rw [List.all_cons, Bool.and_eq_true] at f
    rw [List.countP_cons, List.countP_cons, count_vals t f.2, eqU_of r f.1]
theorem mt_lcountF : MtR X "list.count" (rCntF X.K) := by
  rintro pins s σ H _ _ v us Q I rx rxs ⟨p, ys, y, rfl, rfl, seq, fy, fys, q⟩
  obtain rfl : v = Value.ref p := rx
  obtain ⟨u, rfl, ru⟩ : ∃ u, us = [u] ∧ RelV y u := by
    match us, rxs with
    | [u], .cons r .nil => exact ⟨u, rfl, r⟩
  obtain ⟨its, rv, ⟨⟨c, dd, dat, sl⟩, n, ob, ec, edn, ed⟩, _⟩ := I.list seq
  obtain rfl : c = .type "list" := ec
  obtain rfl : dat = .seq its.toArray n := ed
  have same : its.toArray.toList.countP (eqU y) = ys.countP (fun z => eqV z y) := count_vals rv fys
  refine call_meets PySem.F.slot_list_count ⟨_, ob, rfl⟩ PySem.F.entry_list_count (PySem.F.args_list_count_2 _ _) (SeqAt.list_countAt p its.toArray n dd sl u (eqU y)) ⟨ob, fun z hz => mem_eqAt ru fy rv fys z (by simpa using hz), ?_⟩
  refine ⟨.int (ys.countP (fun z => eqV z y) : Nat), H, I.tok _, ⟨s.toks, ?_⟩, q⟩
  show Value.int ((its.toArray.toList.countP (eqU y) : Nat) : Int) s.toks = _
  rw [same]
end
end GL
/-! ### name = [f(x) for x in ..], where f may raise -/
namespace L2
open PySem PySem.Spec PyProof.Rows
/-- fewer objects on the ground: the frames still stand above it -/
theorem fun_small {base B h : Heap} {l : List Env} (sub : ∀ b o, B.get? b = some o → base.get? b = some o) (hh : h.FunFrames base l) : h.FunFrames B l :=
  funFrames_none hh fun L hL => by
    have n := (hh.mem hL).1
    cases e : B.get? L with
    | none => rfl
    | some o => exact absurd ((sub L o e).symm.trans n) (fun z => nomatch z)
theorem ends_of {M : Model} {A : Around} {E : Value → Shared → Prop} {use : Option (Value → Sem Unit)} {Q : Value → Shared → Prop} {acc : Value} {ce : Env} {C : Addr} {f : Flow} {s' : Shared} (hL : ce.locals = C) (h : compPost M A E use Q acc C (.ok f) s') : compEnds M A E use Q acc ce (.ok f) s' := by
  subst hL
  cases use <;> exact h
section
variable {X : Cx} {pins : List (Addr × Obj)} {σ : St} {H : Hp} {s : Shared}
/-- what the call of a def let out is in flight: no other station fits the traceback that a call leaves -/
theorem of_callF {E : XK} (I : Inv X pins σ H s) {u : Value} {s' : Shared} (c : L2.CX X.prog X.w X.stack H s E u s') :
    ∃ (a : Addr) (B : Heap) (sI : Shared) (p' : List (Addr × Obj)) (σ' : St) (H' : Hp) (cls : Value) (d : Option Addr), u = .ref a ∧ Inv X p' σ' H' sI ∧ (∀ b o, sI.heap.get? b = some o → b ∉ frs X.stack → B.get? b = some o) ∧
      sI.heap.UpToSlots s'.heap ∧ HandSPX.FlyingZ B X.stack a (Zc cls d) s'.heap ∧ H' a = none ∧ s'.os = sI.os ∧ AllBare s'.gens ∧ E cls d H' := by
  obtain ⟨a, B, sI, p', σ', H', cls, d, eu, J, nb, up, sky, na, os, ag, w⟩ := XE.of_call (W := fun cls d _ H' => E cls d H') I (fun _ _ _ h => h) c
  obtain ⟨a0, _, _, _, _, eu0, fl0, _⟩ := c
  have ea : a0 = a := Value.ref.inj (eu0.symm.trans eu)
  subst ea
  obtain ⟨_, _, _, o0, v0, T0, t0, f0, g0, _, d0, tb0, _, _, gT0, dT0, fl3⟩ := fl0
  refine ⟨a0, B, sI, p', σ', H', cls, d, eu, J, nb, up, ?_, na, os, ag, w⟩
  rcases sky with ⟨_, _, _, o1, v1, g1, _, d1, tb1⟩ | fl | ⟨_, _, _, o1, v1, T1, t1, f1, g1, _, d1, tb1, _, _, gT1, dT1, h3⟩
  · rw [g0] at g1
    cases g1
    rw [d0] at d1
    cases d1
    rw [tb0] at tb1
    cases tb1
  · exact fl
  · rw [g0] at g1
    cases g1
    rw [d0] at d1
    cases d1
    rw [tb0] at tb1
    cases tb1
    rw [gT0] at gT1
    cases gT1
    rw [dT0] at dT1
    cases dT1
    rw [fl3] at h3
    exact absurd h3 (by simp [rawInt])
/-- a block of names laid over the def's state s3 -/
structure Over (X : Cx) (pins : List (Addr × Obj)) (σ : St) (H3 : Hp) (s3 : Shared) (ce : Env) (fp : List Addr) : Prop where
  inv : Inv X pins σ H3 s3
  off : ∀ b ∈ fp, FpOk X pins H3 b
  frame : ce.frame = X.env.frame
  names : ce.locals = s3.heap.objs.size
section
variable {H3 : Hp} {s3 : Shared} {scope : Scope} {ce : Env} {fp : List Addr} {p' : List (Addr × Obj)} {σ' : St} {H' : Hp} {s' : Shared}
/-- a heap that has all of the block's but, perhaps, its names serves the def -/
theorem Over.back (k : Over X pins σ H3 s3 ce fp) (J : Inv (X.blk s3 H3 scope ce fp) p' σ' H' s') {G : Heap} (hG : ∀ b o, b ≠ ce.locals → s'.heap.get? b = some o → G.get? b = some o) : Inv X pins σ H' { s' with heap := G } := by
  have old : ∀ {b o}, s3.heap.get? b = some o → b ≠ ce.locals := fun {b o} e z => by
    have := Heap.lt_size e
    rw [z, k.names] at this
    exact Nat.lt_irrefl _ this
  have noC : H' ce.locals = none := J.free
  refine k.inv.call' (ch := fp) J.os ?_ ?_ J.bare fun b hb => ⟨(k.off b hb).2.2.2.1, (k.off b hb).2.1, (k.off b hb).2.2.2.2.1, (k.off b hb).2.2.2.2.2⟩
  · exact { keep := fun b o e h1 h2 h3 => hG b o (old e) (J.base.keep b o e h1 h2 h3)
            slot := fun b o e h1 h2 h3 => (J.base.slot b o e h1 h2 h3).elim fun sl q => ⟨sl, hG b _ (old e) q⟩
            free := J.base.free
            there := fun b o e h3 => (J.base.there b o e h3).elim fun o' q => ⟨o', hG b o' (old e) q⟩
            tups := J.base.tups
            frzs := J.base.frzs
            tbls := J.base.tbls }
  · intro b u e
    refine (J.hok b u e).stay (fun c v hc hv => hG c v (fun z => ?_) hv) (fun _ h => h) fun _ _ h => h
    have some_c : ∃ o, H' c = some o := hc.elim (fun h => ⟨u, h ▸ e⟩) fun h => ⟨_, h⟩
    obtain ⟨o, ho⟩ := some_c
    rw [z, noC] at ho
    cases ho
theorem Over.back' (k : Over X pins σ H3 s3 ce fp) (J : Inv (X.blk s3 H3 scope ce fp) p' σ' H' s') : Inv X pins σ H' s' := k.back J fun _ _ _ e => e
/-- out of the block, into the def's own air: the names' object is left out of the ground and of the state -/
theorem out_of_block {xeB : Value → Shared → Prop} {use : Option (Value → Sem Unit)} {Qf : Value → Shared → Prop} {acc : Value} {Wout : WX} (hs : X.stack = X.env :: X.outer) (hf : X.env.frame = some X.env.locals) (k : Over X pins σ H3 s3 ce fp) (tk : Takes X Wout)
    (hxe : xeB = notedBy (model X.prog X.w) X.A ce (fun e s' => compEnds (model X.prog X.w) X.A X.xe use Qf acc ce (.error e) s')) :
    ∀ σ', PassesAt (L2.CX X.prog X.w) ((X.blk s3 H3 scope ce fp).wish xeB) σ' (fun cls d H' => Wout cls d σ H') := by
  intro σ' p' H s e s' I c
  obtain ⟨a, B, sI, p2, σ2, H', cls, d, rfl, J0, nb, up, fl, na, os, ag, w⟩ := of_callF I c
  have J : Inv (X.blk s3 H3 scope ce fp) p2 σ2 H' sI := J0.unwish
  rw [hxe]
  show wpAny (model X.prog X.w) X.A (noteFrame (.ref a) ce) (fun _ s'' => compEnds (model X.prog X.w) X.A X.xe use Qf acc ce (.error (.ref a)) s'') (fun e s' => compEnds (model X.prog X.w) X.A X.xe use Qf acc ce (.error e) s') s'
  rw [noteFrame_env _ k.frame]
  have hfr : X.A.frames = some (X.env :: X.outer) := by rw [k.inv.ok.frames, hs]
  -- the ground and the state without the block of names
  obtain ⟨B', b1, b2⟩ := restrict B fun b => decide (b ≠ ce.locals)
  have sub : ∀ b o, B'.get? b = some o → B.get? b = some o ∧ b ≠ ce.locals := fun b o e => by
    by_cases hb : b = ce.locals
    · exact absurd ((b2 b (decide_eq_false fun z => z hb)).symm.trans e) (fun z => nomatch z)
    · exact ⟨(b1 b (decide_eq_true hb)).symm.trans e, hb⟩
  obtain ⟨G, g1, g2⟩ := restrict sI.heap fun b => decide (b ≠ ce.locals)
  have gs : ∀ b o, G.get? b = some o → sI.heap.get? b = some o ∧ b ≠ ce.locals := fun b o e => by
    by_cases hb : b = ce.locals
    · exact absurd ((g2 b (decide_eq_false fun z => z hb)).symm.trans e) (fun z => nomatch z)
    · exact ⟨(g1 b (decide_eq_true hb)).symm.trans e, hb⟩
  have I' : Inv X pins σ H' { sI with heap := G } := k.back J fun b o hb e => (g1 b (decide_eq_true hb)).trans e
  have none_of : ∀ {b}, B.get? b = none → B'.get? b = none := fun {b} h => by
    cases e : B'.get? b with
    | none => rfl
    | some o => exact absurd ((sub b o e).1.symm.trans h) (fun z => nomatch z)
  have fl' : HandSPX.FlyingZ B' (X.env :: X.outer) a (Zc cls d) s'.heap := by
    obtain ⟨h1, h2, h3, oe, vs, T, oT, ts, r1, r2, r3, r4, r5, r6⟩ : HandSPX.FlyingZ B (X.env :: X.outer) a (Zc cls d) s'.heap := hs ▸ fl
    exact ⟨fun b o e => h1 b o (sub b o e).1, none_of h2, fun_small (fun b o e => (sub b o e).1) h3, oe, vs, T, oT, ts, r1, r2, r3, r4, none_of r5, r6⟩
  obtain ⟨m, hn, _⟩ := J.loc
  have hn : sI.heap.Ns ce.locals m := hn
  refine HandSPX.looks_onZ Zc.steady hfr hf fl' fun h1 hh1 up1 => ?_
  have hn1 : h1.Ns ce.locals m := (up.trans up1).ns hn
  have fails : CompFails (model X.prog X.w) X.A X.xe ce (.ref a) { s' with heap := h1 } := by
    refine ⟨m, hn1, fun h2 m2 hn2 hs2 => ?_⟩
    -- a record is not the block of names
    have notC : ∀ {b : Addr} {o : Obj} {vs : Array Value}, h1.get? b = some o → o.data = .fields vs → b ≠ ce.locals := fun {b o vs} e q z => by
      obtain ⟨oL, es, ep, hoL, hdL, _⟩ := hn1
      rw [z] at e
      have := Option.some.inj (hoL.symm.trans e)
      rw [this, q] at hdL
      cases hdL
    have hh2 : HandSPX.HeldZ B' (X.env :: X.outer) a (Zc cls d) X.env.locals h2 := by
      obtain ⟨k1, k2, k3, oe, vs, T, oT, ts, r1, r2, r3, r4, r5, r6, r7, r8, r9⟩ := hh1
      exact ⟨fun b o e => (hs2.2 b (sub b o e).2).trans (k1 b o e), k2, Heap.FunFrames.sameBut hs2 hn2 k3, oe, vs, T, oT, ts, (hs2.2 a (notC r1 r3)).trans r1, r2, r3, r4, r5, r6, (hs2.2 T (notC r7 r8)).trans r7, r8, r9⟩
    have rest : wpAny (model X.prog X.w) X.A (setFlight (.ref a) ce.frame) (fun _ s4 => wpAny (model X.prog X.w) X.A (throw (.ref a) : Sem Value) (fun _ _ => False) X.xe s4) X.xe { s' with heap := h2 } := by
      rw [k.frame, hf]
      refine HandSPX.setFlight_onZ hh2 fun h3 hh3 up3 => wpAny_throw (tk _ _ ?_)
      refine ⟨a, B', { sI with heap := G }, pins, σ, H', cls, d, rfl, I', fun b o e hb => ?_, fun b o e hnf => ?_, .inr (.inr (hs.symm ▸ hh3)), na, os, ag, w⟩
      · exact (b1 b (decide_eq_true (gs b o e).2)).trans (nb b o (gs b o e).1 hb)
      · obtain ⟨sl, q⟩ := (up.trans up1) b o (gs b o e).1 hnf
        obtain ⟨sl2, q2⟩ := up3 b { o with slots := sl } ((hs2.2 b (gs b o e).2).trans q) hnf
        exact ⟨sl2, q2⟩
    obtain ⟨_, _, _, oe, vs, T, oT, ts, he, hz, hd, htb, _⟩ := hh2
    have noNone : ¬ (Value.ref T == Value.none) = true := by simp
    unfold PySem.passOn
    refine wpAny_bind (wpAny_field he hd htb ?_)
    rw [if_neg noNone]
    first
      | exact wpAny_bind rest
      | exact wpAny_bind (wpAny_pure (wpAny_bind rest))
  cases use <;> exact fails
/-- the end of a turn: the iterator's objects stand as the turn began, the block's names are forgotten -/
theorem turn_end {tg : Expr} {J : It} {it : Addr} {tn : Nat → Heap → Prop} {i : Nat} {s7 : Shared} {ws : List Nat} (T : Turn X.prog X.w X.K tg J fp it tn) (st : tn i s7.heap) (hw : wipe σ' ws = wipe σ ws)
    (I' : Inv (X.blk s3 H3 scope ce fp) ([] ++ pinsAt fp s7.heap) σ' H' s') : Inv (X.blk s3 H3 scope ce fp) [] (wipe σ ws) H' s' ∧ tn i s'.heap ∧ ∀ b ∈ fp, H' b = none := by
  have held : ∀ b ∈ fp, ∀ o, s7.heap.get? b = some o → s'.heap.get? b = some o ∧ H' b = none := fun b hb o e => by
    have z := I'.pin (b, o) (by simp [mem_pinsAt hb e])
    exact ⟨z.1, z.2.1⟩
  refine ⟨Inv.weak (Inv.unpinned (pins := []) I') (by rw [← hw, wipe_length]) (fun j v e => (wipe_some (hw ▸ e)).1), T.keep _ _ _ st fun b hb o e => (held b hb o e).1, fun b hb => ?_⟩
  obtain ⟨o, e, _⟩ := T.obj _ _ st b hb
  exact (held b hb o e).2
/-- what the loop is asked: W by the turn and a measure, D the list that grows -/
def LoopAsk (J : It) (g : TG) (te : TE) (vs : List Nat) (σ : St) (D : Addr) (Qd : Hp → Prop) (W : Nat → Nat → Hp → Prop) : Prop := ∀ i m H, W i m H →
  (J.stop i H ∧ Qd H) ∨ (J.go i H ∧ ∃ Nx : Hp → Prop, (∀ H', Nx H' → ∃ m', m' < m ∧ W (i + 1) m' H') ∧
    ∀ x H', J.yld i H x H' → g x (wipe σ vs) H' fun σ2 H2 => wipe σ2 vs = wipe σ vs ∧ tYes σ2 H2 fun b H3 =>
      if b = true then te σ2 H3 fun y H4 => ∃ acc, H4 D = some (.lst acc) ∧ acc.length < sizeLine ∧ Nx (upd H4 D (.lst (acc ++ [y]))) else Nx H3)
theorem loop_over {R : Result → Shared → Prop} {elt tg iter : Expr} {scope' : Scope} {pos : Pos} {J : It} {g : TG} {te : TE} {it D : Addr} {tn : Nat → Heap → Prop} {xe : Value → Shared → Prop} {ws : List Nat} {Qd : Hp → Prop} {W : Nat → Nat → Hp → Prop} {m0 : Nat} {H4 : Hp} {s4 : Shared}
    (hc : X.calm = true) (T : Turn X.prog X.w X.K tg J fp it tn) (pg : PG (X.blk s3 H3 scope ce fp) tg g) (pe : PE ((X.blk s3 H3 scope ce fp).wish xe) elt te) (hxe : xe = notedBy (model X.prog X.w) X.A ce fun e s' => R (.error e) s') (ask : LoopAsk J g te ws σ D Qd W)
    (fin : ∀ H' s', Inv (X.blk s3 H3 scope ce fp) [] (wipe σ ws) H' s' → Qd H' → R (.ok .next) s') (I4 : Inv (X.blk s3 H3 scope ce fp) [] (wipe σ ws) H4 s4) (st4 : tn 0 s4.heap) (n4 : ∀ b ∈ fp, H4 b = none) (w0 : W 0 m0 H4) :
    codeAny (model X.prog X.w) X.A (.compLoop (.ListComp elt [⟨tg, iter, [], 0⟩] scope' pos) 0 (.ref it) (.ref D) ce) R s4 := by
  subst hxe
  let At : Nat → Shared → Prop := fun n s' => ∃ i H', (Inv (X.blk s3 H3 scope ce fp) [] (wipe σ ws) H' s' ∧ tn i s'.heap ∧ ∀ b ∈ fp, H' b = none) ∧ W i n H'
  refine compLoop_any At (fun n t => ?_) m0 ⟨0, H4, ⟨I4, st4, n4⟩, w0⟩
  rintro ⟨i, H5, ⟨I5, st5, n5⟩, w5⟩
  have free5 : ∀ b ∈ fp, FpOk (X.blk s3 H3 scope ce fp) [] H5 b := fun b hb => ⟨n5 b hb, (I5.ok.exf b hb).1, I5.ok.exfs b hb, .inl hb, (I5.ok.exf b hb).2, fun p hp => by simp at hp⟩
  rcases ask i n H5 w5 with ⟨stop, qd⟩ | ⟨go, Nx, less, body⟩
  · refine thnF (T.done (X.blk s3 H3 scope ce fp) rfl rfl rfl hc i [] t _ H5 _ I5 free5 st5 stop) fun r t1 h => ?_
    obtain ⟨rfl, I6⟩ := h
    exact fin _ _ I6 qd
  · have next : ∀ {σ8 : St} {H' : Hp} {t7 t' : Shared}, tn (i + 1) t7.heap → wipe σ8 ws = wipe σ ws → Inv (X.blk s3 H3 scope ce fp) ([] ++ pinsAt fp t7.heap) σ8 H' t' → Nx H' → ∃ m, m < n ∧ At m t' := fun st7 hw I' nx => by
      obtain ⟨m, hm, w⟩ := less _ nx
      exact ⟨m, hm, i + 1, _, turn_end T st7 hw I', w⟩
    refine thnF (T.item (X.blk s3 H3 scope ce fp) rfl rfl rfl hc i [] t _ H5 _ I5 free5 st5 go) fun r t1 h => ?_
    obtain ⟨u, rfl, h⟩ := h
    refine thnF h fun _ t2 h => ?_
    obtain ⟨x, H7, I7, rx, hy, st7, n7⟩ := h
    have free7 : ∀ b ∈ fp, FpOk (X.blk s3 H3 scope ce fp) [] H7 b := fun b hb => ⟨n7 b hb, (free5 b hb).2⟩
    refine thnF (pg.run _ t2 _ H7 x u _ (I7.pinned free7 (T.obj _ _ st7)) rx (body x H7 hy)) fun _ t3 h => ?_
    obtain ⟨σ8, H8, I8, hw, q8⟩ := h
    refine wpAny_tests_nil ?_
    have q8 : te σ8 H8 fun y H4 => ∃ acc, H4 D = some (.lst acc) ∧ acc.length < sizeLine ∧ Nx (upd H4 D (.lst (acc ++ [y]))) := q8
    show wpAny (model X.prog X.w) X.A (eval elt ce) _ _ t3
    refine thn (pe.run _ t3 σ8 H8 _ (I8.wish _) q8) fun z t4 h => ?_
    obtain ⟨y, H9, I9, ry, acc, hD, hl, nx⟩ := h
    exact app_ok (X := X.blk s3 H3 scope ce fp) I9.unwish hD hl ry fun t5 I10 => next st7 hw I10 nx
end
/-- [elt for target in iter], elt may raise: te takes what is wished of an error -/
def tLcX (wi : TI) (g : TG) (te : XK → TE) (Wout : WX) (vs : List Nat) : TE := fun σ H Q => wi σ H fun J H1 => ∀ D, H1 D = none → ∃ W : Nat → Nat → Hp → Prop, (∃ m, W 0 m (upd H1 D (.lst []))) ∧ LoopAsk J g (te fun cls d H' => Wout cls d σ H') vs σ D (fun H => Q (.ref D) H) W
/-- name = [elt for target in iter], the name a local -/
theorem ps_setLcX {i : Nat} {y : Str} {py : Pos} {elt tg iter : Expr} {scope : Scope} {own : List (Str × Nat)} {pos spos : Pos} {wi : TI} {g : TG} {te : XK → TE} {Wout : WX} (hst : X.stack = X.env :: X.outer) (hfr : X.env.frame = some X.env.locals) (tk : Takes X Wout)
    (hc : X.calm = true) (hN : X.N.Nodup) (hy : X.N[i]? = some y) (hyl : X.env.scope.names.lookup y = some .local) (hsw : swapsWith (.ListComp elt [⟨tg, iter, [], 0⟩] scope pos) (some (.Name y py)) spos.line X.env = pure true) (hi : PI X tg iter wi) (ok : BlkOk X.N X.env.scope scope own)
    (hg : ∀ (s : Shared) (H : Hp) (C : Addr) (cl : List (Str × Addr)) (fp : List Addr), PG (X.blk s H scope (compEnvC scope cl C X.env) fp) tg g)
    (he : ∀ (s : Shared) (H : Hp) (C : Addr) (cl : List (Str × Addr)) (fp : List Addr) (xe : Value → Shared → Prop) (Ek : XK), (∀ σ', PassesAt (L2.CX X.prog X.w) ((X.blk s H scope (compEnvC scope cl C X.env) fp).wish xe) σ' Ek) → PE ((X.blk s H scope (compEnvC scope cl C X.env) fp).wish xe) elt (te Ek))
    (hs : ∀ x, foldedSetIterable iter X.env x = pure x := by intro _; rfl) :
    PS X (.Assign [.Name y py] (.ListComp elt [⟨tg, iter, [], 0⟩] scope pos) spos) (tAsg (tLcX wi g te Wout (own.map (·.2))) (gName i)) := by
  refine ⟨fun pins s σ H Dd I h => ?_⟩
  have clos : closureFor scope X.env = pure (cloFrom X.env.cells scope.names []) := closure_ok fun z hz e => I.ok.has _ (ok.free z hz e)
  rw [exec_Assign_Name_used _ _ _ _ hsw]
  refine wpAny_bind (wpAny_standAt (wpAny_bind (wpAny_bind (thn ?_ fun _ t ht => wpAny_pure (wpAny_pure ht)))))
  refine comprehension_at (Q := fun _ t => SP X pins Dd .next t) rfl hs clos ok.kind (fun z hz e => (ok.uniq z hz).trans (by rw [e])) ?_
  refine thn (hi.run pins s σ H _ I h) fun v s1 h1 => thn h1 fun itv s2 h2 => ?_
  obtain ⟨it, fp, tn, J, H2, rfl, I2, T, st2, f2, ask⟩ := h2
  -- the list that is to grow, and the block's names behind it
  have fresh : H2 s2.heap.objs.size = none := I2.hok.fresh (Nat.le_refl _)
  obtain ⟨W, ⟨m0, w0⟩, ask⟩ := ask _ fresh
  refine wpAny_newObj_type (newEnv_comp ?_) (by show 0 ≤ sizeLine; decide)
  let s3 : Shared := { s2 with heap := s2.heap.push { cls := .type "list", data := .seq ([] : List Value).toArray } }
  let H3 : Hp := upd H2 s2.heap.objs.size (.lst [])
  have old3 : ∀ b o, s2.heap.get? b = some o → s3.heap.get? b = some o := fun b o e => Heap.get?_push_of_some _ e
  have new3 : s3.heap.get? s2.heap.objs.size = some { cls := .type "list", data := .seq ([] : List Value).toArray } := Heap.get?_push_size _ rfl
  have I3 : Inv X pins σ H3 s3 := I2.laid (t' := s2.toks) old3 (Nat.le_refl _) ⟨Nat.zero_le _, [], 0, .nil, new3⟩
  have below : ∀ b ∈ fp, b < s2.heap.objs.size := fun b hb => (T.obj _ _ st2 b hb).elim fun o h => Heap.lt_size h.1
  have off : ∀ b ∈ fp, FpOk X pins H3 b := fun b hb => ⟨(upd_ne (Nat.ne_of_lt (below b hb))).trans (f2 b hb).1, (f2 b hb).2⟩
  have size3 : s3.heap.objs.size = s2.heap.objs.size + 1 := Heap.size_push ..
  have I4 := block_start I3 ok hN fun b hb => ⟨off b hb, size3 ▸ Nat.lt_succ_of_lt (below b hb)⟩
  let ce : Env := compEnvC scope (cellsFrom (s3.heap.objs.size + 1) scope.names (cloFrom X.env.cells scope.names [])) s3.heap.objs.size X.env
  have k : Over X pins σ H3 s3 ce fp := ⟨I3, off, rfl, rfl⟩
  have st4 : tn 0 (pushCells (s3.heap.push { cls := .type "dict", data := .dict #[] }) scope.names) := T.keep _ _ _ st2 fun b _ o e => pushCells_keeps _ _ _ _ (Heap.get?_push_of_some _ (old3 b o e))
  have loop := loop_over (R := compEnds (model X.prog X.w) X.A X.xe (some (assign (.Name y py) X.env)) (fun _ t => SP X pins Dd .next t) (.ref s2.heap.objs.size) ce) (iter := iter) (scope' := scope) (pos := pos) hc T (hg s3 H3 _ _ fp)
    (he s3 H3 _ _ fp _ _ (out_of_block (scope := scope) (use := some (assign (.Name y py) X.env)) (Qf := fun _ t => SP X pins Dd .next t) (acc := .ref s2.heap.objs.size) hst hfr k tk rfl)) rfl ask (fun H' t J' q => ?_) I4 st4 (fun b hb => (off b hb).1) w0
  · exact codeAny_compStart_list loop (T.self X.A 0 _ _ _ st4 loop)
  -- behind the loop: the list gets its name
  obtain ⟨m, hn, _⟩ := id J'.loc
  have noC : FpOk X pins H' s3.heap.objs.size := I3.fpOk (Nat.le_refl _) J'.free
  refine ends_of (C := s3.heap.objs.size) rfl ?_
  show wpAny _ _ (assign (.Name y py) X.env (.ref s2.heap.objs.size)) _ _ t
  refine wpAny_assign_Name (store_ok2 (v := V.ref s2.heap.objs.size) (k.back' J') hN hy (.inl hyl) rfl (fun t2 K2 ⟨b, sb, hb⟩ => ?_) (.inr hyl))
  have apart : s3.heap.objs.size ≠ b := fun z => hb.elim (fun e => noC.2.1 (z.trans e)) fun e => noC.2.2.2.2.1 y b e z.symm
  exact ⟨m, Heap.Ns.sameBut hn sb apart, fun h3 sb3 => ⟨_, H', K2.turned (t' := t2.toks) (fun c o hc e => (sb3.2 c hc).trans e) noC.1 noC.2.1 noC.2.2.2.1 noC.2.2.2.2.1 noC.2.2.2.2.2, q⟩⟩
end
end L2
/-! ### the text by places -/
namespace GK
open PySem PySem.Spec PyProof.Rows L2 GL
def topS (i : Nat) : Stmt := PySem.Challenge.pw_gapring_k16_read_or_refused.main.body.getD i (.Pass ⟨0, 0, 0, 0⟩)
abbrev s_asked : Stmt := topS 11
abbrev s_number_of : Stmt := topS 14
abbrev s_read : Stmt := topS 15
abbrev s_l_cell_at : Stmt := topS 17
abbrev s_l_draw : Stmt := topS 18
abbrev s_l_ring_by : Stmt := topS 19
abbrev s_l_word_of : Stmt := topS 20
abbrev s_l_tried : Stmt := topS 21
abbrev s_l_odd : Stmt := topS 22
abbrev s_law : Stmt := topS 23
abbrev N_asked : List Str := ["ring", "number"]
theorem sc_asked : FnScope N_asked ["ring"] (defScope s_asked) := ⟨rfl, rfl, rfl, by decide +kernel, rfl, by decide +kernel, by decide +kernel⟩
abbrev N_number_of : List Str := ["word", "sign"]
theorem sc_number_of : FnScope N_number_of ["word"] (defScope s_number_of) := ⟨rfl, rfl, rfl, by decide +kernel, rfl, by decide +kernel, by decide +kernel⟩
abbrev N_read : List Str := ["text", "ring", "word"]
theorem sc_read : FnScope N_read ["text"] (defScope s_read) := ⟨rfl, rfl, rfl, by decide +kernel, rfl, by decide +kernel, by decide +kernel⟩
abbrev N_l_cell_at : List Str := ["script", "k"]
theorem sc_l_cell_at : FnScope N_l_cell_at ["script", "k"] (defScope s_l_cell_at) := ⟨rfl, rfl, rfl, by decide +kernel, rfl, by decide +kernel, by decide +kernel⟩
abbrev N_l_draw : List Str := ["cell", "k", "bound", "stir"]
theorem sc_l_draw : FnScope N_l_draw ["cell", "k", "bound"] (defScope s_l_draw) := ⟨rfl, rfl, rfl, by decide +kernel, rfl, by decide +kernel, by decide +kernel⟩
abbrev N_l_ring_by : List Str := ["script", "first", "cell", "size", "bound", "ring", "k", "number"]
theorem sc_l_ring_by : FnScope N_l_ring_by ["script", "first"] (defScope s_l_ring_by) := ⟨rfl, rfl, rfl, by decide +kernel, rfl, by decide +kernel, by decide +kernel⟩
abbrev N_l_word_of : List Str := ["e", "kinds"]
theorem sc_l_word_of : FnScope N_l_word_of ["e"] (defScope s_l_word_of) := ⟨rfl, rfl, rfl, by decide +kernel, rfl, by decide +kernel, by decide +kernel⟩
abbrev N_l_tried : List Str := ["text", "e"]
theorem sc_l_tried : FnScope N_l_tried ["text"] (defScope s_l_tried) := ⟨rfl, rfl, rfl, by decide +kernel, rfl, by decide +kernel, by decide +kernel⟩
abbrev N_l_odd : List Str := ["word", "way", "some"]
theorem sc_l_odd : FnScope N_l_odd ["word", "way"] (defScope s_l_odd) := ⟨rfl, rfl, rfl, by decide +kernel, rfl, by decide +kernel, by decide +kernel⟩
abbrev N_law : List Str := ["script", "ring", "words", "way", "at", "due", "great", "some", "plain", "number", "k"]
theorem sc_law : FnScope N_law ["script"] (defScope s_law) := ⟨rfl, rfl, rfl, by decide +kernel, rfl, by decide +kernel, by decide +kernel⟩
/-- what the top has left -/
structure Txt (K : PySem.W.Frag) (mg : Str → Option Value) where
  f_asked : Addr
  d_asked : FuncData
  F_asked : Fun K "asked" "asked" s_asked f_asked d_asked
  b_asked : Binds K d_asked ["ring"] []
  g_asked : mg "asked" = some (.ref f_asked)
  f_number_of : Addr
  d_number_of : FuncData
  F_number_of : Fun K "number_of" "number_of" s_number_of f_number_of d_number_of
  b_number_of : Binds K d_number_of ["word"] []
  g_number_of : mg "number_of" = some (.ref f_number_of)
  f_read : Addr
  d_read : FuncData
  F_read : Fun K "read" "read" s_read f_read d_read
  b_read : Binds K d_read ["text"] []
  g_read : mg "read" = some (.ref f_read)
  f_l_cell_at : Addr
  d_l_cell_at : FuncData
  F_l_cell_at : Fun K "_law_cell_at" "_law_cell_at" s_l_cell_at f_l_cell_at d_l_cell_at
  b_l_cell_at : Binds K d_l_cell_at ["script", "k"] []
  g_l_cell_at : mg "_law_cell_at" = some (.ref f_l_cell_at)
  f_l_draw : Addr
  d_l_draw : FuncData
  F_l_draw : Fun K "_law_draw" "_law_draw" s_l_draw f_l_draw d_l_draw
  b_l_draw : Binds K d_l_draw ["cell", "k", "bound"] []
  g_l_draw : mg "_law_draw" = some (.ref f_l_draw)
  f_l_ring_by : Addr
  d_l_ring_by : FuncData
  F_l_ring_by : Fun K "_law_ring_by" "_law_ring_by" s_l_ring_by f_l_ring_by d_l_ring_by
  b_l_ring_by : Binds K d_l_ring_by ["script", "first"] []
  g_l_ring_by : mg "_law_ring_by" = some (.ref f_l_ring_by)
  f_l_word_of : Addr
  d_l_word_of : FuncData
  F_l_word_of : Fun K "_law_word_of" "_law_word_of" s_l_word_of f_l_word_of d_l_word_of
  b_l_word_of : Binds K d_l_word_of ["e"] []
  g_l_word_of : mg "_law_word_of" = some (.ref f_l_word_of)
  f_l_tried : Addr
  d_l_tried : FuncData
  F_l_tried : Fun K "_law_tried" "_law_tried" s_l_tried f_l_tried d_l_tried
  b_l_tried : Binds K d_l_tried ["text"] []
  g_l_tried : mg "_law_tried" = some (.ref f_l_tried)
  f_l_odd : Addr
  d_l_odd : FuncData
  F_l_odd : Fun K "_law_odd" "_law_odd" s_l_odd f_l_odd d_l_odd
  b_l_odd : Binds K d_l_odd ["word", "way"] []
  g_l_odd : mg "_law_odd" = some (.ref f_l_odd)
  f_law : Addr
  d_law : FuncData
  F_law : Fun K "law" "law" s_law f_law d_law
  b_law : Binds K d_law ["script"] []
  g_law : mg "law" = some (.ref f_law)
  c_FEWEST : ∃ t, mg "FEWEST" = some (.int 3 t)
  c_MOST : ∃ t, mg "MOST" = some (.int 16 t)
  c_GREATEST : ∃ t, mg "GREATEST" = some (.int 1000 t)
  c_FIGURES : ∃ t, mg "FIGURES" = some (.str "0123456789" t)
  z_ValueError : mg "ValueError" = none
  z_int : mg "int" = none
  z_isinstance : mg "isinstance" = none
  z_len : mg "len" = none
  z_list : mg "list" = none
  z_range : mg "range" = none
  z_str : mg "str" = none
  e_RingError : Addr
  E_RingError : ErrTxt K mg "RingError" e_RingError
  e_NoRing : Addr
  E_NoRing : ErrTxt K mg "NoRing" e_NoRing
  e_NoSize : Addr
  E_NoSize : ErrTxt K mg "NoSize" e_NoSize
  e_Unlike : Addr
  E_Unlike : ErrTxt K mg "Unlike" e_Unlike
  e_NoBits : Addr
  E_NoBits : ErrTxt K mg "NoBits" e_NoBits
  e_NoNote : Addr
  E_NoNote : ErrTxt K mg "NoNote" e_NoNote
  S_NoRing_NoSize : PySem.W.subIn K (.ref e_NoRing) (.ref e_NoSize) = some false
  S_NoRing_Unlike : PySem.W.subIn K (.ref e_NoRing) (.ref e_Unlike) = some false
  S_NoRing_NoBits : PySem.W.subIn K (.ref e_NoRing) (.ref e_NoBits) = some false
  S_NoRing_NoNote : PySem.W.subIn K (.ref e_NoRing) (.ref e_NoNote) = some false
  S_NoRing_RingError : PySem.W.subIn K (.ref e_NoRing) (.ref e_RingError) = some true
  S_NoNote_NoRing : PySem.W.subIn K (.ref e_NoNote) (.ref e_NoRing) = some false
  S_NoNote_NoSize : PySem.W.subIn K (.ref e_NoNote) (.ref e_NoSize) = some false
  S_NoNote_Unlike : PySem.W.subIn K (.ref e_NoNote) (.ref e_Unlike) = some false
  S_NoNote_NoBits : PySem.W.subIn K (.ref e_NoNote) (.ref e_NoBits) = some false
  S_NoNote_RingError : PySem.W.subIn K (.ref e_NoNote) (.ref e_RingError) = some true
section
variable {P : Program} {w : World} {K : PySem.W.Frag} {mg : Str → Option Value} {base : Heap}
/-! ### asked: a ring passes -/
def sp_asked (K : PySem.W.Frag) : Sp := fun vs H Q _ => ∃ (a : Addr) (ns : List Int), vs = [.ref a] ∧ SqL K H a (vi ns) ∧ GR.Ring ns ∧ Q .non H
theorem ok_asked (T : Txt K mg) : FnOk P w K mg base CX0 1 T.f_asked T.d_asked ["ring"] (sp_asked K) := by
  refine T.F_asked.ok sc_asked (fun vs H Q E h => ?_) (fun cdv A outer s H vs Q E hr h => ?_)
  · obtain ⟨a, ns, rfl, _⟩ := h
    rfl
  · obtain ⟨a, ns, rfl, hS, R, q⟩ := h
    refine ⟨_, pss_cons (ps_if (PW.pt (pw_or (pt_cmpR op_lt (pe_callB call_len_seq (by rfl) T.z_len bt_len (pa_cons (pv 0) pa_nil)) (pe_num T.c_FEWEST) (nomark _))
        (pw_or1 (pt_cmpR op_gt (pe_callB call_len_seq (by rfl) T.z_len bt_len (pa_cons (pv 0) pa_nil)) (pe_num T.c_MOST) (nomark _))))) pss_never pss_nil)
      (pss_one (ps_for PassesOwn.never rfl (pi_list (pv 0)) (pg_name (i := 1) sc_asked.nd rfl (.inl rfl))
        (pss_one (ps_if (PW.pt (pw_or (pt_cmpR op_lt (pv 1) pe_int (nomark _)) (pw_or1 (pt_cmpR op_gt (pv 1) (pe_num T.c_GREATEST) (nomark _))))) pss_never pss_nil)))), ?_⟩
    have h3 := R.lo
    have h16 := R.hi
    refine ⟨_, rfl, a, _, rfl, .inl hS, _, _, rfl, rfl, _, rfl, ifN (by rw [vi_len]; omega) ?_⟩
    refine ⟨_, rfl, a, _, rfl, .inl hS, _, _, rfl, rfl, _, rfl, ifN (by rw [vi_len]; omega) ?_⟩
    refine ⟨_, rfl, a, rfl, ⟨_, hS⟩, for_list (K := K) (a := a) (xs := vi ns) (fun i σ H' => ∃ v, σ = [some (.ref a), v] ∧ H' = H) ⟨none, rfl, rfl⟩ (fun i σ H' _ ⟨_, _, e⟩ => e ▸ hS) ?_ ?_⟩
    · rintro i x σ H' hi ⟨v, rfl, rfl⟩
      obtain ⟨z, hz, rfl⟩ := vi_at hi
      have b := R.bd z (List.mem_of_getElem? hz)
      refine ⟨_, rfl, _, _, rfl, rfl, _, rfl, ifN (by omega) ?_⟩
      exact ⟨_, rfl, _, _, rfl, rfl, _, rfl, ifN (by omega) ⟨_, rfl, rfl⟩⟩
    · rintro σ H' ⟨v, rfl, rfl⟩
      exact q
/-! ### asked: what it refuses -/
def sp_bad (T : Txt K mg) : Sp := fun vs H Q E => ∃ (a : Addr) (ns : List Int), vs = [.ref a] ∧ SqL K H a (vi ns) ∧ ¬ GR.Ring ns ∧ E (.ref T.e_NoRing) none H
def sp_bad2 (T : Txt K mg) : Sp := fun vs H Q E => ∃ (a : Addr) (ns : List Int) (y : V), vs = [.ref a, y] ∧ SqL K H a (vi ns) ∧ ¬ GR.Ring ns ∧ E (.ref T.e_NoRing) none H
theorem bad_asked (T : Txt K mg) : FnOk P w K mg base (L2.CX P w) 1 T.f_asked T.d_asked ["ring"] (sp_bad T) := by
  refine T.F_asked.okX sc_asked (fun vs H Q E h => ?_) (fun cdv A outer s H vs Q E hr h => ?_)
  · obtain ⟨a, ns, rfl, _⟩ := h
    rfl
  · obtain ⟨a, ns, rfl, hS, hno, q⟩ := h
    refine ⟨_, (pss_cons (ps_if (PW.pt (pw_or (pt_cmpR op_lt (pe_callB (lenL K rfl) (by rfl) T.z_len bt_len (pa_cons (pv 0) pa_nil)) (pe_num T.c_FEWEST) (nomark _)) (pw_or1 (pt_cmpR op_gt (pe_callB (lenL K rfl) (by rfl) T.z_len bt_len (pa_cons (pv 0) pa_nil)) (pe_num T.c_MOST) (nomark _))))) (pss_one (ps_raise rfl (takes_of rfl rfl rfl rfl) (pmk_own PySem.F.excBase_ValueError T.E_NoRing.xi T.E_NoRing.g T.E_NoRing.kp (raises_own T.E_NoRing.sb T.E_NoRing.ty) rfl))) pss_nil)
      (pss_one (ps_for (passes_of rfl) rfl (pi_list (pv 0)) (pg_name (i := 1) sc_asked.nd rfl (.inl rfl)) (pss_one (ps_if (PW.pt (pw_or (pt_cmpR op_lt (pv 1) pe_int (nomark _)) (pw_or1 (pt_cmpR op_gt (pv 1) (pe_num T.c_GREATEST) (nomark _))))) (pss_one (ps_raise rfl (takes_of rfl rfl rfl rfl) (pmk_own PySem.F.excBase_ValueError T.E_NoRing.xi T.E_NoRing.g T.E_NoRing.kp (raises_own T.E_NoRing.sb T.E_NoRing.ty) rfl))) pss_nil))))), ?_⟩
    refine ⟨_, rfl, a, _, rfl, .inl hS, _, _, rfl, rfl, _, rfl, if2 (fun c => q) (fun c1 => ?_)⟩
    refine ⟨_, rfl, a, _, rfl, .inl hS, _, _, rfl, rfl, _, rfl, if2 (fun c => q) (fun c2 => ?_)⟩
    rw [vi_len] at c1 c2
    refine ⟨_, rfl, a, rfl, ⟨_, hS⟩, for_list (K := K) (a := a) (xs := vi ns) (fun i σ H' => (∃ v, σ = [some (.ref a), v] ∧ H = H') ∧ ∀ k z, k < i → ns[k]? = some z → 0 ≤ z ∧ z ≤ 1000) ⟨⟨none, rfl, rfl⟩, fun k z h => absurd h (Nat.not_lt_zero k)⟩ (fun i σ H' _ ⟨⟨_, _, e⟩, _⟩ => e ▸ hS) ?_ ?_⟩
    · rintro i x σ H' hi ⟨⟨v, rfl, rfl⟩, hb⟩
      obtain ⟨z, hz, rfl⟩ := vi_at hi
      refine ⟨_, rfl, _, _, rfl, rfl, _, rfl, if2 (fun c => q) (fun c3 => ?_)⟩
      refine ⟨_, rfl, _, _, rfl, rfl, _, rfl, if2 (fun c => q) (fun c4 => ⟨⟨_, rfl, rfl⟩, fun k y hk hy => ?_⟩)⟩
      by_cases e : k < i
      · exact hb k y e hy
      · have : k = i := by omega
        subst this
        rw [hz] at hy
        cases hy
        omega
    · rintro σ H' ⟨⟨v, rfl, rfl⟩, hb⟩
      refine absurd ⟨by omega, by omega, fun z hz => ?_⟩ hno
      obtain ⟨k, hk, e⟩ := List.mem_iff_getElem.mp hz
      exact hb k z (by rw [vi_len]; exact hk) (by rw [List.getElem?_eq_getElem hk, e])
def both_asked (T : Txt K mg) := fn_or (n := 1) (ok_asked (P := P) (w := w) (base := base) T) (bad_asked T) (by decide) (by decide)
/-! ### number_of, of a number's text -/
open TL
theorem small_line {n : Nat} (h : n ≤ 640) : n ≤ sizeLine := line_le (by omega)
def sp_number_of : Sp := fun vs H Q _ => ∃ n : Nat, vs = [.str (sI (n : Int))] ∧ n ≤ 9999 ∧ Q (.int n) H
theorem ok_number_of (T : Txt K mg) : FnOk P w K mg base CX0 1 T.f_number_of T.d_number_of ["word"] sp_number_of := by
  refine T.F_number_of.ok sc_number_of (fun vs H Q E h => ?_) (fun cdv A outer s H vs Q E hr h => ?_)
  · obtain ⟨n, rfl, _⟩ := h
    rfl
  · obtain ⟨n, rfl, hn, q⟩ := h
    have h1 := numL_pos n
    have h4 := numL_4 hn
    have hl : (sI (n : Int)).length = (numL n).length := len_sI
    refine ⟨_, (pss_cons (ps_if (PW.pt (pw_or (pt_not (pt_chain op_le op_le pe_int (pe_callB call_len_str (by rfl) T.z_len bt_len (pa_cons (pv 0) pa_nil)) pe_int)) (pw_or1 (PW.pt (pw_and (pt_cmpR op_eq (pe_ix ix_str (pv 0) pe_int (fun _ _ => rfl)) pe_str (nomark _)) (pw_and1 (pt_cmpR op_gt (pe_callB call_len_str (by rfl) T.z_len bt_len (pa_cons (pv 0) pa_nil)) pe_int (nomark _)))))))) pss_never pss_nil)
      (pss_cons (ps_for PassesOwn.never rfl (pi_str (pv 0)) (pg_name (i := 1) sc_number_of.nd rfl (.inl rfl)) (pss_one (ps_if (pt_cmpR op_notIn_sign (pv 1) (pe_text T.c_FIGURES) (by rfl)) pss_never pss_nil)))
      (pss_one (ps_ret (pe_callTy call_int_str (by rfl) T.z_int bt_int (pa_cons (pv 0) pa_nil)))))), ?_⟩
    refine ⟨_, rfl, _, rfl, small_line (by omega), _, _, rfl, rfl, _, rfl, ?_⟩
    refine ifY (by rw [hl]; omega) ⟨_, _, rfl, rfl, _, rfl, ?_⟩
    rw [decide_eq_true (show ((sI (n : Int)).length : Int) ≤ 4 by rw [hl]; omega)]
    refine iteF ?_
    obtain ⟨c, r, ec⟩ : ∃ c r, numL n = c :: r := by
      cases e : numL n with
      | nil => exact absurd e (numL_ne n)
      | cons c r => exact ⟨c, r, rfl⟩
    have e0 : (sI (n : Int)).cps.toList[0]? = some c := by
      show (tl (sI (n : Int)))[0]? = some c
      rw [tl_sI, ec]
      rfl
    refine ⟨_, rfl, _, _, c, rfl, rfl, small_line (by omega), atI_nat (j := 0) e0, rfl, _, rfl, ?_⟩
    refine if2 (fun hz => ?_) (fun hz => iteF ?_)
    · have hc : c = 48 := (sign1 c).mp (V.str.inj hz)
      have n0 : n = 0 := by
        rcases Nat.eq_zero_or_pos n with z | z
        · exact z
        · obtain ⟨c', r', e', h49⟩ := numL_head n z
          rw [ec] at e'
          have := (List.cons.inj e').1
          omega
      have l1 : (numL n).length = 1 := by rw [n0, numL_lt (by decide)]; rfl
      refine ⟨_, rfl, _, rfl, small_line (by omega), _, _, rfl, rfl, _, rfl, ifN (by rw [hl]; omega) ?_⟩
      refine ⟨_, rfl, _, rfl, for_str (fun i σ H' => ∃ v, σ = [some (.str (sI (n : Int))), v] ∧ H = H') ⟨none, rfl, rfl⟩ ?_ ?_⟩
      · rintro i c σ H' hi ⟨v, rfl, rfl⟩
        have hm := List.mem_of_getElem? (cps_at hi)
        rw [tl_sI] at hm
        refine ⟨_, rfl, c, _, rfl, rfl, _, rfl, ifnN (in_figs.mpr (by have := numL_digits n c hm; omega)) ⟨_, rfl, rfl⟩⟩
      · rintro σ H' ⟨v, rfl, rfl⟩
        exact ⟨_, rfl, _, _, rfl, int_num (by omega), by rw [hl]; omega, q⟩
    · refine ⟨_, rfl, _, rfl, for_str (fun i σ H' => ∃ v, σ = [some (.str (sI (n : Int))), v] ∧ H = H') ⟨none, rfl, rfl⟩ ?_ ?_⟩
      · rintro i c σ H' hi ⟨v, rfl, rfl⟩
        have hm := List.mem_of_getElem? (cps_at hi)
        rw [tl_sI] at hm
        refine ⟨_, rfl, c, _, rfl, rfl, _, rfl, ifnN (in_figs.mpr (by have := numL_digits n c hm; omega)) ⟨_, rfl, rfl⟩⟩
      · rintro σ H' ⟨v, rfl, rfl⟩
        exact ⟨_, rfl, _, _, rfl, int_num (by omega), by rw [hl]; omega, q⟩
/-! ### number_of: what it refuses -/
/-- figures that write a number -/
def Fine (l : List Nat) : Prop := 1 ≤ l.length ∧ l.length ≤ 4 ∧ (l[0]? = some 48 → l.length = 1) ∧ ∀ c, c ∈ l → 48 ≤ c ∧ c ≤ 57
theorem fine_num {n : Nat} (h : n ≤ 9999) : Fine (numL n) := by
  refine ⟨numL_pos n, numL_4 h, fun e => ?_, fun c hc => by have := numL_digits n c hc; omega⟩
  rcases Nat.eq_zero_or_pos n with z | z
  · rw [z, numL_lt (by decide)]
    rfl
  · obtain ⟨c, r, e2, h49⟩ := numL_head n z
    rw [e2] at e
    have := Option.some.inj e
    omega
def sp_badn (T : Txt K mg) : Sp := fun vs H Q E => ∃ x : Str, vs = [.str x] ∧ ¬ Fine (tl x) ∧ (tl x).length ≤ 100 ∧ E (.ref T.e_NoNote) none H
theorem bad_number_of (T : Txt K mg) : FnOk P w K mg base (L2.CX P w) 1 T.f_number_of T.d_number_of ["word"] (sp_badn T) := by
  refine T.F_number_of.okX sc_number_of (fun vs H Q E h => ?_) (fun cdv A outer s H vs Q E hr h => ?_)
  · obtain ⟨x, rfl, _⟩ := h
    rfl
  · obtain ⟨x, rfl, hno, hlen, q⟩ := h
    have hl : x.length = (tl x).length := len_tl x
    refine ⟨_, (pss_cons (ps_if (PW.pt (pw_or (pt_not (pt_chain op_le op_le pe_int (pe_callB call_len_str (by rfl) T.z_len bt_len (pa_cons (pv 0) pa_nil)) pe_int)) (pw_or1 (PW.pt (pw_and (pt_cmpR op_eq (pe_ix ix_str (pv 0) pe_int (fun _ _ => rfl)) pe_str (nomark _)) (pw_and1 (pt_cmpR op_gt (pe_callB call_len_str (by rfl) T.z_len bt_len (pa_cons (pv 0) pa_nil)) pe_int (nomark _)))))))) (pss_one (ps_raise rfl (takes_of rfl rfl rfl rfl) (pmk_own PySem.F.excBase_ValueError T.E_NoNote.xi T.E_NoNote.g T.E_NoNote.kp (raises_own T.E_NoNote.sb T.E_NoNote.ty) rfl))) pss_nil)
      (pss_cons (ps_for (passes_of rfl) rfl (pi_str (pv 0)) (pg_name (i := 1) sc_number_of.nd rfl (.inl rfl)) (pss_one (ps_if (pt_cmpR op_notIn_sign (pv 1) (pe_text T.c_FIGURES) (by rfl)) (pss_one (ps_raise rfl (takes_of rfl rfl rfl rfl) (pmk_own PySem.F.excBase_ValueError T.E_NoNote.xi T.E_NoNote.g T.E_NoNote.kp (raises_own T.E_NoNote.sb T.E_NoNote.ty) rfl))) pss_nil)))
      (pss_one (ps_ret (pe_callTy call_int_str (by rfl) T.z_int bt_int (pa_cons (pv 0) pa_nil)))))), ?_⟩
    refine ⟨_, rfl, _, rfl, small_line (by omega), _, _, rfl, rfl, _, rfl, ?_⟩
    refine if2 (fun c1 => ⟨_, _, rfl, rfl, _, rfl, ?_⟩) (fun c1 => ⟨_, rfl, iteT q⟩)
    by_cases c2 : (x.length : Int) ≤ 4
    · rw [decide_eq_true c2]
      refine iteF ?_
      rw [hl] at c1 c2
      obtain ⟨c, r, ec⟩ : ∃ c r, tl x = c :: r := by
        cases e : tl x with
        | nil => rw [e] at c1; exact absurd c1 (by decide)
        | cons c r => exact ⟨c, r, rfl⟩
      have e0 : x.cps.toList[0]? = some c := by
        show (tl x)[0]? = some c
        rw [ec]
        rfl
      have last : ((tl x)[0]? = some 48 → (tl x).length = 1) → (∀ k d, k < x.cps.size → (tl x)[k]? = some d → 48 ≤ d ∧ d ≤ 57) → False := fun h0 hd => hno ⟨by omega, by omega, h0, fun d hm => by
        obtain ⟨k, hk, e⟩ := List.mem_iff_getElem.mp hm
        refine hd k d ?_ (by rw [List.getElem?_eq_getElem hk, e])
        have : x.cps.size = (tl x).length := hl
        omega⟩
      refine ⟨_, rfl, _, _, c, rfl, rfl, small_line (by omega), atI_nat (j := 0) e0, rfl, _, rfl, ?_⟩
      refine if2 (fun hz => ?_) (fun hz => iteF ?_)
      · refine ⟨_, rfl, _, rfl, small_line (by omega), _, _, rfl, rfl, _, rfl, if2 (fun c3 => q) (fun c3 => ?_)⟩
        refine ⟨_, rfl, _, rfl, for_str (fun i σ H' => (∃ v, σ = [some (.str x), v] ∧ H = H') ∧ ∀ k d, k < i → (tl x)[k]? = some d → 48 ≤ d ∧ d ≤ 57) ⟨⟨none, rfl, rfl⟩, fun k d h => absurd h (Nat.not_lt_zero k)⟩ ?_ ?_⟩
        · rintro i d σ H' hi ⟨⟨v, rfl, rfl⟩, hb⟩
          have hi' := cps_at hi
          refine ⟨_, rfl, d, _, rfl, rfl, _, rfl, ?_⟩
          by_cases hd : d ∈ tl (Str.ofString "0123456789")
          · refine ifnN hd ⟨⟨_, rfl, rfl⟩, fun k y hk hy => ?_⟩
            by_cases e : k < i
            · exact hb k y e hy
            · have : k = i := by omega
              subst this
              rw [hi'] at hy
              cases hy
              exact in_figs.mp hd
          · exact ifnY hd q
        · rintro σ H' ⟨_, hb⟩
          rw [hl] at c3
          exact (last (fun _ => by omega) hb).elim
      · refine ⟨_, rfl, _, rfl, for_str (fun i σ H' => (∃ v, σ = [some (.str x), v] ∧ H = H') ∧ ∀ k d, k < i → (tl x)[k]? = some d → 48 ≤ d ∧ d ≤ 57) ⟨⟨none, rfl, rfl⟩, fun k d h => absurd h (Nat.not_lt_zero k)⟩ ?_ ?_⟩
        · rintro i d σ H' hi ⟨⟨v, rfl, rfl⟩, hb⟩
          have hi' := cps_at hi
          refine ⟨_, rfl, d, _, rfl, rfl, _, rfl, ?_⟩
          by_cases hd : d ∈ tl (Str.ofString "0123456789")
          · refine ifnN hd ⟨⟨_, rfl, rfl⟩, fun k y hk hy => ?_⟩
            by_cases e : k < i
            · exact hb k y e hy
            · have : k = i := by omega
              subst this
              rw [hi'] at hy
              cases hy
              exact in_figs.mp hd
          · exact ifnY hd q
        · rintro σ H' ⟨_, hb⟩
          refine (last (fun e => absurd ?_ hz) hb).elim
          rw [ec] at e
          have : c = 48 := Option.some.inj e
          rw [this]
          rfl
    · rw [decide_eq_false c2]
      exact iteT q
def both_number_of (T : Txt K mg) := fn_or (n := 1) (ok_number_of (P := P) (w := w) (base := base) T) (bad_number_of T) (by decide) (by decide)
/-! ### read, and what it refuses -/
theorem blank_kind : (Str.ofString " ").cps.all (· < 256) = true := by decide +kernel
def Good (p : List Nat) : Prop := ∃ n : Nat, n ≤ 9999 ∧ p = numL n
def Bad (p : List Nat) : Prop := ¬ Fine p ∧ p.length ≤ 100
/-- a text and its parts between the blanks -/
structure Parts (t : Str) (ps : List (List Nat)) : Prop where
  len : t.length ≤ 1000
  split : (Txt.split t (Str.ofString " ")).map tl = ps
  few : ps.length ≤ 1000
def nL (ns : List Int) : List (List Nat) := ns.map fun z => numL z.toNat
def sp_read (T : Txt K mg) : Sp := fun vs H Q E => ∃ (t : Str) (ps : List (List Nat)), vs = [.str t] ∧ Parts t ps ∧
  ((∃ ns : List Int, (∀ z, z ∈ ns → 0 ≤ z ∧ z ≤ 9999) ∧ ps = nL ns ∧ (GR.Ring ns → ∀ H' p, Same H H' → Q (.ref p) H') ∧ (¬ GR.Ring ns → ∀ H', Same H H' → E (.ref T.e_NoRing) none H')) ∨
   ((∀ p, p ∈ ps → Good p ∨ Bad p) ∧ (∃ p, p ∈ ps ∧ Bad p) ∧ ∀ H', Same H H' → E (.ref T.e_NoNote) none H'))
theorem ok_read (T : Txt K mg) : FnOk P w K mg base (L2.CX P w) 2 T.f_read T.d_read ["text"] (sp_read T) := by
  refine T.F_read.okX sc_read (fun vs H Q E h => ?_) (fun cdv A outer s H vs Q E hr h => ?_)
  · obtain ⟨t, ps, rfl, _⟩ := h
    rfl
  · obtain ⟨t, ps, rfl, P0, h⟩ := h
    have tlen := P0.len
    refine ⟨_, (pss_cons (ps_setLcX (i := 1) (own := [("word", 2)]) (g := gName 2) rfl rfl (takes_of rfl rfl rfl rfl) rfl sc_read.nd rfl rfl (sw_true rfl rfl rfl (by decide +kernel)) (pi_list (pe_split (pv 0) pe_str)) (blkOk_by (own := [("word", 2)]) (N := N_read) (sc := defScope s_read) (by decide +kernel)) (fun _ _ _ _ _ => pg_name (i := 2) sc_read.nd rfl (Or.inl rfl)) (fun _ _ _ _ _ xe Ek hp => pe_callS (both_number_of T) (hr.mono (by decide)) (by rfl) T.g_number_of T.F_number_of.kp T.b_number_of hp (pa_cons (pv 2) pa_nil)))
      (pss_cons (ps_expr (pe_call (both_asked T) (hr.mono (by decide)) (by rfl) T.g_asked T.F_asked.kp T.b_asked .nil (passes_call (takes_of rfl rfl rfl rfl) fun _ _ _ _ h => h) (pa_cons (pv 1) pa_nil)))
      (pss_one (ps_ret (pv 1))))), ?_⟩
    refine ⟨_, rfl, ⟨_, rfl⟩, _, _, rfl, rfl, by decide +kernel, line_le (by omega), fun p np => ?_⟩
    have sp := Same.new (o := .lst ((Txt.split t (Str.ofString " ")).map V.str)) np
    have hp : SqL K (upd H p (.lst ((Txt.split t (Str.ofString " ")).map V.str))) p ((Txt.split t (Str.ofString " ")).map V.str) := SqL.of upd_same
    have hsl : (Txt.split t (Str.ofString " ")).length = ps.length := by rw [← P0.split, List.length_map]
    have at_ : ∀ {i : Nat} {x : V}, ((Txt.split t (Str.ofString " ")).map V.str)[i]? = some x → ∃ y, x = .str y ∧ ps[i]? = some (tl y) := fun {i x} hi => by
      rw [List.getElem?_map] at hi
      cases e : (Txt.split t (Str.ofString " "))[i]? with
      | none => rw [e] at hi; cases hi
      | some y =>
        rw [e] at hi
        refine ⟨y, (Option.some.inj hi).symm, ?_⟩
        rw [← P0.split, List.getElem?_map, e]
        rfl
    refine ⟨p, rfl, ⟨_, hp⟩, fun D nD => ?_⟩
    have few := P0.few
    rcases h with ⟨ns, hb, hps, qY, qN⟩ | ⟨hall, hex, qE⟩
    · have hnl : ps.length = ns.length := by rw [hps]; exact List.length_map _
      refine lc_intsL (a := p) (xs := (Txt.split t (Str.ofString " ")).map V.str) (fun i z => z = ns.getD i 0) hp nD (by rw [List.length_map]; omega) (fun i x H' hi sm Q' hQ => ?_) (fun H' zs hl hR sm e => ?_)
      · obtain ⟨y, rfl, hy⟩ := at_ hi
        have hil : i < ns.length := by
          have := (List.getElem?_eq_some_iff.mp hy).1
          omega
        have b := hb _ (GR.getD_mem hil)
        have ey : tl y = numL (ns.getD i 0).toNat := by
          rw [hps] at hy
          unfold nL at hy
          rw [List.getElem?_map, getD_some hil] at hy
          exact (Option.some.inj hy).symm
        have ey2 : y = sI (((ns.getD i 0).toNat : Nat) : Int) := ext_tl (by rw [ey, tl_sI])
        exact ⟨_, rfl, .inl ⟨(ns.getD i 0).toNat, by rw [ey2], by omega, hQ _ (by omega)⟩⟩
      · rw [List.length_map] at hl hR
        have ezs : zs = ns := GR.list_ext' (by omega) fun k hk => hR k (by omega)
        subst ezs
        have sm' := sp.trans sm
        by_cases R : GR.Ring zs
        · exact ⟨_, rfl, .inl ⟨D, zs, rfl, SqL.of e, R, _, rfl, qY R H' D sm'⟩⟩
        · exact ⟨_, rfl, .inr ⟨D, zs, rfl, SqL.of e, R, qN R H' sm'⟩⟩
    · refine lc_pureL (a := p) (xs := (Txt.split t (Str.ofString " ")).map V.str) (fun i y => ∃ q, ps[i]? = some q ∧ Good q) hp nD (by rw [List.length_map]; omega) (fun i x H' hi sm Q' hQ => ?_) (fun H' zs hl hR sm e => ?_)
      · obtain ⟨y, rfl, hy⟩ := at_ hi
        rcases hall _ (List.mem_of_getElem? hy) with ⟨n, hn, en⟩ | ⟨b1, b2⟩
        · have ey2 : y = sI (n : Int) := ext_tl (by rw [en, tl_sI])
          exact ⟨_, rfl, .inl ⟨n, by rw [ey2], hn, hQ _ ⟨_, hy, n, hn, en⟩⟩⟩
        · exact ⟨_, rfl, .inr ⟨y, rfl, b1, b2, qE _ (sp.trans sm)⟩⟩
      · rw [List.length_map] at hl
        obtain ⟨q, hq, hbad⟩ := hex
        obtain ⟨k, hk, ek⟩ := List.mem_iff_getElem.mp hq
        obtain ⟨q2, h1, n, hn, e2⟩ := hR k zs[k] (List.getElem?_eq_getElem (by omega))
        rw [List.getElem?_eq_getElem hk, ek] at h1
        have := Option.some.inj h1
        subst this
        exact absurd (by rw [e2]; exact fine_num hn) hbad.1
/-! ### _law_cell_at -/
def cell (ns : List Int) (k : Int) : Int := ns.getD k.toNat 0
def sp_l_cell_at (K : PySem.W.Frag) : Sp := fun vs H Q _ => ∃ (a : Addr) (ns : List Int) (k : Int), vs = [.ref a, .int k] ∧ SqL K H a (vi ns) ∧ 0 ≤ k ∧ Q (.int (cell ns k)) H
theorem ok_l_cell_at (T : Txt K mg) : FnOk P w K mg base CX0 1 T.f_l_cell_at T.d_l_cell_at ["script", "k"] (sp_l_cell_at K) := by
  refine T.F_l_cell_at.ok sc_l_cell_at (fun vs H Q E h => ?_) (fun cdv A outer s H vs Q E hr h => ?_)
  · obtain ⟨a, ns, k, rfl, _⟩ := h
    rfl
  · obtain ⟨a, ns, k, rfl, hS, hk, q⟩ := h
    refine ⟨_, pss_cons (ps_if (pt_cmpR op_lt (pv 1) (pe_callB call_len_seq (by rfl) T.z_len bt_len (pa_cons (pv 0) pa_nil)) (nomark _)) (pss_one (ps_ret (pe_ix ix_list (pv 0) (pv 1) (fun _ _ => rfl)))) pss_nil)
      (pss_one (ps_ret pe_int)), ?_⟩
    refine ⟨_, rfl, _, rfl, a, _, rfl, .inl hS, _, _, rfl, rfl, _, rfl, if2 (fun c => ?_) (fun c => ?_)⟩
    · rw [vi_len] at c
      have h1 : k.toNat < ns.length := by omega
      exact ⟨_, rfl, _, rfl, a, _, _, _, rfl, rfl, hS, atI_of (j := k.toNat) (by omega) (vi_nth h1), q⟩
    · rw [vi_len] at c
      have e : cell ns k = 0 := by
        unfold cell
        rw [List.getD_eq_getElem?_getD, List.getElem?_eq_none (by omega)]
        rfl
      rw [e] at q
      exact q
/-! ### _law_draw -/
def sp_l_draw : Sp := fun vs H Q _ => ∃ (c k b : Int), vs = [.int c, .int k, .int b] ∧ 0 < b ∧ ∀ x : Int, 0 ≤ x → x < b → Q (.int x) H
theorem ok_l_draw (T : Txt K mg) : FnOk P w K mg base CX0 1 T.f_l_draw T.d_l_draw ["cell", "k", "bound"] sp_l_draw := by
  refine T.F_l_draw.ok sc_l_draw (fun vs H Q E h => ?_) (fun cdv A outer s H vs Q E hr h => ?_)
  · obtain ⟨c, k, b, rfl, _⟩ := h
    rfl
  · obtain ⟨c, k, b, rfl, hb, q⟩ := h
    refine ⟨_, pss_cons (ps_set (i := 3) sc_l_draw.nd rfl (.inl rfl) (pe_op op_mod (pe_op op_mul (pe_op op_add (pe_op op_add (pe_op op_mod (pv 0) pe_int) (pe_op op_mul pe_int (pv 1))) pe_int) pe_int) pe_int))
      (pss_cons (ps_set (i := 3) sc_l_draw.nd rfl (.inl rfl) (pe_op op_mod (pe_op op_mul (pv 3) (pv 3)) pe_int))
      (pss_cons (ps_set (i := 3) sc_l_draw.nd rfl (.inl rfl) (pe_op op_mod (pe_op op_mul (pe_op op_add (pv 3) (pe_op op_mul pe_int (pe_op op_add (pv 1) pe_int))) pe_int) pe_int))
      (pss_one (ps_ret (pe_op op_mod (pe_op op_fdiv (pv 3) pe_int) (pv 2)))))), ?_⟩
    refine ⟨_, rfl, _, _, rfl, rfl, (by show (0 : Int) < 2147483647; decide), _, rfl, _, _, rfl, rfl, .inl ⟨by decide, by decide⟩, _, _, rfl, rfl, _, _, rfl, rfl, _, _, rfl, rfl, .inr ⟨by decide, by decide⟩, _, _, rfl, rfl, (by show (0 : Int) < 2147483647; decide), ?_⟩
    generalize hs1 : ((c % 2147483647 + 977 * k + 1) * 48271 % 2147483647 : Int) = s1
    have a1 : 0 ≤ s1 := by rw [← hs1]; exact Int.emod_nonneg _ (by decide)
    have a2 : s1 < 2147483647 := by rw [← hs1]; exact Int.emod_lt_of_pos _ (by decide)
    refine ⟨_, rfl, _, rfl, _, _, rfl, rfl, .inl ⟨by omega, by omega⟩, _, _, rfl, rfl, (by show (0 : Int) < 2147483629; decide), ?_⟩
    refine ⟨_, rfl, _, rfl, _, _, rfl, rfl, _, _, rfl, rfl, .inl ⟨by decide, by decide⟩, _, _, rfl, rfl, _, _, rfl, rfl, .inr ⟨by decide, by decide⟩, _, _, rfl, rfl, (by show (0 : Int) < 2147483647; decide), ?_⟩
    refine ⟨_, rfl, _, _, rfl, rfl, ⟨by decide, by decide⟩, _, rfl, _, _, rfl, rfl, hb, ?_⟩
    exact q _ (Int.emod_nonneg _ (by omega)) (Int.emod_lt_of_pos _ hb)
/-! ### _law_ring_by: some ring -/
theorem ring_of {zs : List Int} {n : Nat} (hl : zs.length = n) (h3 : 3 ≤ n) (h16 : n ≤ 16) (h : ∀ i, i < n → 0 ≤ zs.getD i 0 ∧ zs.getD i 0 ≤ 1000) : GR.Ring zs :=
  ⟨by omega, by omega, fun x hx => by
    obtain ⟨k, hk, e⟩ := GR.mem_getD hx
    have q := h k (by omega)
    rw [e] at q
    exact q⟩
theorem cut_to (ns : List Int) (n : Nat) : cutV (vi ns) none (some (n : Int)) = vi (ns.take n) := by
  unfold cutV
  rw [show HT.sIx (vi ns).length (vi ns).length (some (n : Int)) = min n (vi ns).length from HT.sIx_nat _ _ n, HT.sIx_none]
  rw [List.drop_zero, Nat.sub_zero, vi_len]
  show (List.map V.int ns).take (min n ns.length) = List.map V.int (ns.take n)
  rw [← List.map_take]
  congr 1
  rw [List.take_eq_take_iff]
  omega
theorem cut_from (ns : List Int) (n : Nat) : cutV (vi ns) (some (n : Int)) none = vi (ns.drop n) := by
  unfold cutV
  rw [show HT.sIx (vi ns).length 0 (some (n : Int)) = min n (vi ns).length from HT.sIx_nat _ _ n, HT.sIx_none, vi_len]
  show ((List.map V.int ns).drop (min n ns.length)).take (ns.length - min n ns.length) = List.map V.int (ns.drop n)
  rw [← List.map_drop, ← List.map_take]
  congr 1
  by_cases c : n ≤ ns.length
  · rw [Nat.min_eq_left c]
    exact List.take_of_length_le (by rw [List.length_drop]; omega)
  · rw [List.drop_eq_nil_of_le (by omega), List.drop_eq_nil_of_le (by omega)]
    exact List.take_nil
def sp_l_ring_by (K : PySem.W.Frag) : Sp := fun vs H Q _ => ∃ (a : Addr) (ns : List Int) (f : Int), vs = [.ref a, .int f] ∧ SqL K H a (vi ns) ∧ 0 ≤ f ∧
  ∀ H' p rs, Same H H' → H p = none → H' p = some (.lst (vi rs)) → GR.Ring rs → Q (.ref p) H'
theorem ok_l_ring_by (T : Txt K mg) : FnOk P w K mg base CX0 2 T.f_l_ring_by T.d_l_ring_by ["script", "first"] (sp_l_ring_by K) := by
  refine T.F_l_ring_by.ok sc_l_ring_by (fun vs H Q E h => ?_) (fun cdv A outer s H vs Q E hr h => ?_)
  · obtain ⟨a, ns, f, rfl, _⟩ := h
    rfl
  · obtain ⟨a, ns, f, rfl, hS, hf, q⟩ := h
    have hrc : ∀ {X : Cx}, X.A = A.deeper (envOfC "_law_ring_by" (defScope s_l_ring_by) s.heap.objs.size T.f_l_ring_by cdv) → Room 1 X.A := fun e => e ▸ hr
    refine ⟨_, pss_cons (ps_set (i := 2) sc_l_ring_by.nd rfl (.inl rfl) (pe_call (ok_l_cell_at T) hr (by rfl) T.g_l_cell_at T.F_l_cell_at.kp T.b_l_cell_at .nil pass0 (pa_cons (pv 0) (pa_cons (pv 1) pa_nil))))
      (pss_cons (ps_set (i := 3) sc_l_ring_by.nd rfl (.inl rfl) (pe_op op_add pe_int (pe_op op_mod (pv 2) pe_int)))
      (pss_cons (ps_if (pt_cmpR op_eq (pe_op op_mod (pe_op op_fdiv (pv 2) pe_int) pe_int) pe_int (nomark _))
        (pss_one (ps_ret (pe_lc (own := [("k", 6)]) (g := gName 6) (tt := tYes) rfl sc_l_ring_by.nd (pi_range1 (by rfl) T.z_range (pa_cons (pe_op op_add pe_int (pe_op op_mod (pv 2) pe_int)) pa_nil))
          (blkOk_by (own := [("k", 6)]) (N := N_l_ring_by) (sc := defScope s_l_ring_by) (by decide +kernel)) (fun _ _ _ _ _ => pg_name (i := 6) sc_l_ring_by.nd rfl (Or.inl rfl)) (fun _ _ _ _ _ => pts_nil)
          (fun _ _ _ _ _ => pe_call (ok_l_draw T) hr (by rfl) T.g_l_draw T.F_l_draw.kp T.b_l_draw .nil pass0 (pa_cons (pe_call (ok_l_cell_at T) hr (by rfl) T.g_l_cell_at T.F_l_cell_at.kp T.b_l_cell_at .nil pass0 (pa_cons (pv 0) (pa_cons (pe_op op_add (pv 1) pe_int) pa_nil))) (pa_cons (pv 6) (pa_cons pe_int pa_nil))))))) pss_nil)
      (pss_cons (ps_if (pt_cmpR op_eq (pe_op op_mod (pe_op op_fdiv (pv 2) pe_int) pe_int) pe_int (nomark _))
        (pss_one (ps_ret (pe_lc (own := [("k", 6)]) (g := gName 6) (tt := tYes) rfl sc_l_ring_by.nd (pi_range1 (by rfl) T.z_range (pa_cons (pe_op op_add pe_int (pe_op op_mod (pv 2) pe_int)) pa_nil))
          (blkOk_by (own := [("k", 6)]) (N := N_l_ring_by) (sc := defScope s_l_ring_by) (by decide +kernel)) (fun _ _ _ _ _ => pg_name (i := 6) sc_l_ring_by.nd rfl (Or.inl rfl)) (fun _ _ _ _ _ => pts_nil)
          (fun _ _ _ _ _ => pe_op op_mod (pe_call (ok_l_cell_at T) hr (by rfl) T.g_l_cell_at T.F_l_cell_at.kp T.b_l_cell_at .nil pass0 (pa_cons (pv 0) (pa_cons (pe_op op_add (pe_op op_add (pv 1) pe_int) (pv 6)) pa_nil))) pe_int)))) pss_nil)
      (pss_cons (ps_set (i := 4) sc_l_ring_by.nd rfl (.inr rfl) (pe_ix ix_list (pe_lst (pa_cons pe_int (pa_cons pe_int (pa_cons pe_int (pa_cons pe_int (pa_cons pe_int pa_nil)))))) (pe_op op_mod (pe_op op_fdiv (pv 2) pe_int) pe_int) (fun _ _ => rfl)))
      (pss_cons (ps_setLc (i := 5) (own := [("k", 6)]) (g := gName 6) (tt := tYes) rfl sc_l_ring_by.nd rfl rfl (sw_true rfl rfl rfl (by decide +kernel)) (pi_range1 (by rfl) T.z_range (pa_cons (pv 3) pa_nil))
          (blkOk_by (own := [("k", 6)]) (N := N_l_ring_by) (sc := defScope s_l_ring_by) (by decide +kernel)) (fun _ _ _ _ _ => pg_name (i := 6) sc_l_ring_by.nd rfl (Or.inl rfl)) (fun _ _ _ _ _ => pts_nil)
          (fun _ _ _ _ _ => pe_call (ok_l_draw T) hr (by rfl) T.g_l_draw T.F_l_draw.kp T.b_l_draw .nil pass0 (pa_cons (pe_call (ok_l_cell_at T) hr (by rfl) T.g_l_cell_at T.F_l_cell_at.kp T.b_l_cell_at .nil pass0 (pa_cons (pv 0) (pa_cons (pe_op op_add (pv 1) pe_int) pa_nil))) (pa_cons (pv 6) (pa_cons (pv 4) pa_nil)))))
      (pss_cons (ps_if (pt_cmpR op_eq (pv 4) pe_int (nomark _))
        (pss_one (ps_setLc (i := 5) (own := [("number", 7)]) (g := gName 7) (tt := tYes) rfl sc_l_ring_by.nd rfl rfl (sw_true rfl rfl rfl (by decide +kernel)) (pi_list (pv 5))
          (blkOk_by (own := [("number", 7)]) (N := N_l_ring_by) (sc := defScope s_l_ring_by) (by decide +kernel)) (fun _ _ _ _ _ => pg_name (i := 7) sc_l_ring_by.nd rfl (Or.inl rfl)) (fun _ _ _ _ _ => pts_nil)
          (fun _ _ _ _ _ => pe_op op_mul (pv 7) (pe_op op_mod (pv 7) pe_int)))) pss_nil)
      (pss_cons (ps_if (pt_cmpR op_eq (pe_op op_mod (pe_op op_fdiv (pv 2) pe_int) pe_int) pe_int (nomark _))
        (pss_one (ps_ret (pe_op op_cat (pe_slice sl_list (pv 5) po_none (po_some pe_int)) (pe_slice sl_list (pv 5) po_none (po_some pe_int))))) pss_nil)
      (pss_one (ps_ret (pv 5)))))))))), ?_⟩
    refine ⟨_, rfl, _, rfl, a, ns, f, rfl, hS, hf, ?_⟩
    generalize cell ns f = c
    refine ⟨_, rfl, _, _, rfl, rfl, (by show (0 : Int) < 14; decide), _, _, rfl, rfl, ?_⟩
    have z14 := Int.emod_nonneg c (b := 14) (by decide)
    have y14 := Int.emod_lt_of_pos c (b := 14) (by decide)
    have z3 := Int.emod_nonneg c (b := 3) (by decide)
    have y3 := Int.emod_lt_of_pos c (b := 3) (by decide)
    have z5 := Int.emod_nonneg c (b := 5) (by decide)
    have y5 := Int.emod_lt_of_pos c (b := 5) (by decide)
    refine ⟨_, rfl, _, _, rfl, rfl, ⟨by decide, by decide⟩, _, _, rfl, rfl, (by show (0 : Int) < 4; decide), rfl, _, rfl, if2 (fun _ => ?_) (fun _ => ?_)⟩
    · refine ⟨_, rfl, _, _, rfl, rfl, (by show (0 : Int) < 3; decide), _, _, rfl, rfl, _, rfl, by omega, by omega, fun D nD => ?_⟩
      refine lc_ints (fun i z => 0 ≤ z ∧ z ≤ 1000) nD (by omega) (fun i H' hi sm Q' hQ => ?_) (fun H' zs hl hR sm e => ?_)
      · refine ⟨_, rfl, _, rfl, _, _, rfl, rfl, a, ns, f + 1, rfl, sm.seq hS, by omega, _, rfl, _, _, _, rfl, by decide, fun x h0 h1 => hQ x ⟨h0, by omega⟩⟩
      · exact q H' D zs sm nD e (ring_of hl (by omega) (by omega) hR)
    refine ⟨_, rfl, _, _, rfl, rfl, ⟨by decide, by decide⟩, _, _, rfl, rfl, (by show (0 : Int) < 4; decide), rfl, _, rfl, if2 (fun _ => ?_) (fun _ => ?_)⟩
    · refine ⟨_, rfl, _, _, rfl, rfl, (by show (0 : Int) < 5; decide), _, _, rfl, rfl, _, rfl, by omega, by omega, fun D nD => ?_⟩
      refine lc_ints (fun i z => 0 ≤ z ∧ z ≤ 1000) nD (by omega) (fun i H' hi sm Q' hQ => ?_) (fun H' zs hl hR sm e => ?_)
      · refine ⟨_, rfl, _, rfl, _, _, rfl, rfl, _, rfl, _, _, rfl, rfl, a, ns, f + 10 + (0 + i), rfl, sm.seq hS, by omega, _, _, rfl, rfl, (by show (0 : Int) < 1001; decide), hQ _ ?_⟩
        have z1 := Int.emod_nonneg (cell ns (f + 10 + (0 + i))) (b := 1001) (by decide)
        have y1 := Int.emod_lt_of_pos (cell ns (f + 10 + (0 + i))) (b := 1001) (by decide)
        exact ⟨z1, by omega⟩
      · exact q H' D zs sm nD e (ring_of hl (by omega) (by omega) hR)
    refine ⟨by decide, fun B nB => ?_⟩
    have zb := Int.emod_nonneg (c / 14) (b := 5) (by decide)
    have yb := Int.emod_lt_of_pos (c / 14) (b := 5) (by decide)
    refine ⟨_, rfl, _, _, rfl, rfl, ⟨by decide, by decide⟩, _, _, rfl, rfl, (by show (0 : Int) < 5; decide), ?_⟩
    obtain ⟨bd, hb, b0, b1⟩ : ∃ bd : Int, ([.int 2, .int 3, .int 10, .int 41, .int 7] : List V)[(c / 14 % 5).toNat]? = some (.int bd) ∧ 0 < bd ∧ bd ≤ 41 := by
      have hc : c / 14 % 5 = 0 ∨ c / 14 % 5 = 1 ∨ c / 14 % 5 = 2 ∨ c / 14 % 5 = 3 ∨ c / 14 % 5 = 4 := by omega
      rcases hc with e | e | e | e | e <;> rw [e]
      · exact ⟨2, rfl, by decide, by decide⟩
      · exact ⟨3, rfl, by decide, by decide⟩
      · exact ⟨10, rfl, by decide, by decide⟩
      · exact ⟨41, rfl, by decide, by decide⟩
      · exact ⟨7, rfl, by decide, by decide⟩
    refine ⟨B, _, _, _, rfl, rfl, SqL.of upd_same, atI_of (j := (c / 14 % 5).toNat) (by omega) hb, ?_⟩
    have sB : Same H (upd H B (.lst [.int 2, .int 3, .int 10, .int 41, .int 7])) := Same.new nB
    refine ⟨_, rfl, _, rfl, by omega, by omega, fun D nD => ?_⟩
    have nD0 := sB.free nD
    refine lc_ints (fun i z => 0 ≤ z ∧ z ≤ 40) nD (by omega) (fun i H' hi sm Q' hQ => ?_) (fun H1 zs hl hR sm eD => ?_)
    · exact ⟨_, rfl, _, rfl, _, _, rfl, rfl, a, ns, f + 1, rfl, sm.seq (sB.seq hS), by omega, _, rfl, _, rfl, _, _, _, rfl, b0, fun x h0 h1 => hQ x ⟨h0, by omega⟩⟩
    have s1 : Same H H1 := sB.trans sm
    -- what follows the drawing: a ring r at some place of its own
    have tail : ∀ (H2 : Hp) (p : Addr) (rs : List Int) (y6 y7 : Option V), Same H H2 → H p = none → H2 p = some (.lst (vi rs)) → GR.Ring rs →
        tSeq (tIfS (tTest (tOp rEq (tOp (rI (fun _ j => 0 < j) fun i j => .int (i % j)) (tOp (rI CDiv fun i j => .int (i / j)) (tVar 2) (tC (.int 70))) (tC (.int 4))) (tC (.int 3))))
          (tRet (tOp rCat (tSl (rSlL K) (tVar 5) tNoPart (tPart (tC (.int 8)))) (tSl (rSlL K) (tVar 5) tNoPart (tPart (tC (.int 8)))))) tNext) (tRet (tVar 5)) { nx := fun _ H' => Q .non H', rt := Q }
          [some (.ref a), some (.int f), some (.int c), some (.int (3 + c % 14)), some (.int bd), some (.ref p), y6, y7] H2 := by
      intro H2 p rs y6 y7 sm2 np ep R
      have hP : SqL K H2 p (vi rs) := SqL.of ep
      refine ⟨_, rfl, _, _, rfl, rfl, ⟨by decide, by decide⟩, _, _, rfl, rfl, (by show (0 : Int) < 4; decide), rfl, _, rfl, if2 (fun _ => ?_) (fun _ => ?_)⟩
      · refine ⟨_, rfl, _, rfl, p, _, rfl, hP, fun u nu => ?_⟩
        have su := Same.new (o := .lst (cutV (vi rs) none (some 8))) nu
        refine ⟨_, rfl, _, rfl, p, _, rfl, su.seq hP, fun v nv => ?_⟩
        have nuv : u ≠ v := new_ne nv
        have e8 : cutV (vi rs) none (some 8) = vi (rs.take 8) := cut_to rs 8
        have l3 := R.lo
        refine ⟨u, v, _, _, rfl, rfl, by rw [upd_ne nuv]; exact upd_same, upd_same, ?_, fun x nx => ?_⟩
        · rw [e8, vi_len, List.length_take]
          exact line_le (by omega)
        · have nxv : H2 x = none := (su.trans (Same.new nv)).free nx
          refine q _ x (rs.take 8 ++ rs.take 8) (((sm2.put (sm2.free nu)).put (sm2.free (su.free nv))).put (sm2.free nxv)) (sm2.free nxv) ?_ ⟨?_, ?_, ?_⟩
          · rw [upd_same, e8, ← List.map_append]
          · rw [List.length_append, List.length_take]
            omega
          · rw [List.length_append, List.length_take]
            omega
          · intro z hz
            rcases List.mem_append.mp hz with h | h
            · exact R.bd z (List.mem_of_mem_take h)
            · exact R.bd z (List.mem_of_mem_take h)
      · exact ⟨_, rfl, q H2 p rs sm2 np ep R⟩
    refine ⟨_, rfl, rfl, _, rfl, if2 (fun _ => ?_) (fun _ => ?_)⟩
    · -- ring = [number * (number % 3) ..]
      have hD : SqL K H1 D (vi zs) := SqL.of eD
      refine ⟨_, rfl, D, rfl, ⟨_, hD⟩, fun C nC => ?_⟩
      have lz : (vi zs).length ≤ 1000 := by rw [vi_len]; omega
      refine lc_intsL (a := D) (xs := vi zs) (fun i z => 0 ≤ z ∧ z ≤ 1000) hD nC lz (fun i x H' hi sm' Q' hQ => ?_) (fun H2 ws hl2 hR2 sm2 e2 => ?_)
      · obtain ⟨z, hz, rfl⟩ := vi_at hi
        have hi2 : i < zs.length := (List.getElem?_eq_some_iff.mp hz).1
        have b := hR i (by omega)
        rw [getD_some hi2] at hz
        have ez := Option.some.inj hz
        rw [ez] at b
        have m0 := Int.emod_nonneg z (b := 3) (by decide)
        have m1 := Int.emod_lt_of_pos z (b := 3) (by decide)
        refine ⟨_, rfl, _, rfl, _, _, rfl, rfl, (by show (0 : Int) < 3; decide), _, _, rfl, rfl, .inl ⟨by omega, by omega⟩, hQ _ ⟨Int.mul_nonneg b.1 m0, ?_⟩⟩
        exact Int.le_trans (Int.mul_le_mul b.2 (show z % 3 ≤ 2 by omega) m0 (by decide)) (by decide)
      · rw [vi_len] at hl2 hR2
        exact tail H2 C ws _ _ (s1.trans sm2) (s1.free nC) e2 (ring_of hl2 (by omega) (by omega) hR2)
    · exact tail H1 D zs _ _ s1 nD0 eD (ring_of hl (by omega) (by omega) fun i hi => by have := hR i hi; omega)
/-! ### _law_word_of: which of the five it is -/
structure Kits (T : Txt K mg) (D : Addr) (j : Nat) : Prop where
  ex : ExcC K D
  k0 : PySem.W.kitOne K (.ref D) (.ref T.e_NoRing) = some (decide (j = 0))
  k1 : PySem.W.kitOne K (.ref D) (.ref T.e_NoSize) = some (decide (j = 1))
  k2 : PySem.W.kitOne K (.ref D) (.ref T.e_Unlike) = some (decide (j = 2))
  k3 : PySem.W.kitOne K (.ref D) (.ref T.e_NoBits) = some (decide (j = 3))
  k4 : PySem.W.kitOne K (.ref D) (.ref T.e_NoNote) = some (decide (j = 4))
  kv : PySem.W.kitOne K (.ref D) (.type "ValueError") = some true
  kr : PySem.W.exmOne K (.ref D) (.ref T.e_RingError) = some true
theorem kits_NoRing (T : Txt K mg) : Kits T T.e_NoRing 0 := ⟨T.E_NoRing.ex, kit_sub T.E_NoRing.ss T.E_NoRing.ic T.E_NoRing.ty T.E_NoRing.ss, kit_sub T.E_NoRing.ss T.E_NoSize.ic T.E_NoSize.ty T.S_NoRing_NoSize, kit_sub T.E_NoRing.ss T.E_Unlike.ic T.E_Unlike.ty T.S_NoRing_Unlike, kit_sub T.E_NoRing.ss T.E_NoBits.ic T.E_NoBits.ty T.S_NoRing_NoBits, kit_sub T.E_NoRing.ss T.E_NoNote.ic T.E_NoNote.ty T.S_NoRing_NoNote, kit_val T.E_NoRing.sv, PySem.W.exm_ref T.E_RingError.sb T.E_RingError.ex.hd T.E_RingError.ty T.S_NoRing_RingError⟩
theorem kits_NoNote (T : Txt K mg) : Kits T T.e_NoNote 4 := ⟨T.E_NoNote.ex, kit_sub T.E_NoNote.ss T.E_NoRing.ic T.E_NoRing.ty T.S_NoNote_NoRing, kit_sub T.E_NoNote.ss T.E_NoSize.ic T.E_NoSize.ty T.S_NoNote_NoSize, kit_sub T.E_NoNote.ss T.E_Unlike.ic T.E_Unlike.ty T.S_NoNote_Unlike, kit_sub T.E_NoNote.ss T.E_NoBits.ic T.E_NoBits.ty T.S_NoNote_NoBits, kit_sub T.E_NoNote.ss T.E_NoNote.ic T.E_NoNote.ty T.E_NoNote.ss, kit_val T.E_NoNote.sv, PySem.W.exm_ref T.E_RingError.sb T.E_RingError.ex.hd T.E_RingError.ty T.S_NoNote_RingError⟩

def word (j : Nat) : Str := (["ring", "size", "unlike", "bits", "note"] : List Str).getD j ""
theorem word_at : ∀ j : Nat, j < 5 → ([.str "ring", .str "size", .str "unlike", .str "bits", .str "note"] : List V)[j]? = some (.str (word j))
  | 0, _ => rfl
  | 1, _ => rfl
  | 2, _ => rfl
  | 3, _ => rfl
  | 4, _ => rfl
  | j + 5, h => by omega
def kindsOf (j : Nat) : List V := [.bl (decide (j = 0)), .bl (decide (j = 1)), .bl (decide (j = 2)), .bl (decide (j = 3)), .bl (decide (j = 4))]
theorem kinds_count : ∀ j : Nat, j < 5 → (kindsOf j).countP (fun z => eqV z (.bl true)) = 1
  | 0, _ => rfl
  | 1, _ => rfl
  | 2, _ => rfl
  | 3, _ => rfl
  | 4, _ => rfl
  | j + 5, h => by omega
theorem kinds_at : ∀ j : Nat, j < 5 → (kindsOf j)[j]? = some (.bl true)
  | 0, _ => rfl
  | 1, _ => rfl
  | 2, _ => rfl
  | 3, _ => rfl
  | 4, _ => rfl
  | j + 5, h => by omega
theorem kinds_before : ∀ (j m : Nat) (z : V), j < 5 → m < j → (kindsOf j)[m]? = some z → eqV z (.bl true) = false
  | 1, 0, _, _, _, e => by cases e; rfl
  | 2, 0, _, _, _, e => by cases e; rfl
  | 2, 1, _, _, _, e => by cases e; rfl
  | 3, 0, _, _, _, e => by cases e; rfl
  | 3, 1, _, _, _, e => by cases e; rfl
  | 3, 2, _, _, _, e => by cases e; rfl
  | 4, 0, _, _, _, e => by cases e; rfl
  | 4, 1, _, _, _, e => by cases e; rfl
  | 4, 2, _, _, _, e => by cases e; rfl
  | 4, 3, _, _, _, e => by cases e; rfl
  | 0, m, _, _, h, _ => by omega
  | 1, m + 1, _, _, h, _ => by omega
  | 2, m + 2, _, _, h, _ => by omega
  | 3, m + 3, _, _, h, _ => by omega
  | 4, m + 4, _, _, h, _ => by omega
  | j + 5, _, _, h, _, _ => by omega
def sp_l_word_of (T : Txt K mg) : Addr → Value → Option Addr → Sp := fun a cls d vs H Q _ => ∃ (D : Addr) (j : Nat), j < 5 ∧ cls = .ref D ∧ d = none ∧ vs = [.ref a] ∧ Kits T D j ∧ ∀ H', Same H H' → Q (.str (word j)) H'
theorem ok_l_word_of (T : Txt K mg) : FnE P w K mg base CX0 1 T.f_l_word_of T.d_l_word_of ["e"] (sp_l_word_of T) := by
  refine fun_okE T.F_l_word_of sc_l_word_of (fun a cls d vs H Q E h => ?_) (fun cdv A outer s H vs Q E a oe cls d hz hf hr h => ?_)
  · obtain ⟨D, j, _, _, _, rfl, _⟩ := h
    rfl
  · obtain ⟨D, j, hj, rfl, rfl, rfl, kt, q⟩ := h
    have ex := kt.ex
    refine ⟨_, (pss_cons (ps_set (i := 1) sc_l_word_of.nd rfl (.inl rfl) (pe_lst (pa_cons (pe_callB (call_isP List.mem_cons_self ex hz hf) (by rfl) T.z_isinstance bt_isinstance (pa_cons (pv 0) (pa_cons (pe_own T.E_NoRing) pa_nil))) (pa_cons (pe_callB (call_isP List.mem_cons_self ex hz hf) (by rfl) T.z_isinstance bt_isinstance (pa_cons (pv 0) (pa_cons (pe_own T.E_NoSize) pa_nil))) (pa_cons (pe_callB (call_isP List.mem_cons_self ex hz hf) (by rfl) T.z_isinstance bt_isinstance (pa_cons (pv 0) (pa_cons (pe_own T.E_Unlike) pa_nil))) pa_nil)))))
      (pss_cons (ps_set (i := 1) sc_l_word_of.nd rfl (.inl rfl) (pe_op op_cat (pv 1) (pe_lst (pa_cons (pe_callB (call_isP List.mem_cons_self ex hz hf) (by rfl) T.z_isinstance bt_isinstance (pa_cons (pv 0) (pa_cons (pe_own T.E_NoBits) pa_nil))) (pa_cons (pe_callB (call_isP List.mem_cons_self ex hz hf) (by rfl) T.z_isinstance bt_isinstance (pa_cons (pv 0) (pa_cons (pe_own T.E_NoNote) pa_nil))) pa_nil)))))
      (pss_cons (ps_if (PW.pt (pw_or (pt_cmpR op_ne (pe_bm PySem.F.plainAttrs_list PySem.F.slot_list_count PySem.F.type_list_count mt_lcountF (pv 1) (pa_cons pe_bl pa_nil)) pe_int (nomark _)) (pw_or1 (pt_not (pt_val (pe_callB (call_isP List.mem_cons_self ex hz hf) (by rfl) T.z_isinstance bt_isinstance (pa_cons (pv 0) (pa_cons (pe_cls T.z_ValueError bt_ValueError) pa_nil)))))))) (pss_one (ps_ret pe_str)) pss_nil)
      (pss_one (ps_ret (pe_ix (ixL K rfl) (pe_lst (pa_cons pe_str (pa_cons pe_str (pa_cons pe_str (pa_cons pe_str (pa_cons pe_str pa_nil)))))) (pe_bm PySem.F.plainAttrs_list PySem.F.slot_list_index PySem.F.type_list_index mt_index (pv 1) (pa_cons pe_bl pa_nil)) (fun _ _ => rfl))))))), ?_⟩
    refine ⟨_, rfl, _, _, _, rfl, fun _ r => r, kt.k0, _, rfl, _, _, _, rfl, fun _ r => r, kt.k1, _, rfl, _, _, _, rfl, fun _ r => r, kt.k2, by show 3 ≤ sizeLine; decide, fun p np => ?_⟩
    have sp := Same.new (o := .lst [.bl (decide (j = 0)), .bl (decide (j = 1)), .bl (decide (j = 2))]) np
    refine ⟨_, rfl, _, rfl, _, _, _, rfl, fun _ r => r, kt.k3, _, rfl, _, _, _, rfl, fun _ r => r, kt.k4, by show 2 ≤ sizeLine; decide, fun p2 np2 => ?_⟩
    have sp2 := Same.new (o := .lst [.bl (decide (j = 3)), .bl (decide (j = 4))]) np2
    refine ⟨p, p2, _, _, rfl, rfl, sp2 _ _ upd_same, upd_same, by show 5 ≤ sizeLine; decide, fun x nx => ?_⟩
    have ex : upd (upd (upd H p (.lst [.bl (decide (j = 0)), .bl (decide (j = 1)), .bl (decide (j = 2))])) p2 (.lst [.bl (decide (j = 3)), .bl (decide (j = 4))])) x (.lst (kindsOf j)) x = some (.lst (kindsOf j)) := upd_same
    have sx := (sp.trans sp2).trans (Same.new (o := .lst (kindsOf j)) nx)
    refine ⟨_, rfl, .inl ⟨rfl, _, SqL.of ex⟩, x, kindsOf j, .bl true, rfl, rfl, SqL.of ex, rfl, rfl, ?_⟩
    rw [kinds_count j hj]
    refine ⟨rfl, _, rfl, ifnN rfl ?_⟩
    refine ⟨_, rfl, _, _, _, rfl, fun _ r => r, kt.kv, _, rfl, iteF ?_⟩
    refine ⟨by show 5 ≤ sizeLine; decide, fun ws nws => ?_⟩
    have sw := Same.new (o := .lst [.str "ring", .str "size", .str "unlike", .str "bits", .str "note"]) nws
    refine ⟨_, rfl, .inl ⟨rfl, _, SqL.of (sw _ _ ex)⟩, x, kindsOf j, .bl true, j, .bl true, rfl, rfl, SqL.of (sw _ _ ex), rfl, rfl, kinds_at j hj, rfl, fun m z hm hz => kinds_before j m z hj hm hz, ?_⟩
    exact ⟨ws, _, _, _, rfl, rfl, SqL.of upd_same, atI_of (j := j) (by omega) (word_at j hj), q _ (sx.trans sw)⟩
/-! ### _law_tried -/
def sp_l_tried : Sp := fun vs H Q _ => ∃ (t : Str) (ps : List (List Nat)), vs = [.str t] ∧ Parts t ps ∧
  ((∃ ns : List Int, (∀ z, z ∈ ns → 0 ≤ z ∧ z ≤ 9999) ∧ ps = nL ns ∧ ∀ H' w, Same H H' → (GR.Ring ns → w = "done") → (¬ GR.Ring ns → w = "ring") → Q (.str w) H') ∨
   ((∀ p, p ∈ ps → Good p ∨ Bad p) ∧ (∃ p, p ∈ ps ∧ Bad p) ∧ ∀ H', Same H H' → Q (.str "note") H'))
theorem ok_l_tried (T : Txt K mg) : FnOk P w K mg base CX0 3 T.f_l_tried T.d_l_tried ["text"] sp_l_tried := by
  refine T.F_l_tried.ok sc_l_tried (fun vs H Q E h => ?_) (fun cdv A outer s H vs Q E hr h => ?_)
  · obtain ⟨t, ps, rfl, _⟩ := h
    rfl
  · obtain ⟨t, ps, rfl, P0, h⟩ := h
    refine ⟨_, (pss_cons (ps_try_as (i := 1) rfl rfl sc_l_tried.nd rfl rfl ⟨rfl, by decide, .inl T.E_RingError.g⟩ takes0 (fun W pn xe tk po => (pss_one (ps_expr (pe_callS (ok_read T) (hr.mono (by decide)) (by rfl) T.g_read T.F_read.kp T.b_read (fun σ => passAt tk σ) (pa_cons (pv 0) pa_nil))))) (fun a oe cls d pn hz hf => (pss_one (ps_ret (pe_callE List.mem_cons_self hz hf (ok_l_word_of T) (rH (hr.mono (by decide))) (by rfl) T.g_l_word_of T.F_l_word_of.kp T.b_l_word_of (pa_cons (pv 1) pa_nil))))))
      (pss_one (ps_ret pe_str))), ?_⟩
    rcases h with ⟨ns, hb, hps, q⟩ | ⟨hall, hex, q⟩
    · refine ⟨_, rfl, t, ps, rfl, P0, .inl ⟨ns, hb, hps, fun R H1 p s1 => ?_, fun R H1 s1 => ?_⟩⟩
      · exact q H1 _ s1 (fun _ => rfl) fun h => absurd R h
      · refine ⟨true, (kits_NoRing T).kr, fun _ e ne => ⟨_, rfl, _, 0, by decide, rfl, rfl, rfl, kits_NoRing T, fun H2 s2 => ?_⟩, fun z => nomatch z⟩
        exact q H2 _ (s1.trans s2) (fun h => absurd h R) fun _ => rfl
    · refine ⟨_, rfl, t, ps, rfl, P0, .inr ⟨hall, hex, fun H1 s1 => ?_⟩⟩
      refine ⟨true, (kits_NoNote T).kr, fun _ e ne => ⟨_, rfl, _, 4, by decide, rfl, rfl, rfl, kits_NoNote T, fun H2 s2 => ?_⟩, fun z => nomatch z⟩
      exact q H2 (s1.trans s2)
/-! ### _law_odd: what is no number -/
/-- a word and its parts between the blanks -/
structure Wd (x : Str) (qs : List (List Nat)) : Prop where
  tx : tl x = joinL [32] qs
  ne : qs ≠ []
  free : ∀ q, q ∈ qs → 32 ∉ q
  each : ∀ q, q ∈ qs → Good q ∨ Bad q
  few : qs.length ≤ 2
  len : (tl x).length ≤ 5
structure Odd (x : Str) : Prop where
  ex : ∃ qs, Wd x qs ∧ ∃ q, q ∈ qs ∧ Bad q
theorem wd_num {n : Nat} (h : n ≤ 9999) : Wd (sI (n : Int)) [numL n] :=
  ⟨tl_sI n, by simp, fun q hq => by rw [List.mem_singleton.mp hq]; exact numL_free (by omega), fun q hq => .inl ⟨n, h, List.mem_singleton.mp hq⟩, by simp, by rw [tl_sI]; have := numL_4 h; omega⟩
theorem odd1 {x : Str} (hf : 32 ∉ tl x) (hb : ¬ Fine (tl x)) (hl : (tl x).length ≤ 5) : Odd x :=
  ⟨[tl x], ⟨rfl, by simp, fun q hq => by rw [List.mem_singleton.mp hq]; exact hf, fun q hq => .inr (by rw [List.mem_singleton.mp hq]; exact ⟨hb, by omega⟩), by simp, hl⟩, tl x, by simp, hb, by omega⟩
theorem not_fine {l : List Nat} {c : Nat} (h : c ∈ l) (hc : c < 48 ∨ 57 < c) : ¬ Fine l := fun f => by
  have := f.2.2.2 c h
  omega
theorem bad_nil : Bad [] := ⟨fun f => absurd f.1 (by decide), by decide⟩
/-- a sign ahead of a number, or behind it -/
theorem odd_pre {n c : Nat} {s : Str} (h : n ≤ 9999) (hs : tl s = [c]) (hc : c < 48 ∨ 57 < c) (h32 : c ≠ 32) : Odd (s ++ sI (n : Int)) := by
  have e : tl (s ++ sI (n : Int)) = c :: numL n := by rw [tl_append, hs, tl_sI]; rfl
  have l4 := numL_4 h
  refine odd1 ?_ ?_ ?_
  · rw [e]
    intro hm
    rcases List.mem_cons.mp hm with z | z
    · exact h32 z.symm
    · exact numL_free (by omega) z
  · rw [e]
    exact not_fine (c := c) (by simp) hc
  · rw [e]
    simp only [List.length_cons]
    omega
theorem odd_post {n c : Nat} {s : Str} (h : n ≤ 9999) (hs : tl s = [c]) (hc : c < 48 ∨ 57 < c) (h32 : c ≠ 32) : Odd (sI (n : Int) ++ s) := by
  have e : tl (sI (n : Int) ++ s) = numL n ++ [c] := by rw [tl_append, hs, tl_sI]
  have l4 := numL_4 h
  refine odd1 ?_ ?_ ?_
  · rw [e]
    intro hm
    rcases List.mem_append.mp hm with z | z
    · exact numL_free (by omega) z
    · exact h32 (List.mem_singleton.mp z).symm
  · rw [e]
    exact not_fine (c := c) (by simp) hc
  · rw [e, List.length_append]
    simp only [List.length_cons, List.length_nil]
    omega
theorem odd_nought {n : Nat} (h : n ≤ 9999) : Odd (Str.ofString "0" ++ sI (n : Int)) := by
  have e : tl (Str.ofString "0" ++ sI (n : Int)) = 48 :: numL n := by rw [tl_append, show tl (Str.ofString "0") = [48] by decide +kernel, tl_sI]; rfl
  have l4 := numL_4 h
  have l1 := numL_pos n
  refine odd1 ?_ ?_ ?_
  · rw [e]
    intro hm
    rcases List.mem_cons.mp hm with z | z
    · omega
    · exact numL_free (by omega) z
  · rw [e]
    intro f
    have := f.2.2.1 rfl
    simp only [List.length_cons] at this
    omega
  · rw [e]
    simp only [List.length_cons]
    omega
theorem odd_blank_pre {n : Nat} (h : n ≤ 9999) : Odd (Str.ofString " " ++ sI (n : Int)) := by
  have e : tl (Str.ofString " " ++ sI (n : Int)) = 32 :: numL n := by rw [tl_append, blank1, tl_sI]; rfl
  have l4 := numL_4 h
  refine ⟨[[], numL n], ⟨e, by simp, fun q hq => ?_, fun q hq => ?_, by simp, by rw [e]; simp only [List.length_cons]; omega⟩, [], by simp, bad_nil⟩
  · rcases List.mem_cons.mp hq with z | z
    · rw [z]; simp
    · rw [List.mem_singleton.mp z]; exact numL_free (by omega)
  · rcases List.mem_cons.mp hq with z | z
    · rw [z]; exact .inr bad_nil
    · exact .inl ⟨n, h, List.mem_singleton.mp z⟩
theorem odd_blank_post {n : Nat} (h : n ≤ 9999) : Odd (sI (n : Int) ++ Str.ofString " ") := by
  have e : tl (sI (n : Int) ++ Str.ofString " ") = numL n ++ [32] := by rw [tl_append, blank1, tl_sI]
  have l4 := numL_4 h
  refine ⟨[numL n, []], ⟨e, by simp, fun q hq => ?_, fun q hq => ?_, by simp, by rw [e, List.length_append]; simp only [List.length_cons, List.length_nil]; omega⟩, [], by simp, bad_nil⟩
  · rcases List.mem_cons.mp hq with z | z
    · rw [z]; exact numL_free (by omega)
    · rw [List.mem_singleton.mp z]; simp
  · rcases List.mem_cons.mp hq with z | z
    · exact .inl ⟨n, h, z⟩
    · rw [List.mem_singleton.mp z]; exact .inr bad_nil
theorem odd_two : Odd (Str.ofString "1 \t") := by
  have e : tl (Str.ofString "1 \t") = [49, 32, 9] := by decide +kernel
  have b : Bad [9] := ⟨not_fine (c := 9) (by simp) (by omega), by decide⟩
  refine ⟨[[49], [9]], ⟨e, by simp, fun q hq => ?_, fun q hq => ?_, by simp, by rw [e]; decide⟩, [9], by simp, b⟩
  · rcases List.mem_cons.mp hq with z | z
    · rw [z]; decide
    · rw [List.mem_singleton.mp z]; decide
  · rcases List.mem_cons.mp hq with z | z
    · exact .inl ⟨1, by decide, by rw [z, numL_lt (by decide)]⟩
    · rw [List.mem_singleton.mp z]; exact .inr b
/-- a fixed text -/
theorem odd_lit {x : Str} {l : List Nat} (e : tl x = l) (hf : 32 ∉ l) (hb : ¬ Fine l) (hl : l.length ≤ 5) : Odd x := by
  subst e
  exact odd1 hf hb hl
def odds (w : Str) : List Str := ["0" ++ w, "+" ++ w, "-" ++ w, w ++ "_", "1_0", w ++ "a", w ++ ".", " " ++ w, w ++ " ", "\t" ++ w, w ++ "\t", "\n" ++ w, w ++ "\n", "", "10000", "1 \t", "1\n2", "00", "1e2", "x"]
theorem odds_ok {n : Nat} (h : n ≤ 9999) : ∀ x, x ∈ odds (sI (n : Int)) → Odd x := by
  have pre : ∀ {c : Nat} {s : Str}, tl s = [c] → (c < 48 ∨ 57 < c) → c ≠ 32 → Odd (s ++ sI (n : Int)) := fun a b c => odd_pre h a b c
  have post : ∀ {c : Nat} {s : Str}, tl s = [c] → (c < 48 ∨ 57 < c) → c ≠ 32 → Odd (sI (n : Int) ++ s) := fun a b c => odd_post h a b c
  unfold odds
  refine List.forall_mem_cons.mpr ⟨odd_nought h, List.forall_mem_cons.mpr ⟨pre (c := 43) (by decide +kernel) (by decide) (by decide), List.forall_mem_cons.mpr ⟨pre (c := 45) (by decide +kernel) (by decide) (by decide), List.forall_mem_cons.mpr ⟨post (c := 95) (by decide +kernel) (by decide) (by decide), ?_⟩⟩⟩⟩
  refine List.forall_mem_cons.mpr ⟨odd_lit (l := [49, 95, 48]) (by decide +kernel) (by decide) (not_fine (c := 95) (by simp) (by omega)) (by decide), ?_⟩
  refine List.forall_mem_cons.mpr ⟨post (c := 97) (by decide +kernel) (by decide) (by decide), List.forall_mem_cons.mpr ⟨post (c := 46) (by decide +kernel) (by decide) (by decide), List.forall_mem_cons.mpr ⟨odd_blank_pre h, List.forall_mem_cons.mpr ⟨odd_blank_post h, ?_⟩⟩⟩⟩
  refine List.forall_mem_cons.mpr ⟨pre (c := 9) (by decide +kernel) (by decide) (by decide), List.forall_mem_cons.mpr ⟨post (c := 9) (by decide +kernel) (by decide) (by decide), List.forall_mem_cons.mpr ⟨pre (c := 10) (by decide +kernel) (by decide) (by decide), List.forall_mem_cons.mpr ⟨post (c := 10) (by decide +kernel) (by decide) (by decide), ?_⟩⟩⟩⟩
  refine List.forall_mem_cons.mpr ⟨odd_lit (l := []) (by decide +kernel) (by decide) bad_nil.1 (by decide), ?_⟩
  refine List.forall_mem_cons.mpr ⟨odd_lit (l := [49, 48, 48, 48, 48]) (by decide +kernel) (by decide) (fun f => absurd f.2.1 (by decide)) (by decide), ?_⟩
  refine List.forall_mem_cons.mpr ⟨odd_two, ?_⟩
  refine List.forall_mem_cons.mpr ⟨odd_lit (l := [49, 10, 50]) (by decide +kernel) (by decide) (not_fine (c := 10) (by simp) (by omega)) (by decide), ?_⟩
  refine List.forall_mem_cons.mpr ⟨odd_lit (l := [48, 48]) (by decide +kernel) (by decide) (fun f => absurd (f.2.2.1 rfl) (by decide)) (by decide), ?_⟩
  refine List.forall_mem_cons.mpr ⟨odd_lit (l := [49, 101, 50]) (by decide +kernel) (by decide) (not_fine (c := 101) (by simp) (by omega)) (by decide), ?_⟩
  exact List.forall_mem_cons.mpr ⟨odd_lit (l := [120]) (by decide +kernel) (by decide) (not_fine (c := 120) (by simp) (by omega)) (by decide), fun x hx => absurd hx (by simp)⟩
def sp_l_odd : Sp := fun vs H Q _ => ∃ (n : Nat) (i : Int), vs = [.str (sI (n : Int)), .int i] ∧ n ≤ 9999 ∧ ∀ H' x, Same H H' → Odd x → Q (.str x) H'
theorem ok_l_odd (T : Txt K mg) : FnOk P w K mg base CX0 1 T.f_l_odd T.d_l_odd ["word", "way"] sp_l_odd := by
  refine T.F_l_odd.ok sc_l_odd (fun vs H Q E h => ?_) (fun cdv A outer s H vs Q E hr h => ?_)
  · obtain ⟨n, i, rfl, _⟩ := h
    rfl
  · obtain ⟨n, i, rfl, hn, q⟩ := h
    obtain ⟨w, hw⟩ : ∃ w : Str, w = sI (n : Int) := ⟨_, rfl⟩
    rw [← hw]
    have wl : w.length ≤ 4 := by rw [hw, len_sI]; exact numL_4 hn
    have hA : ∀ c : Str, c.length ≤ 1 → c.length + w.length ≤ sizeLine := fun c hc => line_le (by omega)
    have hB : ∀ c : Str, c.length ≤ 1 → w.length + c.length ≤ sizeLine := fun c hc => line_le (by omega)
    refine ⟨_, (pss_cons (ps_set (i := 2) sc_l_odd.nd rfl (.inl rfl) (pe_lst (pa_cons (pe_op op_add_str pe_str (pv 0)) (pa_cons (pe_op op_add_str pe_str (pv 0)) (pa_cons (pe_op op_add_str pe_str (pv 0)) (pa_cons (pe_op op_add_str (pv 0) pe_str) (pa_cons pe_str (pa_cons (pe_op op_add_str (pv 0) pe_str) (pa_cons (pe_op op_add_str (pv 0) pe_str) (pa_cons (pe_op op_add_str pe_str (pv 0)) (pa_cons (pe_op op_add_str (pv 0) pe_str) pa_nil)))))))))))
      (pss_cons (ps_set (i := 2) sc_l_odd.nd rfl (.inl rfl) (pe_op op_cat (pv 2) (pe_lst (pa_cons (pe_op op_add_str pe_str (pv 0)) (pa_cons (pe_op op_add_str (pv 0) pe_str) (pa_cons (pe_op op_add_str pe_str (pv 0)) (pa_cons (pe_op op_add_str (pv 0) pe_str) (pa_cons pe_str (pa_cons pe_str (pa_cons pe_str (pa_cons pe_str (pa_cons pe_str (pa_cons pe_str (pa_cons pe_str pa_nil))))))))))))))
      (pss_one (ps_ret (pe_ix (ixL K rfl) (pv 2) (pe_op op_mod (pv 1) pe_int) (fun _ _ => rfl)))))), ?_⟩
    refine ⟨_, rfl, _, _, rfl, rfl, hA _ (by decide +kernel), _, rfl, _, _, rfl, rfl, hA _ (by decide +kernel), _, rfl, _, _, rfl, rfl, hA _ (by decide +kernel), _, rfl, _, _, rfl, rfl, hB _ (by decide +kernel), _, rfl, _, _, rfl, rfl, hB _ (by decide +kernel), _, rfl, _, _, rfl, rfl, hB _ (by decide +kernel), _, rfl, _, _, rfl, rfl, hA _ (by decide +kernel), _, rfl, _, _, rfl, rfl, hB _ (by decide +kernel), by show 9 ≤ sizeLine; decide, fun p np => ?_⟩
    refine ⟨_, rfl, _, rfl, _, _, rfl, rfl, hA _ (by decide +kernel), _, rfl, _, _, rfl, rfl, hB _ (by decide +kernel), _, rfl, _, _, rfl, rfl, hA _ (by decide +kernel), _, rfl, _, _, rfl, rfl, hB _ (by decide +kernel), by show 11 ≤ sizeLine; decide, fun p2 np2 => ?_⟩
    have sp := Same.new (o := .lst ([.str ("0" ++ w), .str ("+" ++ w), .str ("-" ++ w), .str (w ++ "_"), .str "1_0", .str (w ++ "a"), .str (w ++ "."), .str (" " ++ w), .str (w ++ " ")])) np
    have sp2 := Same.new (o := .lst ([.str ("\t" ++ w), .str (w ++ "\t"), .str ("\n" ++ w), .str (w ++ "\n"), .str "", .str "10000", .str "1 \t", .str "1\n2", .str "00", .str "1e2", .str "x"])) np2
    refine ⟨p, p2, _, _, rfl, rfl, sp2 _ _ upd_same, upd_same, by show 20 ≤ sizeLine; decide, fun x nx => ?_⟩
    have sx := (sp.trans sp2).trans (Same.new (o := .lst ((odds w).map V.str)) nx)
    have z0 := Int.emod_nonneg i (b := 20) (by decide)
    have z1 := Int.emod_lt_of_pos i (b := 20) (by decide)
    have hj : (i % 20).toNat < (odds w).length := by show (i % 20).toNat < 20; omega
    have hx : ((odds w).map V.str)[(i % 20).toNat]? = some (.str (odds w)[(i % 20).toNat]) := by rw [List.getElem?_map, List.getElem?_eq_getElem hj]; rfl
    refine ⟨_, rfl, _, rfl, _, _, rfl, rfl, (by show (0 : Int) < 20; decide), x, (odds w).map V.str, _, _, rfl, rfl, SqL.of upd_same, atI_of (j := (i % 20).toNat) (by omega) hx, ?_⟩
    exact q _ _ sx (odds_ok hn _ (by rw [← hw]; exact List.getElem_mem hj))
/-! ### the law -/
theorem ifS_by {c : TT} {t u : TS} {D : Ends} {σ : L2.St} {H : Hp} (yes no : Prop) (hc : ∀ Q : Bool → Hp → Prop, (yes → Q true H) → (no → Q false H) → c σ H Q) (ht : yes → t D σ H) (hu : no → u D σ H) : tIfS c t u D σ H := hc _ (fun y => iteT (ht y)) (fun n => iteF (hu n))
theorem dec2 {c : Prop} [Decidable c] {Q : Bool → Prop} (h1 : c → Q true) (h2 : ¬ c → Q false) : Q (decide c) := by
  by_cases h : c
  · rw [decide_eq_true h]; exact h1 h
  · rw [decide_eq_false h]; exact h2 h
theorem ixN_of {n : Nat} {k : Int} (h0 : 0 ≤ k) (h1 : k < n) : ixN n k = some k.toNat := by
  unfold ixN
  rw [if_pos h0, if_pos h1]
theorem cutV_to (xs : List V) {i : Int} (h : 0 ≤ i) : cutV xs none (some i) = xs.take i.toNat := by
  unfold cutV
  have e : HT.sIx xs.length xs.length (some i) = min i.toNat xs.length := by
    have := HT.sIx_nat xs.length xs.length i.toNat
    rw [Int.toNat_of_nonneg h] at this
    exact this
  rw [e, HT.sIx_none, List.drop_zero, Nat.sub_zero, List.take_eq_take_iff]
  omega
theorem cutV_from (xs : List V) {i : Int} (h : 0 ≤ i) : cutV xs (some i) none = xs.drop i.toNat := by
  unfold cutV
  have e : HT.sIx xs.length 0 (some i) = min i.toNat xs.length := by
    have := HT.sIx_nat xs.length 0 i.toNat
    rw [Int.toNat_of_nonneg h] at this
    exact this
  rw [e, HT.sIx_none]
  by_cases c : i.toNat ≤ xs.length
  · rw [Nat.min_eq_left c]
    exact List.take_of_length_le (by rw [List.length_drop]; omega)
  · rw [List.drop_eq_nil_of_le (by omega), List.drop_eq_nil_of_le (by omega)]
    exact List.take_nil
def vs (us : List Int) : List V := us.map fun z => V.str (sI z)
theorem vs_len (us : List Int) : (vs us).length = us.length := List.length_map _
theorem vs_app (x y : List Int) : vs x ++ vs y = vs (x ++ y) := List.map_append.symm
theorem vs_take (x : List Int) (n : Nat) : (vs x).take n = vs (x.take n) := List.map_take.symm
theorem vs_drop (x : List Int) (n : Nat) : (vs x).drop n = vs (x.drop n) := List.map_drop.symm
theorem vs_of {ys : List V} {rs : List Int} (hl : ys.length = (vi rs).length) (h : ∀ (i : Nat) y, ys[i]? = some y → ∃ z, rs[i]? = some z ∧ y = .str (sI z)) : ys = vs rs := by
  apply List.ext_getElem?
  intro i
  by_cases c : i < ys.length
  · obtain ⟨z, e1, e2⟩ := h i ys[i] (List.getElem?_eq_getElem c)
    rw [List.getElem?_eq_getElem c, e2]
    unfold vs
    rw [List.getElem?_map, e1]
    rfl
  · rw [vi_len] at hl
    rw [List.getElem?_eq_none (by omega), List.getElem?_eq_none (by rw [vs_len]; omega)]
theorem vs_ones {ys : List V} {n : Nat} (hl : ys.length = n) (h : ∀ (i : Nat) y, ys[i]? = some y → y = .str "1") : ys = vs (List.replicate n 1) := by
  apply List.ext_getElem?
  intro i
  by_cases c : i < ys.length
  · rw [List.getElem?_eq_getElem c, h i ys[i] (List.getElem?_eq_getElem c)]
    unfold vs
    rw [List.getElem?_map, List.getElem?_replicate, if_pos (by omega)]
    rfl
  · rw [List.getElem?_eq_none (by omega), List.getElem?_eq_none (by rw [vs_len, List.length_replicate]; omega)]
theorem vs_at {us : List Int} {j : Nat} (hj : j < us.length) : (vs us)[j]? = some (.str (sI (us.getD j 0))) := by
  unfold vs
  rw [List.getElem?_map, getD_some hj]
  rfl
theorem log_ok {z : Int} (h0 : 0 ≤ z) (h1 : z ≤ 9999) : z.natAbs.log2 < 1920 := by
  have h2 : z.natAbs < 2 ^ 1920 := Nat.lt_of_le_of_lt (show z.natAbs ≤ 9999 by omega) (by decide)
  by_cases z0 : z.natAbs = 0
  · rw [z0]
    decide
  · exact (Nat.log2_lt z0).mpr h2
/-- numbers of a text that is read, a ring or none -/
structure Us (us : List Int) (d : Str) : Prop where
  bd : ∀ z, z ∈ us → 0 ≤ z ∧ z ≤ 9999
  lo : 1 ≤ us.length
  hi : us.length ≤ 30
  yes : GR.Ring us → d = "done"
  no : ¬ GR.Ring us → d = "ring"
theorem us_ring {rs : List Int} (R : GR.Ring rs) : Us rs "done" :=
  ⟨fun z hz => by have := R.bd z hz; omega, by have := R.lo; omega, by have := R.hi; omega, fun _ => rfl, fun h => absurd R h⟩
theorem us_none {us : List Int} (bd : ∀ z, z ∈ us → 0 ≤ z ∧ z ≤ 9999) (lo : 1 ≤ us.length) (hi : us.length ≤ 30) (h : ¬ GR.Ring us) : Us us "ring" := ⟨bd, lo, hi, fun R => absurd R h, fun _ => rfl⟩
/-! the words and their parts -/
def vz (zs : List (Str × List (List Nat))) : List V := zs.map fun z => V.str z.1
def plz (us : List Int) : List (Str × List (List Nat)) := us.map fun z => (sI z, [numL z.toNat])
theorem vz_plz (us : List Int) : vz (plz us) = vs us := by
  unfold vz plz vs
  rw [List.map_map]
  rfl
theorem vz_len (zs : List (Str × List (List Nat))) : (vz zs).length = zs.length := List.length_map _
structure Zs (zs : List (Str × List (List Nat))) (n : Nat) : Prop where
  all : ∀ z, z ∈ zs → Wd z.1 z.2
  len : zs.length = n
def HasBad (zs : List (Str × List (List Nat))) : Prop := ∃ z, z ∈ zs ∧ ∃ q, q ∈ z.2 ∧ Bad q
theorem zs_plz {us : List Int} (bd : ∀ z, z ∈ us → 0 ≤ z ∧ z ≤ 9999) : Zs (plz us) us.length := by
  refine ⟨fun z hz => ?_, List.length_map _⟩
  obtain ⟨u, hu, rfl⟩ := List.mem_map.mp hz
  have b := bd u hu
  have e : sI u = sI ((u.toNat : Nat) : Int) := by rw [Int.toNat_of_nonneg b.1]
  show Wd (sI u) [numL u.toNat]
  rw [e]
  exact wd_num (by omega)
theorem zs_set {zs : List (Str × List (List Nat))} {n j : Nat} {x : Str} {qs : List (List Nat)} (h : Zs zs n) (w : Wd x qs) : Zs (zs.set j (x, qs)) n :=
  ⟨fun z hz => by
    rcases List.mem_or_eq_of_mem_set hz with q | q
    · exact h.all z q
    · rw [q]; exact w, by rw [List.length_set]; exact h.len⟩
theorem bad_set {zs : List (Str × List (List Nat))} {j : Nat} {x : Str} {qs : List (List Nat)} (hj : j < zs.length) (h : ∃ q, q ∈ qs ∧ Bad q) : HasBad (zs.set j (x, qs)) :=
  ⟨(x, qs), List.mem_iff_getElem?.mpr ⟨j, List.getElem?_set_self hj⟩, h⟩
theorem vz_set (zs : List (Str × List (List Nat))) (j : Nat) (x : Str) (qs : List (List Nat)) : (vz zs).set j (.str x) = vz (zs.set j (x, qs)) := by
  unfold vz
  rw [List.map_set]
theorem joinL_append (s : Nat) : ∀ (a b : List (List Nat)), a ≠ [] → b ≠ [] → joinL [s] (a ++ b) = joinL [s] a ++ ([s] ++ joinL [s] b)
  | [], _, h, _ => absurd rfl h
  | [p], [], _, h => absurd rfl h
  | [p], q :: r, _, _ => rfl
  | p :: q :: r, b, _, hb => by
    have ih := joinL_append s (q :: r) b (by simp) hb
    show p ++ ([s] ++ joinL [s] (q :: r ++ b)) = p ++ ([s] ++ joinL [s] (q :: r)) ++ ([s] ++ joinL [s] b)
    rw [ih]
    simp only [List.append_assoc]
theorem flat_ne {zs : List (Str × List (List Nat))} (h : ∀ z, z ∈ zs → Wd z.1 z.2) (hne : zs ≠ []) : zs.flatMap (·.2) ≠ [] := by
  cases zs with
  | nil => exact absurd rfl hne
  | cons z r =>
    intro e
    rw [List.flatMap_cons] at e
    exact (h z (by simp)).ne (List.append_eq_nil_iff.mp e).1
theorem joinL_flat : ∀ zs : List (Str × List (List Nat)), (∀ z, z ∈ zs → Wd z.1 z.2) → joinL [32] (zs.map fun z => tl z.1) = joinL [32] (zs.flatMap (·.2))
  | [], _ => rfl
  | [z], h => by
    show tl z.1 = joinL [32] (List.flatMap (·.2) [z])
    rw [List.flatMap_cons, List.flatMap_nil, List.append_nil]
    exact (h z (by simp)).tx
  | z :: y :: r, h => by
    have ih := joinL_flat (y :: r) fun x hx => h x (by simp at hx ⊢; right; exact hx)
    rw [List.flatMap_cons, joinL_append 32 _ _ (h z (by simp)).ne (flat_ne (fun x hx => h x (by simp at hx ⊢; right; exact hx)) (by simp)), ← ih, ← (h z (by simp)).tx]
    rfl
theorem flat_len : ∀ zs : List (Str × List (List Nat)), (∀ z, z ∈ zs → Wd z.1 z.2) → (zs.flatMap (·.2)).length ≤ zs.length * 2
  | [], _ => Nat.zero_le _
  | z :: r, h => by
    have ih := flat_len r fun x hx => h x (by simp [hx])
    have := (h z (by simp)).few
    rw [List.flatMap_cons, List.length_append, List.length_cons]
    omega
theorem parts_of {zs : List (Str × List (List Nat))} {n : Nat} (h : Zs zs n) (lo : 1 ≤ n) (hi : n ≤ 30) : Parts (Str.join (Str.ofString " ") (zs.map (·.1))) (zs.flatMap (·.2)) := by
  have hne : zs ≠ [] := fun e => by have := h.len; rw [e] at this; simp at this; omega
  have et : tl (Str.join (Str.ofString " ") (zs.map (·.1))) = joinL [32] (zs.flatMap (·.2)) := by
    rw [tl_join, blank1, List.map_map]
    exact joinL_flat zs h.all
  have hl := flat_len zs h.all
  have hlen := h.len
  refine ⟨?_, ?_, by omega⟩
  · rw [len_tl, tl_join, blank1]
    have q := joinL_len [32] ((zs.map (·.1)).map tl) 5 fun p hp => by
      obtain ⟨x, hx, rfl⟩ := List.mem_map.mp hp
      obtain ⟨z, hz, rfl⟩ := List.mem_map.mp hx
      exact (h.all z hz).len
    rw [List.length_map, List.length_map] at q
    have e : ([32] : List Nat).length = 1 := rfl
    rw [e] at q
    omega
  · rw [split_spl _ _ (by rw [blank1]; simp) (kind_ok blank_kind), et, blank1]
    refine spl_join (flat_ne h.all hne) fun p hp => ?_
    obtain ⟨z, hz, hq⟩ := List.mem_flatMap.mp hp
    exact (h.all z hz).free p hq
theorem flat_plz (us : List Int) : (plz us).flatMap (·.2) = nL us := by
  induction us with
  | nil => rfl
  | cons u r ih =>
    show [numL u.toNat] ++ (plz r).flatMap (·.2) = numL u.toNat :: nL r
    rw [ih]
    rfl
theorem sum_le5 : ∀ (l : List Nat) (m : Nat), (∀ x ∈ l, x ≤ m) → l.sum ≤ l.length * m
  | [], _, _ => Nat.zero_le _
  | x :: r, m, h => by
    have a := h x (by simp)
    have b := sum_le5 r m fun y hy => h y (by simp [hy])
    rw [List.sum_cons, List.length_cons, Nat.succ_mul]
    omega
def sp_law (K : PySem.W.Frag) : Sp := fun vs H Q _ => ∃ (a : Addr) (ns : List Int), vs = [.ref a] ∧ SqL K H a (ns.map V.int) ∧ ns.length ≤ 63 ∧ ∀ H', Q (.bl true) H'
theorem ok_law (T : Txt K mg) : FnOk P w K mg base CX0 6 T.f_law T.d_law ["script"] (sp_law K) := by
  refine T.F_law.ok sc_law (fun vs H Q E h => ?_) (fun cdv A outer s H vs Q E hr h => ?_)
  · obtain ⟨a, ns, rfl, _⟩ := h
    rfl
  · obtain ⟨a, ns, rfl, hS, hlen, q⟩ := h
    refine ⟨_, (pss_cons (ps_set (i := 1) sc_law.nd rfl (.inl rfl) (pe_call (ok_l_ring_by T) (hr.mono (by decide)) (by rfl) T.g_l_ring_by T.F_l_ring_by.kp T.b_l_ring_by .nil pass0 (pa_cons (pv 0) (pa_cons pe_int pa_nil))))
      (pss_cons (ps_setLc (i := 2) (own := [("number", 9)]) (g := gName 9) (tt := tYes) rfl sc_law.nd rfl rfl (sw_true rfl rfl rfl (by decide +kernel)) (pi_list (pv 1)) (blkOk_by (own := [("number", 9)]) (N := N_law) (sc := defScope s_law) (by decide +kernel)) (fun _ _ _ _ _ => (pg_name (i := 9) sc_law.nd rfl (Or.inl rfl))) (fun _ _ _ _ _ => pts_nil) (fun _ _ _ _ _ => (pe_callTy call_str_int (by rfl) T.z_str bt_str (pa_cons (pv 9) pa_nil))))
      (pss_cons (ps_set (i := 3) sc_law.nd rfl (.inl rfl) (pe_op op_mod (pe_call (ok_l_cell_at T) (hr.mono (by decide)) (by rfl) T.g_l_cell_at T.F_l_cell_at.kp T.b_l_cell_at .nil pass0 (pa_cons (pv 0) (pa_cons pe_int pa_nil))) pe_int))
      (pss_cons (ps_set (i := 4) sc_law.nd rfl (.inl rfl) (pe_op op_mod (pe_call (ok_l_cell_at T) (hr.mono (by decide)) (by rfl) T.g_l_cell_at T.F_l_cell_at.kp T.b_l_cell_at .nil pass0 (pa_cons (pv 0) (pa_cons pe_int pa_nil))) (pe_callB (lenL K rfl) (by rfl) T.z_len bt_len (pa_cons (pv 2) pa_nil))))
      (pss_cons (ps_set (i := 5) sc_law.nd rfl (.inl rfl) pe_str)
      (pss_cons (ps_if (pt_cmpR op_gt (pv 3) pe_int (nomark _)) (pss_cons (ps_set (i := 6) sc_law.nd rfl (.inl rfl) (pe_op op_add pe_int (pe_op op_mod (pe_call (ok_l_cell_at T) (hr.mono (by decide)) (by rfl) T.g_l_cell_at T.F_l_cell_at.kp T.b_l_cell_at .nil pass0 (pa_cons (pv 0) (pa_cons pe_int pa_nil))) pe_int)))
      (pss_cons (ps_set (i := 7) sc_law.nd rfl (.inl rfl) (pe_lst (pa_cons (pe_op op_cat (pe_op op_cat (pe_slice sl_list (pv 2) po_none (po_some (pv 4))) (pe_lst (pa_cons (pe_callTy call_str_int (by rfl) T.z_str bt_str (pa_cons (pv 6) pa_nil)) pa_nil))) (pe_slice sl_list (pv 2) (po_some (pe_op op_add (pv 4) pe_int)) po_none)) (pa_cons (pe_slice sl_list (pv 2) po_none (po_some (pe_op op_add (pe_op op_mod (pv 4) pe_int) pe_int))) (pa_cons (pe_op op_cat (pv 2) (pe_lc (own := [("k", 10)]) (g := gName 10) (tt := tYes) rfl sc_law.nd (pi_range1 (by rfl) T.z_range (pa_cons pe_int pa_nil)) (blkOk_by (own := [("k", 10)]) (N := N_law) (sc := defScope s_law) (by decide +kernel)) (fun _ _ _ _ _ => (pg_name (i := 10) sc_law.nd rfl (Or.inl rfl))) (fun _ _ _ _ _ => pts_nil) (fun _ _ _ _ _ => pe_str))) pa_nil)))))
      (pss_cons (ps_set (i := 2) sc_law.nd rfl (.inl rfl) (pe_ix (ixL K rfl) (pe_op op_cat (pv 7) (pe_lst (pa_cons (pv 2) pa_nil))) (pe_op op_sub (pv 3) pe_int) (fun _ _ => rfl)))
      (pss_one (ps_set (i := 5) sc_law.nd rfl (.inl rfl) (pe_ix (ixL K rfl) (pe_lst (pa_cons pe_str (pa_cons pe_str (pa_cons pe_str (pa_cons pe_str pa_nil))))) (pe_op op_sub (pv 3) pe_int) (fun _ _ => rfl))))))) pss_nil)
      (pss_cons (ps_set (i := 8) sc_law.nd rfl (.inl rfl) (pe_callTy (listL K rfl) (by rfl) T.z_list bt_list (pa_cons (pv 2) pa_nil)))
      (pss_cons (ps_if (PW.pt (pw_or (pt_cmpR op_eq (pv 3) pe_int (nomark _)) (pw_or (pt_cmpR op_eq (pv 3) pe_int (nomark _)) (pw_or1 (pt_cmpR op_eq (pe_op op_mod (pe_call (ok_l_cell_at T) (hr.mono (by decide)) (by rfl) T.g_l_cell_at T.F_l_cell_at.kp T.b_l_cell_at .nil pass0 (pa_cons (pv 0) (pa_cons pe_int pa_nil))) pe_int) pe_int (nomark _)))))) (pss_cons (ps_set (i := 4) sc_law.nd rfl (.inl rfl) (pe_op op_mod (pe_call (ok_l_cell_at T) (hr.mono (by decide)) (by rfl) T.g_l_cell_at T.F_l_cell_at.kp T.b_l_cell_at .nil pass0 (pa_cons (pv 0) (pa_cons pe_int pa_nil))) (pe_callB (lenL K rfl) (by rfl) T.z_len bt_len (pa_cons (pv 2) pa_nil))))
      (pss_cons (ps_asg (pe_call (ok_l_odd T) (hr.mono (by decide)) (by rfl) T.g_l_odd T.F_l_odd.kp T.b_l_odd .nil pass0 (pa_cons (pe_ix (ixL K rfl) (pv 8) (pv 4) (fun _ _ => rfl)) (pa_cons (pe_call (ok_l_cell_at T) (hr.mono (by decide)) (by rfl) T.g_l_cell_at T.F_l_cell_at.kp T.b_l_cell_at .nil pass0 (pa_cons (pv 0) (pa_cons pe_int pa_nil))) pa_nil))) (pg_sub (pv 2) (pv 4) set_list))
      (pss_one (ps_set (i := 5) sc_law.nd rfl (.inl rfl) pe_str)))) pss_nil)
      (pss_cons (ps_if (pt_cmpR op_eq (pv 3) pe_int (nomark _)) (pss_cons (ps_set (i := 4) sc_law.nd rfl (.inl rfl) (pe_op op_mod (pe_call (ok_l_cell_at T) (hr.mono (by decide)) (by rfl) T.g_l_cell_at T.F_l_cell_at.kp T.b_l_cell_at .nil pass0 (pa_cons (pv 0) (pa_cons pe_int pa_nil))) (pe_callB (lenL K rfl) (by rfl) T.z_len bt_len (pa_cons (pv 2) pa_nil))))
      (pss_one (ps_asg (pe_call (ok_l_odd T) (hr.mono (by decide)) (by rfl) T.g_l_odd T.F_l_odd.kp T.b_l_odd .nil pass0 (pa_cons (pe_ix (ixL K rfl) (pv 8) (pv 4) (fun _ _ => rfl)) (pa_cons (pe_call (ok_l_cell_at T) (hr.mono (by decide)) (by rfl) T.g_l_cell_at T.F_l_cell_at.kp T.b_l_cell_at .nil pass0 (pa_cons (pv 0) (pa_cons pe_int pa_nil))) pa_nil))) (pg_sub (pv 2) (pv 4) set_list)))) pss_nil)
      (pss_one (ps_ret (pe_cmpR op_eq (pe_call (ok_l_tried T) (hr.mono (by decide)) (by rfl) T.g_l_tried T.F_l_tried.kp T.b_l_tried .nil pass0 (pa_cons (pe_join pe_str (pv 2)) pa_nil)) (pv 5) (nomark _))))))))))))), ?_⟩
    refine ⟨_, rfl, a, ns, 0, rfl, hS, by decide, fun H1 r rs s1 nr er R => ?_⟩
    have R3 := R.lo
    have R16 := R.hi
    have hS1 := s1.seq hS
    -- words
    refine ⟨_, rfl, r, rfl, ⟨_, SqL.of er⟩, fun D nD => ?_⟩
    refine lc_pureL (a := r) (xs := vi rs) (fun i y => ∃ z, rs[i]? = some z ∧ y = .str (sI z)) (SqL.of er) nD (by rw [vi_len]; omega) (fun i x H' hi sm Q' hQ => ?_) (fun H2 ys hl hR s2 eD => ?_)
    · obtain ⟨z, hz, rfl⟩ := vi_at hi
      have b := R.bd z (List.mem_of_getElem? hz)
      exact ⟨_, rfl, _, rfl, log_ok (by omega) (by omega), hQ _ ⟨z, hz, rfl⟩⟩
    rw [vs_of hl hR] at eD
    have hS2 := s2.seq hS1
    -- way, at
    refine ⟨_, rfl, a, ns, 2, rfl, hS2, by decide, _, _, rfl, rfl, (by show (0 : Int) < 7; decide), ?_⟩
    have w0 := Int.emod_nonneg (cell ns 2) (b := 7) (by decide)
    have w1 := Int.emod_lt_of_pos (cell ns 2) (b := 7) (by decide)
    have hl0 : (0 : Int) < ((vs rs).length : Int) := by rw [vs_len]; omega
    refine ⟨_, rfl, a, ns, 3, rfl, hS2, by decide, _, rfl, D, _, rfl, .inl (SqL.of eD), _, _, rfl, rfl, hl0, ?_⟩
    have t0 := Int.emod_nonneg (cell ns 3) (b := ((vs rs).length : Int)) (by omega)
    have t1 := Int.emod_lt_of_pos (cell ns 3) hl0
    dsimp only [gName, List.set]
    generalize cell ns 2 % 7 = way at w0 w1 ⊢
    generalize cell ns 3 % ((vs rs).length : Int) = at_ at t0 t1 ⊢
    rw [vs_len] at t1
    refine cut (fun σ' H' => σ' = [some (.ref a), some (.ref r), some (.ref D), some (.int way), some (.int at_), some (.str "done"), none, none, none, none, none] ∧ H2 = H') (fun N hN => hN _ _ ⟨rfl, rfl⟩) ?_
    rintro σ' H' ⟨rfl, rfl⟩
    refine cut (fun σ' H' => ∃ (wp : Addr) (us : List Int) (d : Str) (g6 g7 g10 : Option V), σ' = [some (.ref a), some (.ref r), some (.ref wp), some (.int way), some (.int at_), some (.str d), g6, g7, none, none, g10] ∧ Same H1 H' ∧ H1 wp = none ∧ H' wp = some (.lst (vs us)) ∧ Us us d) (fun N hN => ?_) ?_
    · refine ⟨_, rfl, _, _, rfl, rfl, _, rfl, if2 (fun c => ?_) (fun c => ?_)⟩
      · -- great
        refine ⟨_, rfl, a, ns, 4, rfl, hS2, by decide, _, _, rfl, rfl, (by show (0 : Int) < 8999; decide), _, _, rfl, rfl, ?_⟩
        have g0 := Int.emod_nonneg (cell ns 4) (b := 8999) (by decide)
        have g1 := Int.emod_lt_of_pos (cell ns 4) (b := 8999) (by decide)
        obtain ⟨great, hg⟩ : ∃ g : Int, g = 1001 + cell ns 4 % 8999 := ⟨_, rfl⟩
        dsimp only [gName, List.set]
        rw [← hg]
        have hg1 : 1000 < great := by omega
        have hg2 : great ≤ 9999 := by omega
        -- words[:at] + [str(great)] + words[at + 1:]
        refine ⟨_, rfl, _, rfl, _, rfl, D, _, rfl, SqL.of eD, fun u nu => ?_⟩
        have su := Same.new (o := .lst (cutV (vs rs) none (some at_))) nu
        refine ⟨_, rfl, _, rfl, log_ok (by omega) hg2, by show 1 ≤ sizeLine; decide, fun C nC => ?_⟩
        have sC := Same.new (o := .lst [.str (sI great)]) nC
        have el : cutV (vs rs) none (some at_) = vs (rs.take at_.toNat) := by rw [cutV_to _ t0, vs_take]
        have eu := sC _ _ (upd_same : upd H2 u (.lst (cutV (vs rs) none (some at_))) u = _)
        refine ⟨u, C, _, _, rfl, rfl, eu, upd_same, line_le (by rw [el, vs_len, List.length_take]; simp only [List.length_cons, List.length_nil]; omega), fun x nx => ?_⟩
        have sx := (su.trans sC).trans (Same.new (o := .lst (cutV (vs rs) none (some at_) ++ [.str (sI great)])) nx)
        refine ⟨_, rfl, _, rfl, _, _, rfl, rfl, _, rfl, D, _, rfl, SqL.of (sx _ _ eD), fun y ny => ?_⟩
        have sy := Same.new (o := .lst (cutV (vs rs) (some (at_ + 1)) none)) ny
        have ed : cutV (vs rs) (some (at_ + 1)) none = vs (rs.drop (at_ + 1).toNat) := by rw [cutV_from _ (by omega), vs_drop]
        have ll : cutV (vs rs) none (some at_) ++ [V.str (sI great)] ++ cutV (vs rs) (some (at_ + 1)) none = vs (rs.take at_.toNat ++ [great] ++ rs.drop (at_ + 1).toNat) := by
          rw [el, ed, ← vs_app, ← vs_app]
          rfl
        refine ⟨x, y, _, _, rfl, rfl, sy _ _ upd_same, upd_same, line_le (by rw [el, ed, List.length_append, vs_len, vs_len, List.length_take, List.length_drop]; simp only [List.length_cons, List.length_nil]; omega), fun A1 nA => ?_⟩
        have sA := (sx.trans sy).trans (Same.new (o := .lst (cutV (vs rs) none (some at_) ++ [.str (sI great)] ++ cutV (vs rs) (some (at_ + 1)) none)) nA)
        have eA : upd (upd (upd (upd (upd H2 u (.lst (cutV (vs rs) none (some at_)))) C (.lst [.str (sI great)])) x (.lst (cutV (vs rs) none (some at_) ++ [.str (sI great)]))) y (.lst (cutV (vs rs) (some (at_ + 1)) none))) A1 (.lst (cutV (vs rs) none (some at_) ++ [.str (sI great)] ++ cutV (vs rs) (some (at_ + 1)) none)) A1 = some (.lst (vs (rs.take at_.toNat ++ [great] ++ rs.drop (at_ + 1).toNat))) := by rw [upd_same, ll]
        -- words[:at % 2 + 1]
        have m0 := Int.emod_nonneg at_ (b := 2) (by decide)
        have m1 := Int.emod_lt_of_pos at_ (b := 2) (by decide)
        refine ⟨_, rfl, _, rfl, _, _, rfl, rfl, (by show (0 : Int) < 2; decide), _, _, rfl, rfl, _, rfl, D, _, rfl, SqL.of (sA _ _ eD), fun B nB => ?_⟩
        have sB := Same.new (o := .lst (cutV (vs rs) none (some (at_ % 2 + 1)))) nB
        have eB0 : cutV (vs rs) none (some (at_ % 2 + 1)) = vs (rs.take (at_ % 2 + 1).toNat) := by rw [cutV_to _ (by omega), vs_take]
        -- words + fourteen ones
        refine ⟨_, rfl, _, rfl, by decide, by decide, fun O nO => ?_⟩
        refine lc_pure (fun i y => y = .str "1") nO (by decide) (fun i H' hi sm Q' hQ => hQ _ rfl) (fun H4 os hol hoR s4 eO => ?_)
        have eos : os = vs (List.replicate 14 1) := vs_ones hol hoR
        have sAB := (sA.trans sB).trans s4
        have eD4 := sAB _ _ eD
        have eA4 := s4 _ _ (sB _ _ eA)
        have eB4 := s4 _ _ (upd_same : upd _ B (.lst (cutV (vs rs) none (some (at_ % 2 + 1)))) B = _)
        refine ⟨D, O, _, _, rfl, rfl, eD4, eO, line_le (by rw [vs_len, eos, vs_len, List.length_replicate]; omega), fun F nF => ?_⟩
        have sF := Same.new (o := .lst (vs rs ++ os)) nF
        refine ⟨by show 3 ≤ sizeLine; decide, fun so nso => ?_⟩
        have sso := Same.new (o := .lst [.ref A1, .ref B, .ref F]) nso
        -- (some + [words])[way - 3]
        refine ⟨_, rfl, _, rfl, by show 1 ≤ sizeLine; decide, fun w1' nw1 => ?_⟩
        have sw1 := Same.new (o := .lst [.ref D]) nw1
        refine ⟨so, w1', _, _, rfl, rfl, sw1 _ _ upd_same, upd_same, by show 4 ≤ sizeLine; decide, fun z nz => ?_⟩
        have sz := Same.new (o := .lst ([.ref A1, .ref B, .ref F] ++ [.ref D])) nz
        have sEnd := ((sF.trans sso).trans sw1).trans sz
        have eAz := sEnd _ _ eA4
        have eBz := sEnd _ _ eB4
        have eDz := sEnd _ _ eD4
        have eFz := sz _ _ (sw1 _ _ (sso _ _ (upd_same : upd H4 F (.lst (vs rs ++ os)) F = _)))
        have fr : ∀ {b : Addr}, H2 b = none → H1 b = none := fun h => s2.free h
        have fA : H1 A1 = none := fr ((sx.trans sy).free nA)
        have fB : H1 B = none := fr (sA.free nB)
        have fF : H1 F = none := fr (sAB.free nF)
        obtain ⟨wp, us, d, h1, h2, h3, h4, h5⟩ : ∃ (wp : Addr) (us : List Int) (d : Str), ([.ref A1, .ref B, .ref F] ++ [.ref D] : List V)[(way - 3).toNat]? = some (.ref wp) ∧ ([.str "ring", .str "ring", .str "ring", .str "done"] : List V)[(way - 3).toNat]? = some (.str d) ∧
            H1 wp = none ∧ upd (upd (upd (upd H4 F (.lst (vs rs ++ os))) so (.lst [.ref A1, .ref B, .ref F])) w1' (.lst [.ref D])) z (.lst ([.ref A1, .ref B, .ref F] ++ [.ref D])) wp = some (.lst (vs us)) ∧ Us us d := by
          have bR := R.bd
          have hc : way = 3 ∨ way = 4 ∨ way = 5 ∨ way = 6 := by omega
          rcases hc with e | e | e | e <;> rw [e]
          · refine ⟨A1, _, _, rfl, rfl, fA, eAz, us_none (fun v hv => ?_) ?_ ?_ fun R' => ?_⟩
            · rcases List.mem_append.mp hv with hv | hv
              · rcases List.mem_append.mp hv with hv | hv
                · have := bR v (List.mem_of_mem_take hv)
                  omega
                · rw [List.mem_singleton.mp hv]
                  omega
              · have := bR v (List.mem_of_mem_drop hv)
                omega
            · simp only [List.length_append, List.length_take, List.length_drop, List.length_cons, List.length_nil]
              omega
            · simp only [List.length_append, List.length_take, List.length_drop, List.length_cons, List.length_nil]
              omega
            · have := R'.bd great (by simp)
              omega
          · refine ⟨B, _, _, rfl, rfl, fB, by rw [eBz, eB0], us_none (fun v hv => ?_) ?_ ?_ fun R' => ?_⟩
            · have := bR v (List.mem_of_mem_take hv)
              omega
            · rw [List.length_take]
              omega
            · rw [List.length_take]
              omega
            · have := R'.lo
              rw [List.length_take] at this
              omega
          · refine ⟨F, rs ++ List.replicate 14 1, _, rfl, rfl, fF, by rw [eFz, eos, vs_app], us_none (fun v hv => ?_) ?_ ?_ fun R' => ?_⟩
            · rcases List.mem_append.mp hv with hv | hv
              · have := bR v hv
                omega
              · rw [(List.mem_replicate.mp hv).2]
                omega
            · rw [List.length_append]
              omega
            · rw [List.length_append, List.length_replicate]
              omega
            · have := R'.hi
              rw [List.length_append, List.length_replicate] at this
              omega
          · exact ⟨D, rs, _, rfl, rfl, nD, eDz, us_ring R⟩
        refine ⟨_, rfl, _, _, rfl, rfl, z, _, _, _, rfl, rfl, SqL.of upd_same, atI_of (j := (way - 3).toNat) (by omega) h1, ?_⟩
        refine ⟨by show 4 ≤ sizeLine; decide, fun q4 nq4 => ?_⟩
        have sq4 := Same.new (o := .lst [.str "ring", .str "ring", .str "ring", .str "done"]) nq4
        refine ⟨_, rfl, _, _, rfl, rfl, q4, _, _, _, rfl, rfl, SqL.of upd_same, atI_of (j := (way - 3).toNat) (by omega) h2, ?_⟩
        exact hN _ _ ⟨wp, us, d, _, _, _, rfl, ((s2.trans sAB).trans sEnd).trans sq4, h3, sq4 _ _ h4, h5⟩
      · exact hN _ _ ⟨D, rs, _, _, _, _, rfl, s2, nD, eD, us_ring R⟩
    rintro σ' H3 ⟨wp, us, d, g6, g7, g10, rfl, s3, nwp, ewp, U⟩
    have hS3 := s3.seq hS1
    have ulo := U.lo
    have uhi := U.hi
    -- plain = list(words)
    refine ⟨_, rfl, wp, _, rfl, .inl (SqL.of ewp), fun pl npl => ?_⟩
    have spl_ := Same.new (o := .lst (vs us)) npl
    have s5 := s3.trans spl_
    have hS5 := s5.seq hS1
    have ewp5 := spl_ _ _ ewp
    have epl5 : upd H3 pl (.lst (vs us)) pl = some (.lst (vs us)) := upd_same
    have npl1 : H1 pl = none := s3.free npl
    have nwpl : pl ≠ wp := fun z => by rw [z, ewp] at npl; cases npl
    dsimp only [gName, List.set]
    -- what one spoilt word brings
    have spoil : ∀ (Hx : Hp) (zs : List (Str × List (List Nat))) (i : Int) (c : Int) (x : Str), Zs zs us.length → Same H1 Hx → Hx wp = some (.lst (vz zs)) → Hx pl = some (.lst (vs us)) → 0 ≤ i → i < us.length → Odd x →
        ∃ zs', Same H1 (upd Hx wp (.lst ((vz zs).set i.toNat (.str x)))) ∧ upd Hx wp (.lst ((vz zs).set i.toNat (.str x))) wp = some (.lst (vz zs')) ∧ upd Hx wp (.lst ((vz zs).set i.toNat (.str x))) pl = some (.lst (vs us)) ∧ Zs zs' us.length ∧ HasBad zs' := by
      intro Hx zs i c x hz sx e1 e2 h0 h1 O
      obtain ⟨qs, wq, hb⟩ := O.ex
      refine ⟨zs.set i.toNat (x, qs), sx.put nwp, by rw [upd_same, vz_set], by rw [upd_ne nwpl]; exact e2, zs_set hz wq, bad_set (by rw [hz.len]; omega) hb⟩
    refine cut (fun σ' H' => ∃ (zs : List (Str × List (List Nat))) (t : Int) (d' : Str), σ' = [some (.ref a), some (.ref r), some (.ref wp), some (.int way), some (.int t), some (.str d'), g6, g7, some (.ref pl), none, g10] ∧ Same H1 H' ∧ H' wp = some (.lst (vz zs)) ∧ H' pl = some (.lst (vs us)) ∧ Zs zs us.length ∧
        ((zs = plz us ∧ way ≠ 2 ∧ d' = d) ∨ (HasBad zs ∧ d' = "note"))) (fun N hN => ?_) ?_
    · refine ifS_by True (way ≠ 2) (fun Q0 hy hn => ?_) (fun _ => ?_) (fun hno => ?_)
      · refine ⟨_, rfl, rfl, _, rfl, if2 (fun _ => hy trivial) (fun c1 => ⟨_, rfl, rfl, _, rfl, if2 (fun _ => hy trivial) (fun c2 => ⟨_, rfl, a, ns, 5, rfl, hS5, by decide, _, _, rfl, rfl, (by show (0 : Int) < 3; decide), rfl, _, rfl, dec2 (Q := fun b => Q0 b _) (fun _ => hy trivial) (fun _ => hn fun e => c2 (by rw [e]))⟩)⟩)⟩
      · have hl1 : (0 : Int) < ((vs us).length : Int) := by rw [vs_len]; omega
        refine ⟨_, rfl, a, ns, 6, rfl, hS5, by decide, _, rfl, wp, _, rfl, .inl (SqL.of ewp5), _, _, rfl, rfl, hl1, ?_⟩
        have b0 := Int.emod_nonneg (cell ns 6) (b := ((vs us).length : Int)) (by omega)
        have b1 := Int.emod_lt_of_pos (cell ns 6) hl1
        dsimp only [gName, List.set]
        generalize cell ns 6 % ((vs us).length : Int) = i at b0 b1 ⊢
        rw [vs_len] at b1
        have hj : i.toNat < us.length := by omega
        have bz := U.bd _ (GR.getD_mem hj)
        obtain ⟨n, hn⟩ : ∃ n : Nat, us.getD i.toNat 0 = (n : Int) := ⟨(us.getD i.toNat 0).toNat, by omega⟩
        refine ⟨_, rfl, _, rfl, pl, _, _, _, rfl, rfl, SqL.of epl5, atI_of (j := i.toNat) (by omega) (by rw [vs_at hj, hn]), _, rfl, a, ns, 7, rfl, hS5, by decide, n, _, rfl, by omega, fun H6 x s6 O => ?_⟩
        have ewp6 := s6 _ _ ewp5
        have epl6 := s6 _ _ epl5
        rw [← vz_plz] at ewp6
        obtain ⟨zs', k1, k2, k3, k4, k5⟩ := spoil H6 (plz us) i 0 x (zs_plz U.bd) (s5.trans s6) ewp6 epl6 b0 b1 O
        refine ⟨_, rfl, _, rfl, wp, _, _, _, rfl, rfl, ewp6, ixN_of b0 (by rw [vz_len, (zs_plz U.bd).len]; exact b1), ?_⟩
        exact hN _ _ ⟨zs', _, _, rfl, k1, k2, k3, k4, .inr ⟨k5, rfl⟩⟩
      · exact hN _ _ ⟨plz us, _, _, rfl, s5, by rw [vz_plz]; exact ewp5, epl5, zs_plz U.bd, .inl ⟨rfl, hno, rfl⟩⟩
    rintro σ' H6 ⟨zs, t, d', rfl, s6, ewp6, epl6, Z6, h6⟩
    have hS6 := s6.seq hS1
    refine cut (fun σ' H' => ∃ (zs : List (Str × List (List Nat))) (t : Int) (d' : Str), σ' = [some (.ref a), some (.ref r), some (.ref wp), some (.int way), some (.int t), some (.str d'), g6, g7, some (.ref pl), none, g10] ∧ Same H1 H' ∧ H' wp = some (.lst (vz zs)) ∧ Zs zs us.length ∧
        ((zs = plz us ∧ d' = d) ∨ (HasBad zs ∧ d' = "note"))) (fun N hN => ?_) ?_
    · refine ⟨_, rfl, rfl, _, rfl, if2 (fun c => ?_) (fun c => ?_)⟩
      · have hw2 : way = 2 := V.int.inj c
        have hd : d' = "note" := h6.elim (fun h => absurd hw2 h.2.1) (fun h => h.2)
        have hl1 : (0 : Int) < ((vz zs).length : Int) := by rw [vz_len, Z6.len]; omega
        refine ⟨_, rfl, a, ns, 8, rfl, hS6, by decide, _, rfl, wp, _, rfl, .inl (SqL.of ewp6), _, _, rfl, rfl, hl1, ?_⟩
        have b0 := Int.emod_nonneg (cell ns 8) (b := ((vz zs).length : Int)) (by omega)
        have b1 := Int.emod_lt_of_pos (cell ns 8) hl1
        dsimp only [gName, List.set]
        generalize cell ns 8 % ((vz zs).length : Int) = i at b0 b1 ⊢
        rw [vz_len, Z6.len] at b1
        have hj : i.toNat < us.length := by omega
        have bz := U.bd _ (GR.getD_mem hj)
        obtain ⟨n, hn⟩ : ∃ n : Nat, us.getD i.toNat 0 = (n : Int) := ⟨(us.getD i.toNat 0).toNat, by omega⟩
        refine ⟨_, rfl, _, rfl, pl, _, _, _, rfl, rfl, SqL.of epl6, atI_of (j := i.toNat) (by omega) (by rw [vs_at hj, hn]), _, rfl, a, ns, 9, rfl, hS6, by decide, n, _, rfl, by omega, fun H7 x s7 O => ?_⟩
        have ewp7 := s7 _ _ ewp6
        have epl7 := s7 _ _ epl6
        obtain ⟨zs', k1, k2, k3, k4, k5⟩ := spoil H7 zs i 0 x Z6 (s6.trans s7) ewp7 epl7 b0 b1 O
        refine ⟨_, rfl, _, rfl, wp, _, _, _, rfl, rfl, ewp7, ixN_of b0 (by rw [vz_len, Z6.len]; exact b1), ?_⟩
        exact hN _ _ ⟨zs', _, _, rfl, k1, k2, k4, .inr ⟨k5, hd⟩⟩
      · exact hN _ _ ⟨zs, _, _, rfl, s6, ewp6, Z6, h6.elim (fun h => .inl ⟨h.1, h.2.2⟩) .inr⟩
    rintro σ' H7 ⟨zs, t, d', rfl, s7, ewp7, Z7, h7⟩
    have ewp8 : H7 wp = some (.lst ((zs.map (·.1)).map V.str)) := by
      rw [ewp7]
      unfold vz
      rw [List.map_map]
      rfl
    refine ⟨⟨_, rfl⟩, _, rfl, _, wp, zs.map (·.1), rfl, rfl, .inl (SqL.of ewp8), ?_, ?_⟩
    · have h5 := sum_le5 ((zs.map (·.1)).map (·.length)) 5 fun x hx => by
        obtain ⟨y, hy, rfl⟩ := List.mem_map.mp hx
        obtain ⟨z, hz, rfl⟩ := List.mem_map.mp hy
        rw [len_tl]
        exact (Z7.all z hz).len
      rw [List.length_map, List.length_map, Z7.len] at h5
      have e1 : (Str.ofString " ").length = 1 := by rw [len_tl, blank1]; rfl
      rw [e1, List.length_map, Z7.len]
      omega
    rw [join_eq]
    rcases h7 with ⟨rfl, rfl⟩ | ⟨hb, rfl⟩
    · refine ⟨_, _, rfl, parts_of Z7 ulo uhi, .inl ⟨us, U.bd, flat_plz us, fun H8 w8 s8 hy hn => ⟨_, rfl, rfl, ?_⟩⟩⟩
      have e8 : w8 = d' := by
        by_cases R' : GR.Ring us
        · rw [hy R', U.yes R']
        · rw [hn R', U.no R']
      rw [e8, decide_eq_true rfl]
      exact q H8
    · refine ⟨_, _, rfl, parts_of Z7 ulo uhi, .inr ⟨fun p hp => ?_, ?_, fun H8 s8 => ⟨_, rfl, rfl, ?_⟩⟩⟩
      · obtain ⟨z, hz, hq⟩ := List.mem_flatMap.mp hp
        exact (Z7.all z hz).each p hq
      · obtain ⟨z, hz, p, hp, hbp⟩ := hb
        exact ⟨p, List.mem_flatMap.mpr ⟨z, hz, hp⟩, hbp⟩
      · rw [decide_eq_true rfl]
        exact q H8
end
/-! ### what the top has written; the law's own head -/
theorem all_mk {l : PySem.W.OpenLaw} {w : World} {K : PySem.W.Frag} {h : Heap} {mg : Str → Option Value} {fa : Addr} (X : K.In h) (G : h.Ns mainGlobals mg) (hfa : mg "law" = some (.ref fa))
    {f_asked : Addr} {od_asked an_asked : Option Addr} {sl_asked : Array (Option Value)} {oc_asked kV_asked dc_asked pm_asked cd_asked ct_asked : Value}
    (a_asked : PySem.W.nsIn K mainGlobals "asked" = some (some (.ref f_asked))) (l_asked : K.lookup f_asked = some ⟨oc_asked, od_asked, .func (PySem.W.fnOf "asked" "asked" (defArgs s_asked) (defBody s_asked) (defScope s_asked) .none kV_asked dc_asked pm_asked an_asked cd_asked ct_asked), sl_asked⟩) (co_asked : PySem.W.codeIn K cd_asked "asked" = true) (k_asked : PySem.W.keepIn K (.ref f_asked) = true)
    {f_number_of : Addr} {od_number_of an_number_of : Option Addr} {sl_number_of : Array (Option Value)} {oc_number_of kV_number_of dc_number_of pm_number_of cd_number_of ct_number_of : Value}
    (a_number_of : PySem.W.nsIn K mainGlobals "number_of" = some (some (.ref f_number_of))) (l_number_of : K.lookup f_number_of = some ⟨oc_number_of, od_number_of, .func (PySem.W.fnOf "number_of" "number_of" (defArgs s_number_of) (defBody s_number_of) (defScope s_number_of) .none kV_number_of dc_number_of pm_number_of an_number_of cd_number_of ct_number_of), sl_number_of⟩) (co_number_of : PySem.W.codeIn K cd_number_of "number_of" = true) (k_number_of : PySem.W.keepIn K (.ref f_number_of) = true)
    {f_read : Addr} {od_read an_read : Option Addr} {sl_read : Array (Option Value)} {oc_read kV_read dc_read pm_read cd_read ct_read : Value}
    (a_read : PySem.W.nsIn K mainGlobals "read" = some (some (.ref f_read))) (l_read : K.lookup f_read = some ⟨oc_read, od_read, .func (PySem.W.fnOf "read" "read" (defArgs s_read) (defBody s_read) (defScope s_read) .none kV_read dc_read pm_read an_read cd_read ct_read), sl_read⟩) (co_read : PySem.W.codeIn K cd_read "read" = true) (k_read : PySem.W.keepIn K (.ref f_read) = true)
    {f_l_cell_at : Addr} {od_l_cell_at an_l_cell_at : Option Addr} {sl_l_cell_at : Array (Option Value)} {oc_l_cell_at kV_l_cell_at dc_l_cell_at pm_l_cell_at cd_l_cell_at ct_l_cell_at : Value}
    (a_l_cell_at : PySem.W.nsIn K mainGlobals "_law_cell_at" = some (some (.ref f_l_cell_at))) (l_l_cell_at : K.lookup f_l_cell_at = some ⟨oc_l_cell_at, od_l_cell_at, .func (PySem.W.fnOf "_law_cell_at" "_law_cell_at" (defArgs s_l_cell_at) (defBody s_l_cell_at) (defScope s_l_cell_at) .none kV_l_cell_at dc_l_cell_at pm_l_cell_at an_l_cell_at cd_l_cell_at ct_l_cell_at), sl_l_cell_at⟩) (co_l_cell_at : PySem.W.codeIn K cd_l_cell_at "_law_cell_at" = true) (k_l_cell_at : PySem.W.keepIn K (.ref f_l_cell_at) = true)
    {f_l_draw : Addr} {od_l_draw an_l_draw : Option Addr} {sl_l_draw : Array (Option Value)} {oc_l_draw kV_l_draw dc_l_draw pm_l_draw cd_l_draw ct_l_draw : Value}
    (a_l_draw : PySem.W.nsIn K mainGlobals "_law_draw" = some (some (.ref f_l_draw))) (l_l_draw : K.lookup f_l_draw = some ⟨oc_l_draw, od_l_draw, .func (PySem.W.fnOf "_law_draw" "_law_draw" (defArgs s_l_draw) (defBody s_l_draw) (defScope s_l_draw) .none kV_l_draw dc_l_draw pm_l_draw an_l_draw cd_l_draw ct_l_draw), sl_l_draw⟩) (co_l_draw : PySem.W.codeIn K cd_l_draw "_law_draw" = true) (k_l_draw : PySem.W.keepIn K (.ref f_l_draw) = true)
    {f_l_ring_by : Addr} {od_l_ring_by an_l_ring_by : Option Addr} {sl_l_ring_by : Array (Option Value)} {oc_l_ring_by kV_l_ring_by dc_l_ring_by pm_l_ring_by cd_l_ring_by ct_l_ring_by : Value}
    (a_l_ring_by : PySem.W.nsIn K mainGlobals "_law_ring_by" = some (some (.ref f_l_ring_by))) (l_l_ring_by : K.lookup f_l_ring_by = some ⟨oc_l_ring_by, od_l_ring_by, .func (PySem.W.fnOf "_law_ring_by" "_law_ring_by" (defArgs s_l_ring_by) (defBody s_l_ring_by) (defScope s_l_ring_by) .none kV_l_ring_by dc_l_ring_by pm_l_ring_by an_l_ring_by cd_l_ring_by ct_l_ring_by), sl_l_ring_by⟩) (co_l_ring_by : PySem.W.codeIn K cd_l_ring_by "_law_ring_by" = true) (k_l_ring_by : PySem.W.keepIn K (.ref f_l_ring_by) = true)
    {f_l_word_of : Addr} {od_l_word_of an_l_word_of : Option Addr} {sl_l_word_of : Array (Option Value)} {oc_l_word_of kV_l_word_of dc_l_word_of pm_l_word_of cd_l_word_of ct_l_word_of : Value}
    (a_l_word_of : PySem.W.nsIn K mainGlobals "_law_word_of" = some (some (.ref f_l_word_of))) (l_l_word_of : K.lookup f_l_word_of = some ⟨oc_l_word_of, od_l_word_of, .func (PySem.W.fnOf "_law_word_of" "_law_word_of" (defArgs s_l_word_of) (defBody s_l_word_of) (defScope s_l_word_of) .none kV_l_word_of dc_l_word_of pm_l_word_of an_l_word_of cd_l_word_of ct_l_word_of), sl_l_word_of⟩) (co_l_word_of : PySem.W.codeIn K cd_l_word_of "_law_word_of" = true) (k_l_word_of : PySem.W.keepIn K (.ref f_l_word_of) = true)
    {f_l_tried : Addr} {od_l_tried an_l_tried : Option Addr} {sl_l_tried : Array (Option Value)} {oc_l_tried kV_l_tried dc_l_tried pm_l_tried cd_l_tried ct_l_tried : Value}
    (a_l_tried : PySem.W.nsIn K mainGlobals "_law_tried" = some (some (.ref f_l_tried))) (l_l_tried : K.lookup f_l_tried = some ⟨oc_l_tried, od_l_tried, .func (PySem.W.fnOf "_law_tried" "_law_tried" (defArgs s_l_tried) (defBody s_l_tried) (defScope s_l_tried) .none kV_l_tried dc_l_tried pm_l_tried an_l_tried cd_l_tried ct_l_tried), sl_l_tried⟩) (co_l_tried : PySem.W.codeIn K cd_l_tried "_law_tried" = true) (k_l_tried : PySem.W.keepIn K (.ref f_l_tried) = true)
    {f_l_odd : Addr} {od_l_odd an_l_odd : Option Addr} {sl_l_odd : Array (Option Value)} {oc_l_odd kV_l_odd dc_l_odd pm_l_odd cd_l_odd ct_l_odd : Value}
    (a_l_odd : PySem.W.nsIn K mainGlobals "_law_odd" = some (some (.ref f_l_odd))) (l_l_odd : K.lookup f_l_odd = some ⟨oc_l_odd, od_l_odd, .func (PySem.W.fnOf "_law_odd" "_law_odd" (defArgs s_l_odd) (defBody s_l_odd) (defScope s_l_odd) .none kV_l_odd dc_l_odd pm_l_odd an_l_odd cd_l_odd ct_l_odd), sl_l_odd⟩) (co_l_odd : PySem.W.codeIn K cd_l_odd "_law_odd" = true) (k_l_odd : PySem.W.keepIn K (.ref f_l_odd) = true)
    {f_law : Addr} {od_law an_law : Option Addr} {sl_law : Array (Option Value)} {oc_law kV_law dc_law pm_law cd_law ct_law : Value}
    (a_law : PySem.W.nsIn K mainGlobals "law" = some (some (.ref f_law))) (l_law : K.lookup f_law = some ⟨oc_law, od_law, .func (PySem.W.fnOf "law" "law" (defArgs s_law) (defBody s_law) (defScope s_law) .none kV_law dc_law pm_law an_law cd_law ct_law), sl_law⟩) (co_law : PySem.W.codeIn K cd_law "law" = true) (k_law : PySem.W.keepIn K (.ref f_law) = true)
    {t_FEWEST : Tok} (c_FEWEST : PySem.W.nsIn K mainGlobals "FEWEST" = some (some (.int 3 t_FEWEST)))
    {t_MOST : Tok} (c_MOST : PySem.W.nsIn K mainGlobals "MOST" = some (some (.int 16 t_MOST)))
    {t_GREATEST : Tok} (c_GREATEST : PySem.W.nsIn K mainGlobals "GREATEST" = some (some (.int 1000 t_GREATEST)))
    {t_FIGURES : Tok} (c_FIGURES : PySem.W.nsIn K mainGlobals "FIGURES" = some (some (.str "0123456789" t_FIGURES)))
    (z_ValueError : PySem.W.nsIn K mainGlobals "ValueError" = some none)
    (z_int : PySem.W.nsIn K mainGlobals "int" = some none)
    (z_isinstance : PySem.W.nsIn K mainGlobals "isinstance" = some none)
    (z_len : PySem.W.nsIn K mainGlobals "len" = some none)
    (z_list : PySem.W.nsIn K mainGlobals "list" = some none)
    (z_range : PySem.W.nsIn K mainGlobals "range" = some none)
    (z_str : PySem.W.nsIn K mainGlobals "str" = some none)
    (sp_ : PySem.W.specialIn K (.builtin "object.__class__") "__get__" = some (some (.builtin "getset_descriptor.__get__"))) (tk_ : PySem.W.takesIn K (.builtin "object.__class__") = some true)
    {C_RingError : Addr} (a_RingError : PySem.W.nsIn K mainGlobals "RingError" = some (some (.ref C_RingError))) (x_RingError : PySem.W.excIn K C_RingError [.type "ValueError", .type "Exception", .type "BaseException", .type "object"] "ValueError.__new__" = true) (k_RingError : PySem.W.keepIn K (.ref C_RingError) = true) (sb_RingError : PySem.W.subIn K (.ref C_RingError) (.type "BaseException") = some true) (ty_RingError : PySem.W.typeIn K (.ref C_RingError) = some (.type "type")) (ic_RingError : PySem.W.isClsIn K C_RingError = true) (sv_RingError : PySem.W.subIn K (.ref C_RingError) (.type "ValueError") = some true) (ss_RingError : PySem.W.subIn K (.ref C_RingError) (.ref C_RingError) = some true) (hg_RingError : PySem.W.findIn K (.ref C_RingError) "__getattribute__" = some (some (.builtin "BaseException.__getattribute__"))) (hk_RingError : PySem.W.findIn K (.ref C_RingError) "__getattr__" = some none) (hd_RingError : PySem.W.hasDictIn K C_RingError = true) (ha_RingError : PySem.W.findIn K (.ref C_RingError) "__class__" = some (some (.builtin "object.__class__"))) (hm_RingError : PySem.W.mroIn K C_RingError (.type "object") = some true)
    {C_NoRing : Addr} (a_NoRing : PySem.W.nsIn K mainGlobals "NoRing" = some (some (.ref C_NoRing))) (x_NoRing : PySem.W.excIn K C_NoRing [.type "ValueError", .type "Exception", .type "BaseException", .type "object"] "ValueError.__new__" = true) (k_NoRing : PySem.W.keepIn K (.ref C_NoRing) = true) (sb_NoRing : PySem.W.subIn K (.ref C_NoRing) (.type "BaseException") = some true) (ty_NoRing : PySem.W.typeIn K (.ref C_NoRing) = some (.type "type")) (ic_NoRing : PySem.W.isClsIn K C_NoRing = true) (sv_NoRing : PySem.W.subIn K (.ref C_NoRing) (.type "ValueError") = some true) (ss_NoRing : PySem.W.subIn K (.ref C_NoRing) (.ref C_NoRing) = some true) (hg_NoRing : PySem.W.findIn K (.ref C_NoRing) "__getattribute__" = some (some (.builtin "BaseException.__getattribute__"))) (hk_NoRing : PySem.W.findIn K (.ref C_NoRing) "__getattr__" = some none) (hd_NoRing : PySem.W.hasDictIn K C_NoRing = true) (ha_NoRing : PySem.W.findIn K (.ref C_NoRing) "__class__" = some (some (.builtin "object.__class__"))) (hm_NoRing : PySem.W.mroIn K C_NoRing (.type "object") = some true)
    {C_NoSize : Addr} (a_NoSize : PySem.W.nsIn K mainGlobals "NoSize" = some (some (.ref C_NoSize))) (x_NoSize : PySem.W.excIn K C_NoSize [.type "ValueError", .type "Exception", .type "BaseException", .type "object"] "ValueError.__new__" = true) (k_NoSize : PySem.W.keepIn K (.ref C_NoSize) = true) (sb_NoSize : PySem.W.subIn K (.ref C_NoSize) (.type "BaseException") = some true) (ty_NoSize : PySem.W.typeIn K (.ref C_NoSize) = some (.type "type")) (ic_NoSize : PySem.W.isClsIn K C_NoSize = true) (sv_NoSize : PySem.W.subIn K (.ref C_NoSize) (.type "ValueError") = some true) (ss_NoSize : PySem.W.subIn K (.ref C_NoSize) (.ref C_NoSize) = some true) (hg_NoSize : PySem.W.findIn K (.ref C_NoSize) "__getattribute__" = some (some (.builtin "BaseException.__getattribute__"))) (hk_NoSize : PySem.W.findIn K (.ref C_NoSize) "__getattr__" = some none) (hd_NoSize : PySem.W.hasDictIn K C_NoSize = true) (ha_NoSize : PySem.W.findIn K (.ref C_NoSize) "__class__" = some (some (.builtin "object.__class__"))) (hm_NoSize : PySem.W.mroIn K C_NoSize (.type "object") = some true)
    {C_Unlike : Addr} (a_Unlike : PySem.W.nsIn K mainGlobals "Unlike" = some (some (.ref C_Unlike))) (x_Unlike : PySem.W.excIn K C_Unlike [.type "ValueError", .type "Exception", .type "BaseException", .type "object"] "ValueError.__new__" = true) (k_Unlike : PySem.W.keepIn K (.ref C_Unlike) = true) (sb_Unlike : PySem.W.subIn K (.ref C_Unlike) (.type "BaseException") = some true) (ty_Unlike : PySem.W.typeIn K (.ref C_Unlike) = some (.type "type")) (ic_Unlike : PySem.W.isClsIn K C_Unlike = true) (sv_Unlike : PySem.W.subIn K (.ref C_Unlike) (.type "ValueError") = some true) (ss_Unlike : PySem.W.subIn K (.ref C_Unlike) (.ref C_Unlike) = some true) (hg_Unlike : PySem.W.findIn K (.ref C_Unlike) "__getattribute__" = some (some (.builtin "BaseException.__getattribute__"))) (hk_Unlike : PySem.W.findIn K (.ref C_Unlike) "__getattr__" = some none) (hd_Unlike : PySem.W.hasDictIn K C_Unlike = true) (ha_Unlike : PySem.W.findIn K (.ref C_Unlike) "__class__" = some (some (.builtin "object.__class__"))) (hm_Unlike : PySem.W.mroIn K C_Unlike (.type "object") = some true)
    {C_NoBits : Addr} (a_NoBits : PySem.W.nsIn K mainGlobals "NoBits" = some (some (.ref C_NoBits))) (x_NoBits : PySem.W.excIn K C_NoBits [.type "ValueError", .type "Exception", .type "BaseException", .type "object"] "ValueError.__new__" = true) (k_NoBits : PySem.W.keepIn K (.ref C_NoBits) = true) (sb_NoBits : PySem.W.subIn K (.ref C_NoBits) (.type "BaseException") = some true) (ty_NoBits : PySem.W.typeIn K (.ref C_NoBits) = some (.type "type")) (ic_NoBits : PySem.W.isClsIn K C_NoBits = true) (sv_NoBits : PySem.W.subIn K (.ref C_NoBits) (.type "ValueError") = some true) (ss_NoBits : PySem.W.subIn K (.ref C_NoBits) (.ref C_NoBits) = some true) (hg_NoBits : PySem.W.findIn K (.ref C_NoBits) "__getattribute__" = some (some (.builtin "BaseException.__getattribute__"))) (hk_NoBits : PySem.W.findIn K (.ref C_NoBits) "__getattr__" = some none) (hd_NoBits : PySem.W.hasDictIn K C_NoBits = true) (ha_NoBits : PySem.W.findIn K (.ref C_NoBits) "__class__" = some (some (.builtin "object.__class__"))) (hm_NoBits : PySem.W.mroIn K C_NoBits (.type "object") = some true)
    {C_NoNote : Addr} (a_NoNote : PySem.W.nsIn K mainGlobals "NoNote" = some (some (.ref C_NoNote))) (x_NoNote : PySem.W.excIn K C_NoNote [.type "ValueError", .type "Exception", .type "BaseException", .type "object"] "ValueError.__new__" = true) (k_NoNote : PySem.W.keepIn K (.ref C_NoNote) = true) (sb_NoNote : PySem.W.subIn K (.ref C_NoNote) (.type "BaseException") = some true) (ty_NoNote : PySem.W.typeIn K (.ref C_NoNote) = some (.type "type")) (ic_NoNote : PySem.W.isClsIn K C_NoNote = true) (sv_NoNote : PySem.W.subIn K (.ref C_NoNote) (.type "ValueError") = some true) (ss_NoNote : PySem.W.subIn K (.ref C_NoNote) (.ref C_NoNote) = some true) (hg_NoNote : PySem.W.findIn K (.ref C_NoNote) "__getattribute__" = some (some (.builtin "BaseException.__getattribute__"))) (hk_NoNote : PySem.W.findIn K (.ref C_NoNote) "__getattr__" = some none) (hd_NoNote : PySem.W.hasDictIn K C_NoNote = true) (ha_NoNote : PySem.W.findIn K (.ref C_NoNote) "__class__" = some (some (.builtin "object.__class__"))) (hm_NoNote : PySem.W.mroIn K C_NoNote (.type "object") = some true)
    (S_NoRing_NoSize : PySem.W.subIn K (.ref C_NoRing) (.ref C_NoSize) = some false)
    (S_NoRing_Unlike : PySem.W.subIn K (.ref C_NoRing) (.ref C_Unlike) = some false)
    (S_NoRing_NoBits : PySem.W.subIn K (.ref C_NoRing) (.ref C_NoBits) = some false)
    (S_NoRing_NoNote : PySem.W.subIn K (.ref C_NoRing) (.ref C_NoNote) = some false)
    (S_NoRing_RingError : PySem.W.subIn K (.ref C_NoRing) (.ref C_RingError) = some true)
    (S_NoNote_NoRing : PySem.W.subIn K (.ref C_NoNote) (.ref C_NoRing) = some false)
    (S_NoNote_NoSize : PySem.W.subIn K (.ref C_NoNote) (.ref C_NoSize) = some false)
    (S_NoNote_Unlike : PySem.W.subIn K (.ref C_NoNote) (.ref C_Unlike) = some false)
    (S_NoNote_NoBits : PySem.W.subIn K (.ref C_NoNote) (.ref C_NoBits) = some false)
    (S_NoNote_RingError : PySem.W.subIn K (.ref C_NoNote) (.ref C_RingError) = some true)
    : ∃ fd : FuncData, (∀ (s : Shared) (v : Value), BindsTo s fd ⟨[v], []⟩ [("script", v)]) ∧ ∀ base : Heap, K.In base → base.Ns mainGlobals mg → FnOk l.prog w K mg base CX0 6 fa fd ["script"] (sp_law K) := by
  have e := hfa.symm.trans (PySem.W.mg_of X G a_law)
  cases e
  have F_asked := fun_mk (st := s_asked) l_asked co_asked k_asked
  have b_asked := F_asked.binds (ps := ["ring"]) fun _ _ _ _ _ _ us hl => match us, hl with | [_], _ => rfl
  have F_number_of := fun_mk (st := s_number_of) l_number_of co_number_of k_number_of
  have b_number_of := F_number_of.binds (ps := ["word"]) fun _ _ _ _ _ _ us hl => match us, hl with | [_], _ => rfl
  have F_read := fun_mk (st := s_read) l_read co_read k_read
  have b_read := F_read.binds (ps := ["text"]) fun _ _ _ _ _ _ us hl => match us, hl with | [_], _ => rfl
  have F_l_cell_at := fun_mk (st := s_l_cell_at) l_l_cell_at co_l_cell_at k_l_cell_at
  have b_l_cell_at := F_l_cell_at.binds (ps := ["script", "k"]) fun _ _ _ _ _ _ us hl => match us, hl with | [_, _], _ => rfl
  have F_l_draw := fun_mk (st := s_l_draw) l_l_draw co_l_draw k_l_draw
  have b_l_draw := F_l_draw.binds (ps := ["cell", "k", "bound"]) fun _ _ _ _ _ _ us hl => match us, hl with | [_, _, _], _ => rfl
  have F_l_ring_by := fun_mk (st := s_l_ring_by) l_l_ring_by co_l_ring_by k_l_ring_by
  have b_l_ring_by := F_l_ring_by.binds (ps := ["script", "first"]) fun _ _ _ _ _ _ us hl => match us, hl with | [_, _], _ => rfl
  have F_l_word_of := fun_mk (st := s_l_word_of) l_l_word_of co_l_word_of k_l_word_of
  have b_l_word_of := F_l_word_of.binds (ps := ["e"]) fun _ _ _ _ _ _ us hl => match us, hl with | [_], _ => rfl
  have F_l_tried := fun_mk (st := s_l_tried) l_l_tried co_l_tried k_l_tried
  have b_l_tried := F_l_tried.binds (ps := ["text"]) fun _ _ _ _ _ _ us hl => match us, hl with | [_], _ => rfl
  have F_l_odd := fun_mk (st := s_l_odd) l_l_odd co_l_odd k_l_odd
  have b_l_odd := F_l_odd.binds (ps := ["word", "way"]) fun _ _ _ _ _ _ us hl => match us, hl with | [_, _], _ => rfl
  have F_law := fun_mk (st := s_law) l_law co_law k_law
  have b_law := F_law.binds (ps := ["script"]) fun _ _ _ _ _ _ us hl => match us, hl with | [_], _ => rfl
  let T : Txt K mg := {
    f_asked := _, d_asked := _, F_asked := F_asked, b_asked := b_asked, g_asked := PySem.W.mg_of X G a_asked,
    f_number_of := _, d_number_of := _, F_number_of := F_number_of, b_number_of := b_number_of, g_number_of := PySem.W.mg_of X G a_number_of,
    f_read := _, d_read := _, F_read := F_read, b_read := b_read, g_read := PySem.W.mg_of X G a_read,
    f_l_cell_at := _, d_l_cell_at := _, F_l_cell_at := F_l_cell_at, b_l_cell_at := b_l_cell_at, g_l_cell_at := PySem.W.mg_of X G a_l_cell_at,
    f_l_draw := _, d_l_draw := _, F_l_draw := F_l_draw, b_l_draw := b_l_draw, g_l_draw := PySem.W.mg_of X G a_l_draw,
    f_l_ring_by := _, d_l_ring_by := _, F_l_ring_by := F_l_ring_by, b_l_ring_by := b_l_ring_by, g_l_ring_by := PySem.W.mg_of X G a_l_ring_by,
    f_l_word_of := _, d_l_word_of := _, F_l_word_of := F_l_word_of, b_l_word_of := b_l_word_of, g_l_word_of := PySem.W.mg_of X G a_l_word_of,
    f_l_tried := _, d_l_tried := _, F_l_tried := F_l_tried, b_l_tried := b_l_tried, g_l_tried := PySem.W.mg_of X G a_l_tried,
    f_l_odd := _, d_l_odd := _, F_l_odd := F_l_odd, b_l_odd := b_l_odd, g_l_odd := PySem.W.mg_of X G a_l_odd,
    f_law := _, d_law := _, F_law := F_law, b_law := b_law, g_law := PySem.W.mg_of X G a_law,
    c_FEWEST := ⟨_, PySem.W.mg_of X G c_FEWEST⟩,
    c_MOST := ⟨_, PySem.W.mg_of X G c_MOST⟩,
    c_GREATEST := ⟨_, PySem.W.mg_of X G c_GREATEST⟩,
    c_FIGURES := ⟨_, PySem.W.mg_of X G c_FIGURES⟩,
    z_ValueError := PySem.W.mg_none_of X G z_ValueError,
    z_int := PySem.W.mg_none_of X G z_int,
    z_isinstance := PySem.W.mg_none_of X G z_isinstance,
    z_len := PySem.W.mg_none_of X G z_len,
    z_list := PySem.W.mg_none_of X G z_list,
    z_range := PySem.W.mg_none_of X G z_range,
    z_str := PySem.W.mg_none_of X G z_str,
    e_RingError := C_RingError, E_RingError := ⟨PySem.W.mg_of X G a_RingError, x_RingError, k_RingError, sb_RingError, ty_RingError, ic_RingError, sv_RingError, ss_RingError, ⟨hg_RingError, hk_RingError, sb_RingError, hd_RingError, ha_RingError, sp_, tk_, hm_RingError⟩⟩,
    e_NoRing := C_NoRing, E_NoRing := ⟨PySem.W.mg_of X G a_NoRing, x_NoRing, k_NoRing, sb_NoRing, ty_NoRing, ic_NoRing, sv_NoRing, ss_NoRing, ⟨hg_NoRing, hk_NoRing, sb_NoRing, hd_NoRing, ha_NoRing, sp_, tk_, hm_NoRing⟩⟩,
    e_NoSize := C_NoSize, E_NoSize := ⟨PySem.W.mg_of X G a_NoSize, x_NoSize, k_NoSize, sb_NoSize, ty_NoSize, ic_NoSize, sv_NoSize, ss_NoSize, ⟨hg_NoSize, hk_NoSize, sb_NoSize, hd_NoSize, ha_NoSize, sp_, tk_, hm_NoSize⟩⟩,
    e_Unlike := C_Unlike, E_Unlike := ⟨PySem.W.mg_of X G a_Unlike, x_Unlike, k_Unlike, sb_Unlike, ty_Unlike, ic_Unlike, sv_Unlike, ss_Unlike, ⟨hg_Unlike, hk_Unlike, sb_Unlike, hd_Unlike, ha_Unlike, sp_, tk_, hm_Unlike⟩⟩,
    e_NoBits := C_NoBits, E_NoBits := ⟨PySem.W.mg_of X G a_NoBits, x_NoBits, k_NoBits, sb_NoBits, ty_NoBits, ic_NoBits, sv_NoBits, ss_NoBits, ⟨hg_NoBits, hk_NoBits, sb_NoBits, hd_NoBits, ha_NoBits, sp_, tk_, hm_NoBits⟩⟩,
    e_NoNote := C_NoNote, E_NoNote := ⟨PySem.W.mg_of X G a_NoNote, x_NoNote, k_NoNote, sb_NoNote, ty_NoNote, ic_NoNote, sv_NoNote, ss_NoNote, ⟨hg_NoNote, hk_NoNote, sb_NoNote, hd_NoNote, ha_NoNote, sp_, tk_, hm_NoNote⟩⟩,
    S_NoRing_NoSize := S_NoRing_NoSize,
    S_NoRing_Unlike := S_NoRing_Unlike,
    S_NoRing_NoBits := S_NoRing_NoBits,
    S_NoRing_NoNote := S_NoRing_NoNote,
    S_NoRing_RingError := S_NoRing_RingError,
    S_NoNote_NoRing := S_NoNote_NoRing,
    S_NoNote_NoSize := S_NoNote_NoSize,
    S_NoNote_Unlike := S_NoNote_Unlike,
    S_NoNote_NoBits := S_NoNote_NoBits,
    S_NoNote_RingError := S_NoNote_RingError }
  exact ⟨PySem.W.fnOf "law" "law" (defArgs s_law) (defBody s_law) (defScope s_law) .none kV_law dc_law pm_law an_law cd_law ct_law, fun s v => .of_eq rfl, fun base _ _ => ok_law T⟩
end GK
open PySem PySem.W PyProof.Rows
set_option maxHeartbeats 0 in
theorem PySem.Challenge.cw_gapring_k16_read_or_refused_holds : PySem.Challenge.rw_gapring_k16_read_or_refused.Holds := by
  w_on; o_law; k_head; (case hw => w_witness2)
  k_fill
  refine L2.walk_of (l := PySem.Challenge.rw_gapring_k16_read_or_refused) (n := 63) (k := 6) (x := "script") (CX := fun _ => L2.CX0) (sp := fun w => GK.sp_law _) rfl (by decide) rfl ⟨rfl, by decide, by decide⟩ (fun w h Y => PySem.W.kIn_of Y) ?F (fun _ _ a ns hl _ hS => ⟨a, ns, rfl, hS, hl, fun _ => rfl⟩) (fun _ _ _ _ _ h => h)
  case F =>
    intro w mg fa h KX G hmg
    refine' GK.all_mk KX G hmg ?a_asked ?l_asked ?co_asked ?k_asked ?a_number_of ?l_number_of ?co_number_of ?k_number_of ?a_read ?l_read ?co_read ?k_read ?a_l_cell_at ?l_l_cell_at ?co_l_cell_at ?k_l_cell_at ?a_l_draw ?l_l_draw ?co_l_draw ?k_l_draw ?a_l_ring_by ?l_l_ring_by ?co_l_ring_by ?k_l_ring_by ?a_l_word_of ?l_l_word_of ?co_l_word_of ?k_l_word_of ?a_l_tried ?l_l_tried ?co_l_tried ?k_l_tried ?a_l_odd ?l_l_odd ?co_l_odd ?k_l_odd ?a_law ?l_law ?co_law ?k_law ?c_FEWEST ?c_MOST ?c_GREATEST ?c_FIGURES ?z_ValueError ?z_int ?z_isinstance ?z_len ?z_list ?z_range ?z_str ?sp_ ?tk_ ?a_RingError ?x_RingError ?k_RingError ?sb_RingError ?ty_RingError ?ic_RingError ?sv_RingError ?ss_RingError ?hg_RingError ?hk_RingError ?hd_RingError ?ha_RingError ?hm_RingError ?a_NoRing ?x_NoRing ?k_NoRing ?sb_NoRing ?ty_NoRing ?ic_NoRing ?sv_NoRing ?ss_NoRing ?hg_NoRing ?hk_NoRing ?hd_NoRing ?ha_NoRing ?hm_NoRing ?a_NoSize ?x_NoSize ?k_NoSize ?sb_NoSize ?ty_NoSize ?ic_NoSize ?sv_NoSize ?ss_NoSize ?hg_NoSize ?hk_NoSize ?hd_NoSize ?ha_NoSize ?hm_NoSize ?a_Unlike ?x_Unlike ?k_Unlike ?sb_Unlike ?ty_Unlike ?ic_Unlike ?sv_Unlike ?ss_Unlike ?hg_Unlike ?hk_Unlike ?hd_Unlike ?ha_Unlike ?hm_Unlike ?a_NoBits ?x_NoBits ?k_NoBits ?sb_NoBits ?ty_NoBits ?ic_NoBits ?sv_NoBits ?ss_NoBits ?hg_NoBits ?hk_NoBits ?hd_NoBits ?ha_NoBits ?hm_NoBits ?a_NoNote ?x_NoNote ?k_NoNote ?sb_NoNote ?ty_NoNote ?ic_NoNote ?sv_NoNote ?ss_NoNote ?hg_NoNote ?hk_NoNote ?hd_NoNote ?ha_NoNote ?hm_NoNote ?S_NoRing_NoSize ?S_NoRing_Unlike ?S_NoRing_NoBits ?S_NoRing_NoNote ?S_NoRing_RingError ?S_NoNote_NoRing ?S_NoNote_NoSize ?S_NoNote_Unlike ?S_NoNote_NoBits ?S_NoNote_RingError
    (case a_asked => k_is)
    (case l_asked => k_is)
    (case co_asked => k_is)
    (case k_asked => k_is)
    (case a_number_of => k_is)
    (case l_number_of => k_is)
    (case co_number_of => k_is)
    (case k_number_of => k_is)
    (case a_read => k_is)
    (case l_read => k_is)
    (case co_read => k_is)
    (case k_read => k_is)
    (case a_l_cell_at => k_is)
    (case l_l_cell_at => k_is)
    (case co_l_cell_at => k_is)
    (case k_l_cell_at => k_is)
    (case a_l_draw => k_is)
    (case l_l_draw => k_is)
    (case co_l_draw => k_is)
    (case k_l_draw => k_is)
    (case a_l_ring_by => k_is)
    (case l_l_ring_by => k_is)
    (case co_l_ring_by => k_is)
    (case k_l_ring_by => k_is)
    (case a_l_word_of => k_is)
    (case l_l_word_of => k_is)
    (case co_l_word_of => k_is)
    (case k_l_word_of => k_is)
    (case a_l_tried => k_is)
    (case l_l_tried => k_is)
    (case co_l_tried => k_is)
    (case k_l_tried => k_is)
    (case a_l_odd => k_is)
    (case l_l_odd => k_is)
    (case co_l_odd => k_is)
    (case k_l_odd => k_is)
    (case a_law => k_is)
    (case l_law => k_is)
    (case co_law => k_is)
    (case k_law => k_is)
    (case c_FEWEST => k_is)
    (case c_MOST => k_is)
    (case c_GREATEST => k_is)
    (case c_FIGURES => k_is)
    (case z_ValueError => k_is)
    (case z_int => k_is)
    (case z_isinstance => k_is)
    (case z_len => k_is)
    (case z_list => k_is)
    (case z_range => k_is)
    (case z_str => k_is)
    (case sp_ => k_is)
    (case tk_ => k_is)
    (case a_RingError => k_is)
    (case x_RingError => k_exc)
    (case k_RingError => k_is)
    (case sb_RingError => k_is)
    (case ty_RingError => k_is)
    (case ic_RingError => k_is)
    (case sv_RingError => k_is)
    (case ss_RingError => k_is)
    (case hg_RingError => k_is)
    (case hk_RingError => k_is)
    (case hd_RingError => k_is)
    (case ha_RingError => k_is)
    (case hm_RingError => k_is)
    (case a_NoRing => k_is)
    (case x_NoRing => k_exc)
    (case k_NoRing => k_is)
    (case sb_NoRing => k_is)
    (case ty_NoRing => k_is)
    (case ic_NoRing => k_is)
    (case sv_NoRing => k_is)
    (case ss_NoRing => k_is)
    (case hg_NoRing => k_is)
    (case hk_NoRing => k_is)
    (case hd_NoRing => k_is)
    (case ha_NoRing => k_is)
    (case hm_NoRing => k_is)
    (case a_NoSize => k_is)
    (case x_NoSize => k_exc)
    (case k_NoSize => k_is)
    (case sb_NoSize => k_is)
    (case ty_NoSize => k_is)
    (case ic_NoSize => k_is)
    (case sv_NoSize => k_is)
    (case ss_NoSize => k_is)
    (case hg_NoSize => k_is)
    (case hk_NoSize => k_is)
    (case hd_NoSize => k_is)
    (case ha_NoSize => k_is)
    (case hm_NoSize => k_is)
    (case a_Unlike => k_is)
    (case x_Unlike => k_exc)
    (case k_Unlike => k_is)
    (case sb_Unlike => k_is)
    (case ty_Unlike => k_is)
    (case ic_Unlike => k_is)
    (case sv_Unlike => k_is)
    (case ss_Unlike => k_is)
    (case hg_Unlike => k_is)
    (case hk_Unlike => k_is)
    (case hd_Unlike => k_is)
    (case ha_Unlike => k_is)
    (case hm_Unlike => k_is)
    (case a_NoBits => k_is)
    (case x_NoBits => k_exc)
    (case k_NoBits => k_is)
    (case sb_NoBits => k_is)
    (case ty_NoBits => k_is)
    (case ic_NoBits => k_is)
    (case sv_NoBits => k_is)
    (case ss_NoBits => k_is)
    (case hg_NoBits => k_is)
    (case hk_NoBits => k_is)
    (case hd_NoBits => k_is)
    (case ha_NoBits => k_is)
    (case hm_NoBits => k_is)
    (case a_NoNote => k_is)
    (case x_NoNote => k_exc)
    (case k_NoNote => k_is)
    (case sb_NoNote => k_is)
    (case ty_NoNote => k_is)
    (case ic_NoNote => k_is)
    (case sv_NoNote => k_is)
    (case ss_NoNote => k_is)
    (case hg_NoNote => k_is)
    (case hk_NoNote => k_is)
    (case hd_NoNote => k_is)
    (case ha_NoNote => k_is)
    (case hm_NoNote => k_is)
    (case S_NoRing_NoSize => k_is)
    (case S_NoRing_Unlike => k_is)
    (case S_NoRing_NoBits => k_is)
    (case S_NoRing_NoNote => k_is)
    (case S_NoRing_RingError => k_is)
    (case S_NoNote_NoRing => k_is)
    (case S_NoNote_NoSize => k_is)
    (case S_NoNote_Unlike => k_is)
    (case S_NoNote_NoBits => k_is)
    (case S_NoNote_RingError => k_is)
