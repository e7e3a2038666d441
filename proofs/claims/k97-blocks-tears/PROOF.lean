import PyProof.Rows.All
import Wide.All
import OpenK.AllK
import Wide.FinOn
import HandS.Conv
import HandS.Deep
import HandS.Defaults
import HandS.DictComp
import HandS.DictTup
import HandS.ForExc
import HandS.ForMost
import HandS.IsInst
import HandS.OwnEq
import HandS.Style
import HandS.TryMany
import HandS.TupLen
import HandS.Wide
import KE.KOpsOwn
import KE.KSortTupG
import PyProof.DictMoreH
import PySem.Challenge.RW_linkwork_k97_whole_blocks_and_tears
set_option Elab.async false
set_option linter.all false
section
set_option linter.all false
namespace K97
/-! ## sums -/
def sm (l : List Nat) (f : Nat → Rat) : Rat := match l with
  | [] => 0
  | j :: r => f j + sm r f
theorem sm_nil (f : Nat → Rat) : sm [] f = 0 := rfl
theorem sm_cons (j : Nat) (r : List Nat) (f : Nat → Rat) : sm (j :: r) f = f j + sm r f := rfl
theorem sm_congr {l : List Nat} {f g : Nat → Rat} (h : ∀ j ∈ l, f j = g j) : sm l f = sm l g := by
  induction l with
  | nil => rfl
  | cons a r ih =>
    rw [sm_cons, sm_cons, h a List.mem_cons_self, ih fun j hj => h j (List.mem_cons_of_mem _ hj)]
theorem sm_zero {l : List Nat} {f : Nat → Rat} (h : ∀ j ∈ l, f j = 0) : sm l f = 0 := by
  induction l with
  | nil => rfl
  | cons a r ih =>
    rw [sm_cons, h a List.mem_cons_self, ih fun j hj => h j (List.mem_cons_of_mem _ hj)]
    grind
theorem sm_add (l : List Nat) (f g : Nat → Rat) : sm l (fun j => f j + g j) = sm l f + sm l g := by
  induction l with
  | nil => grind [sm]
  | cons a r ih => rw [sm_cons, sm_cons, sm_cons, ih]; grind
theorem sm_sub (l : List Nat) (f g : Nat → Rat) : sm l (fun j => f j - g j) = sm l f - sm l g := by
  induction l with
  | nil => grind [sm]
  | cons a r ih => rw [sm_cons, sm_cons, sm_cons, ih]; grind
theorem sm_mul (l : List Nat) (c : Rat) (f : Nat → Rat) : sm l (fun j => c * f j) = c * sm l f := by
  induction l with
  | nil => grind [sm]
  | cons a r ih => rw [sm_cons, sm_cons, ih]; grind
theorem sm_append (l m : List Nat) (f : Nat → Rat) : sm (l ++ m) f = sm l f + sm m f := by
  induction l with
  | nil => rw [List.nil_append, sm_nil]; grind
  | cons a r ih => rw [List.cons_append, sm_cons, sm_cons, ih]; grind
theorem sm_perm {l m : List Nat} (h : l.Perm m) (f : Nat → Rat) : sm l f = sm m f := by
  induction h with
  | nil => rfl
  | cons x _ ih => rw [sm_cons, sm_cons, ih]
  | swap x y l => rw [sm_cons, sm_cons, sm_cons, sm_cons]; grind
  | trans _ _ a b => rw [a, b]
theorem sm_erase {l : List Nat} {p : Nat} (hp : p ∈ l) (f : Nat → Rat) : sm l f = f p + sm (l.erase p) f := by
  rw [sm_perm (List.perm_cons_erase hp) f, sm_cons]
theorem sm_filter (l : List Nat) (q : Nat → Bool) (f : Nat → Rat) (h : ∀ j ∈ l, q j = false → f j = 0) : sm l f = sm (l.filter q) f := by
  induction l with
  | nil => rfl
  | cons a r ih =>
    have ih' := ih fun j hj => h j (List.mem_cons_of_mem _ hj)
    cases e : q a with
    | true => rw [List.filter_cons_of_pos e, sm_cons, sm_cons, ih']
    | false =>
      rw [List.filter_cons_of_neg (by rw [e]; decide), sm_cons, ih', h a List.mem_cons_self e]
      grind
/-- only one place counts -/
theorem sm_single {l : List Nat} (hn : l.Nodup) {p : Nat} (hp : p ∈ l) (f : Nat → Rat) (h : ∀ j ∈ l, j ≠ p → f j = 0) : sm l f = f p := by
  rw [sm_erase hp f, sm_zero (l := l.erase p)]
  · grind
  · intro j hj
    exact h j (List.mem_of_mem_erase hj) fun e => by
      subst e
      exact (hn.not_mem_erase) hj

/-! ## fewer equations than unknowns -/
theorem dim {I : Type} : ∀ (rows : List I) (a : I → Nat → Rat) (cols : List Nat), cols.Nodup → rows.length < cols.length →
    ∃ x : Nat → Rat, (∃ j ∈ cols, x j ≠ 0) ∧ ∀ i ∈ rows, sm cols (fun j => a i j * x j) = 0
  | [], a, cols, _, hl => by
    cases cols with
    | nil => simp at hl
    | cons j r => exact ⟨fun _ => 1, ⟨j, List.mem_cons_self, (by decide : (1 : Rat) ≠ 0)⟩, fun i hi => by simp at hi⟩
  | i :: rs, a, cols, hn, hl => by
    by_cases hz : ∀ j ∈ cols, a i j = 0
    · obtain ⟨x, hx, h⟩ := dim rs a cols hn (by rw [List.length_cons] at hl; omega)
      refine ⟨x, hx, fun k hk => ?_⟩
      rcases List.mem_cons.mp hk with rfl | hk
      · exact sm_zero fun j hj => by rw [hz j hj]; grind
      · exact h k hk
    · obtain ⟨p, hp, hne⟩ : ∃ p, p ∈ cols ∧ a i p ≠ 0 := by
        refine Classical.byContradiction fun hc => hz fun j hj => Classical.byContradiction fun hq => hc ⟨j, hj, hq⟩
      have hn' : (cols.erase p).Nodup := hn.erase p
      have hp' : p ∉ cols.erase p := hn.not_mem_erase
      have hl' : rs.length < (cols.erase p).length := by
        rw [List.length_erase_of_mem hp]
        rw [List.length_cons] at hl
        omega
      obtain ⟨x', ⟨q, hq, hxq⟩, h⟩ := dim rs (fun k j => a k j - a k p / a i p * a i j) (cols.erase p) hn' hl'
      have nq : ∀ j ∈ cols.erase p, j ≠ p := fun j hj e => by subst e; exact hp' hj
      let x : Nat → Rat := fun j => if j = p then -(sm (cols.erase p) fun j => a i j * x' j) / a i p else x' j
      have xp : x p = -(sm (cols.erase p) fun j => a i j * x' j) / a i p := if_pos rfl
      have xe : ∀ (k : I), sm (cols.erase p) (fun j => a k j * x j) = sm (cols.erase p) fun j => a k j * x' j := fun k =>
        sm_congr fun j hj => by
          show a k j * (if j = p then _ else x' j) = _
          rw [if_neg (nq j hj)]
      refine ⟨x, ⟨q, List.mem_of_mem_erase hq, ?_⟩, fun k hk => ?_⟩
      · show (if q = p then _ else x' q) ≠ 0
        rw [if_neg (nq q hq)]
        exact hxq
      · rw [sm_erase hp, xe k, xp]
        rcases List.mem_cons.mp hk with rfl | hk
        · grind
        · have hk' := h k hk
          have e : sm (cols.erase p) (fun j => (a k j - a k p / a i p * a i j) * x' j) = sm (cols.erase p) (fun j => a k j * x' j) - a k p / a i p * sm (cols.erase p) (fun j => a i j * x' j) := by
            rw [← sm_mul, ← sm_sub]
            exact sm_congr fun j _ => by grind
          rw [e] at hk'
          grind

theorem sub_len {T : Type} [BEq T] [LawfulBEq T] : ∀ (l m : List T), l.Nodup → (∀ x ∈ l, x ∈ m) → l.length ≤ m.length
  | [], m, _, _ => Nat.zero_le _
  | x :: l, m, hn, h => by
    have hx : x ∈ m := h x List.mem_cons_self
    have hn' := List.nodup_cons.mp hn
    have ih := sub_len l (m.erase x) hn'.2 fun y hy => (List.mem_erase_of_ne (fun e => by subst e; exact hn'.1 hy)).mpr (h y (List.mem_cons_of_mem _ hy))
    rw [List.length_erase_of_mem hx] at ih
    have : 0 < m.length := List.length_pos_of_mem hx
    rw [List.length_cons]
    omega
/-- n different numbers below n are all -/
theorem cover {l : List Nat} {n : Nat} (hn : l.Nodup) (hb : ∀ x ∈ l, x < n) (hl : n ≤ l.length) {j : Nat} (hj : j < n) : j ∈ l := by
  refine Classical.byContradiction fun hc => ?_
  have h1 := sub_len l ((List.range n).erase j) hn fun x hx =>
    (List.mem_erase_of_ne (fun e => by subst e; exact hc hx)).mpr (List.mem_range.mpr (hb x hx))
  rw [List.length_erase_of_mem (List.mem_range.mpr hj), List.length_range] at h1
  omega

/-! ## square matrices -/
abbrev Row := List Rat
abbrev Mat := List Row
def at0 (r : Row) (j : Nat) : Rat := r.getD j 0
def row (A : Mat) (i : Nat) : Row := A.getD i []
def ent (A : Mat) (i j : Nat) : Rat := at0 (row A i) j
/-- the row r at the first n places of x -/
def dot (n : Nat) (r : Row) (x : Nat → Rat) : Rat := sm (List.range n) fun j => at0 r j * x j
structure Sq (A : Mat) (n : Nat) : Prop where
  len : A.length = n
  row : ∀ r ∈ A, r.length = n
def Solves (A : Mat) (b : Row) (n : Nat) (x : Nat → Rat) : Prop := ∀ i, i < A.length → dot n (row A i) x = at0 b i
def Reg (A : Mat) (n : Nat) : Prop := ∀ x : Nat → Rat, (∀ i, i < A.length → dot n (row A i) x = 0) → ∀ j, j < n → x j = 0
theorem dot_congr {n : Nat} {r : Row} {x y : Nat → Rat} (h : ∀ j, j < n → x j = y j) : dot n r x = dot n r y :=
  sm_congr fun j hj => by rw [h j (List.mem_range.mp hj)]
theorem dot_sub (n : Nat) (r : Row) (x y : Nat → Rat) : dot n r (fun j => x j - y j) = dot n r x - dot n r y := by
  unfold dot
  rw [← sm_sub]
  exact sm_congr fun j _ => by grind
theorem row_mem {A : Mat} {i : Nat} (h : i < A.length) : row A i ∈ A := by
  unfold row
  rw [List.getD_eq_getElem?_getD, List.getElem?_eq_getElem h]
  exact List.getElem_mem h
theorem mem_row {A : Mat} {r : Row} (h : r ∈ A) : ∃ i, i < A.length ∧ row A i = r := by
  obtain ⟨i, hi, e⟩ := List.getElem_of_mem h
  refine ⟨i, hi, ?_⟩
  unfold row
  rw [List.getD_eq_getElem?_getD, List.getElem?_eq_getElem hi]
  exact e
theorem Sq.rowlen {A : Mat} {n : Nat} (s : Sq A n) {i : Nat} (h : i < n) : (K97.row A i).length = n := s.row _ (row_mem (by rw [s.len]; exact h))
/-- at most one solution -/
theorem Reg.uniq {A : Mat} {b : Row} {n : Nat} (hr : Reg A n) {x y : Nat → Rat} (hx : Solves A b n x) (hy : Solves A b n y) : ∀ j, j < n → x j = y j := fun j hj => by
  have h := hr (fun j => x j - y j) (fun i hi => by rw [dot_sub, hx i hi, hy i hi]; grind) j hj
  grind
/-- too few equations -/
theorem few {A : Mat} {n : Nat} (rows : List Row) (hl : rows.length < n) (h : ∀ x : Nat → Rat, (∀ r ∈ rows, dot n r x = 0) → ∀ i, i < A.length → dot n (row A i) x = 0) : ¬ Reg A n := fun hr => by
  obtain ⟨x, ⟨j, hj, hx⟩, h0⟩ := dim rows (fun r j => at0 r j) (List.range n) List.nodup_range (by rw [List.length_range]; exact hl)
  exact hx (hr x (h x h0) j (List.mem_range.mp hj))
end K97
end
section
set_option linter.all false
namespace K97
/-! ## sizes of fractions -/
def Sz (k : Nat) (q : Rat) : Prop := q.num.natAbs ≤ 2 ^ k ∧ q.den ≤ 2 ^ k
theorem p2 {a b : Nat} (h : a ≤ b) : 2 ^ a ≤ 2 ^ b := Nat.pow_le_pow_right (by decide) h
theorem Sz.mono {a b : Nat} {q : Rat} (h : Sz a q) (l : a ≤ b) : Sz b q := ⟨Nat.le_trans h.1 (p2 l), Nat.le_trans h.2 (p2 l)⟩
theorem Sz.divInt {a b : Int} {k : Nat} (ha : a.natAbs ≤ 2 ^ k) (hb : b.natAbs ≤ 2 ^ k) : Sz k (Rat.divInt a b) := by
  constructor
  · rw [Rat.num_divInt]
    have h1 : (b.sign * a / ((b.gcd a : Nat) : Int)).natAbs ≤ (b.sign * a).natAbs := Int.natAbs_ediv_le_natAbs _ _
    have h2 : (b.sign * a).natAbs ≤ a.natAbs := by
      rw [Int.natAbs_mul]
      have : b.sign.natAbs ≤ 1 := by
        rcases Int.lt_trichotomy b 0 with h | h | h
        · rw [Int.sign_eq_neg_one_of_neg h]; decide
        · subst h; decide
        · rw [Int.sign_eq_one_of_pos h]; decide
      calc b.sign.natAbs * a.natAbs ≤ 1 * a.natAbs := Nat.mul_le_mul_right _ this
        _ = a.natAbs := Nat.one_mul _
    omega
  · rw [Rat.den_divInt]
    split
    · exact Nat.one_le_two_pow
    · exact Nat.le_trans (Nat.div_le_self _ _) hb
theorem Rat.as_divInt (q : Rat) : q = Rat.divInt q.num q.den := (Rat.num_divInt_den q).symm
theorem pmul {a b x y : Nat} (ha : x ≤ 2 ^ a) (hb : y ≤ 2 ^ b) : x * y ≤ 2 ^ (a + b) := by
  rw [Nat.pow_add]; exact Nat.mul_le_mul ha hb
theorem den_ne (q : Rat) : (q.den : Int) ≠ 0 := by have := q.den_nz; omega
theorem mul_divInt (p q : Rat) : p * q = Rat.divInt (p.num * q.num) (p.den * q.den) := by
  rw [← Rat.divInt_mul_divInt, Rat.num_divInt_den, Rat.num_divInt_den]
theorem add_divInt (p q : Rat) : p + q = Rat.divInt (p.num * q.den + q.num * p.den) (p.den * q.den) := by
  have h := Rat.divInt_add_divInt p.num q.num (den_ne p) (den_ne q)
  rw [Rat.num_divInt_den, Rat.num_divInt_den] at h
  exact h
theorem sub_divInt (p q : Rat) : p - q = Rat.divInt (p.num * q.den - q.num * p.den) (p.den * q.den) := by
  have h := Rat.divInt_sub_divInt p.num q.num (den_ne p) (den_ne q)
  rw [Rat.num_divInt_den, Rat.num_divInt_den] at h
  exact h
theorem div_divInt (p q : Rat) : p / q = Rat.divInt (p.num * q.den) (p.den * q.num) := by
  rw [Rat.div_def]
  have h : q⁻¹ = Rat.divInt q.den q.num := by
    have h2 := Rat.inv_divInt q.num q.den
    rw [Rat.num_divInt_den] at h2
    exact h2
  rw [h]
  have h3 := Rat.divInt_mul_divInt p.num (q.den : Int) (d₁ := (p.den : Int)) (d₂ := q.num)
  rw [Rat.num_divInt_den] at h3
  exact h3
/-- what is reckoned ahead of the reducing -/
structure Raw (k : Nat) (n d : Int) : Prop where
  top : n.natAbs ≤ 2 ^ k
  bot : d.natAbs ≤ 2 ^ k
theorem raw_mul {a b : Nat} {p q : Rat} (hp : Sz a p) (hq : Sz b q) : Raw (a + b) (p.num * q.num) (p.den * q.den) := by
  constructor
  · rw [Int.natAbs_mul]; exact pmul hp.1 hq.1
  · rw [Int.natAbs_mul, Int.natAbs_natCast, Int.natAbs_natCast]; exact pmul hp.2 hq.2
theorem cross {a b : Nat} {p q : Rat} (hp : Sz a p) (hq : Sz b q) : (p.num * q.den).natAbs ≤ 2 ^ (a + b) ∧ (q.num * p.den).natAbs ≤ 2 ^ (a + b) := by
  constructor
  · rw [Int.natAbs_mul, Int.natAbs_natCast]; exact pmul hp.1 hq.2
  · rw [Int.natAbs_mul, Int.natAbs_natCast, Nat.add_comm]; exact pmul hq.1 hp.2
theorem raw_add {a b : Nat} {p q : Rat} (hp : Sz a p) (hq : Sz b q) : Raw (a + b + 1) (p.num * q.den + q.num * p.den) (p.den * q.den) := by
  obtain ⟨h1, h2⟩ := cross hp hq
  constructor
  · have := Int.natAbs_add_le (p.num * q.den) (q.num * p.den)
    rw [Nat.pow_succ]; omega
  · exact Nat.le_trans (raw_mul hp hq).bot (p2 (Nat.le_succ _))
theorem raw_sub {a b : Nat} {p q : Rat} (hp : Sz a p) (hq : Sz b q) : Raw (a + b + 1) (p.num * q.den - q.num * p.den) (p.den * q.den) := by
  obtain ⟨h1, h2⟩ := cross hp hq
  constructor
  · have := Int.natAbs_sub_le (p.num * q.den) (q.num * p.den)
    rw [Nat.pow_succ]; omega
  · exact Nat.le_trans (raw_mul hp hq).bot (p2 (Nat.le_succ _))
theorem raw_div {a b : Nat} {p q : Rat} (hp : Sz a p) (hq : Sz b q) : Raw (a + b) (p.num * q.den) (p.den * q.num) := by
  obtain ⟨h1, h2⟩ := cross hp hq
  exact ⟨h1, by rw [Int.mul_comm]; exact h2⟩
theorem Sz.mul {a b : Nat} {p q : Rat} (hp : Sz a p) (hq : Sz b q) : Sz (a + b) (p * q) := by
  rw [mul_divInt]; exact .divInt (raw_mul hp hq).top (raw_mul hp hq).bot
theorem Sz.add {a b : Nat} {p q : Rat} (hp : Sz a p) (hq : Sz b q) : Sz (a + b + 1) (p + q) := by
  rw [add_divInt]; exact .divInt (raw_add hp hq).top (raw_add hp hq).bot
theorem Sz.sub {a b : Nat} {p q : Rat} (hp : Sz a p) (hq : Sz b q) : Sz (a + b + 1) (p - q) := by
  rw [sub_divInt]; exact .divInt (raw_sub hp hq).top (raw_sub hp hq).bot
theorem Sz.div {a b : Nat} {p q : Rat} (hp : Sz a p) (hq : Sz b q) : Sz (a + b) (p / q) := by
  rw [div_divInt]; exact .divInt (raw_div hp hq).top (raw_div hp hq).bot
theorem Sz.neg {a : Nat} {p : Rat} (hp : Sz a p) : Sz a (-p) := by
  unfold Sz
  rw [Rat.neg_num, Rat.neg_den, Int.natAbs_neg]
  exact hp
theorem Sz.zero {a : Nat} : Sz a 0 := ⟨by show Int.natAbs 0 ≤ _; exact Nat.zero_le _, by show (1 : Nat) ≤ _; exact Nat.one_le_two_pow⟩
theorem Sz.one {a : Nat} : Sz a 1 := ⟨by show (1 : Nat) ≤ _; exact Nat.one_le_two_pow, by show (1 : Nat) ≤ _; exact Nat.one_le_two_pow⟩
/-- the entries of the law's matrix -/
def Ent (q : Rat) : Prop := q.num.natAbs ≤ 4 ∧ q.den ≤ 2
theorem Ent.sz {q : Rat} (h : Ent q) : Sz 2 q := ⟨h.1, Nat.le_trans h.2 (by decide)⟩
theorem Ent.zero : Ent 0 := ⟨by decide, by decide⟩
theorem Ent.int {q : Rat} (h : Ent q) : ∃ z : Int, q = (1 / 2 : Rat) * (z : Rat) ∧ z.natAbs ≤ 2 ^ 3 := by
  have hd : q.den = 1 ∨ q.den = 2 := by have := q.den_pos; have := h.2; omega
  have hq : q = (q.num : Rat) / ((q.den : Int) : Rat) := by
    conv => lhs; rw [← Rat.num_divInt_den q]
    rw [Rat.divInt_eq_div]
  rcases hd with e | e
  · refine ⟨2 * q.num, ?_, ?_⟩
    · rw [e] at hq
      rw [hq, Rat.intCast_mul]
      grind
    · have := h.1; omega
  · refine ⟨q.num, ?_, ?_⟩
    · rw [e] at hq
      rw [hq]
      grind
    · have := h.1; omega
theorem Ent.mk {n d : Int} (hn : n.natAbs ≤ 4) (hd : d = 1 ∨ d = 2) : Ent (Rat.divInt n d) := by
  constructor
  · have h := (Sz.divInt (k := 2) (a := n) (b := d) hn (by rcases hd with rfl | rfl <;> decide)).1
    exact h
  · have h := (Sz.divInt (k := 2) (a := n) (b := d) hn (by rcases hd with rfl | rfl <;> decide)).2
    rw [Rat.den_divInt]
    rcases hd with rfl | rfl
    · rw [if_neg (by decide)]
      exact Nat.le_trans (Nat.div_le_self _ _) (by decide)
    · rw [if_neg (by decide)]
      exact Nat.le_trans (Nat.div_le_self _ _) (by decide)
end K97
end
section
set_option linter.all false
namespace K97
/-! ## the law's own elimination -/
def less (r one : Row) (c : Nat) : Row := (List.range r.length).map fun k => at0 r k - at0 r c * at0 one k
def lead (r : Row) (c : Nat) : Row := r.map fun x => x / at0 r c
def picks (L : Mat) (c : Nat) : List Nat := (List.range L.length).filter fun k => decide (ent L k c ≠ 0)
def lawStep (c : Nat) (L D : Mat) : Option (Mat × Mat) :=
  match picks L c with
  | [] => none
  | p :: _ => some ((L.eraseIdx p).map (fun r => less r (lead (row L p) c) c), D.map (fun r => less r (lead (row L p) c) c) ++ [lead (row L p) c])
def lawLoop : List Nat → Mat → Mat → Option Mat
  | [], _, D => some D
  | c :: cs, L, D => match lawStep c L D with
    | none => none
    | some (L', D') => lawLoop cs L' D'
def aug (A : Mat) (b : Row) : Mat := (List.range A.length).map fun k => row A k ++ [at0 b k]
def lawSol (A : Mat) (b : Row) : Option Row := (lawLoop (List.range A.length) (aug A b) []).map fun D => D.map fun r => at0 r A.length

theorem at0_lt {r : Row} {j : Nat} (h : j < r.length) : at0 r j = r[j] := by
  unfold at0
  rw [List.getD_eq_getElem?_getD, List.getElem?_eq_getElem h]
  rfl
theorem at0_map_range {n : Nat} {f : Nat → Rat} {j : Nat} (h : j < n) : at0 ((List.range n).map f) j = f j := by
  rw [at0_lt (by rw [List.length_map, List.length_range]; exact h)]
  rw [List.getElem_map, List.getElem_range]
theorem less_len (r one : Row) (c : Nat) : (less r one c).length = r.length := by
  unfold less
  rw [List.length_map, List.length_range]
theorem lead_len (r : Row) (c : Nat) : (lead r c).length = r.length := List.length_map _
theorem at_less {r one : Row} {c j : Nat} (h : j < r.length) : at0 (less r one c) j = at0 r j - at0 r c * at0 one j := at0_map_range h
theorem at_lead {r : Row} {c j : Nat} (h : j < r.length) : at0 (lead r c) j = at0 r j / at0 r c := by
  rw [at0_lt (by rw [lead_len]; exact h), at0_lt h]
  unfold lead
  rw [List.getElem_map]
theorem dot_less {N : Nat} {r one : Row} {c : Nat} (h : r.length = N) (y : Nat → Rat) : dot N (less r one c) y = dot N r y - at0 r c * dot N one y := by
  unfold dot
  rw [← sm_mul, ← sm_sub]
  refine sm_congr fun j hj => ?_
  rw [at_less (by rw [h]; exact List.mem_range.mp hj)]
  grind
theorem dot_lead {N : Nat} {r : Row} {c : Nat} (h : r.length = N) (y : Nat → Rat) : dot N (lead r c) y = (1 / at0 r c) * dot N r y := by
  unfold dot
  rw [← sm_mul]
  refine sm_congr fun j hj => ?_
  rw [at_lead (by rw [h]; exact List.mem_range.mp hj)]
  grind
/-- a row is in proportion to whole numbers of b bits -/
def IntP (N b : Nat) (r : Row) : Prop := ∃ (z : Nat → Int) (l : Rat), l ≠ 0 ∧ ∀ k, k < N → at0 r k = l * (z k : Rat) ∧ (z k).natAbs ≤ 2 ^ b
/-- the state ahead of column c -/
structure LawI (O : Mat) (N c b : Nat) (L D : Mat) : Prop where
  lenL : ∀ r ∈ L, r.length = N
  lenD : ∀ r ∈ D, r.length = N
  many : D.length = c
  left : L.length + c = O.length
  zero : ∀ r ∈ L, ∀ j, j < c → at0 r j = 0
  unit : ∀ k j, k < c → j < c → ent D k j = if j = k then 1 else 0
  same : ∀ y : Nat → Rat, ((∀ r ∈ L, dot N r y = 0) ∧ ∀ r ∈ D, dot N r y = 0) ↔ ∀ r ∈ O, dot N r y = 0
  intL : ∀ r ∈ L, IntP N b r
  intD : ∀ r ∈ D, IntP N b r
theorem picks_cons {L : Mat} {c p : Nat} {ps : List Nat} (h : picks L c = p :: ps) : p < L.length ∧ ent L p c ≠ 0 := by
  have hm : p ∈ picks L c := by rw [h]; exact List.mem_cons_self
  unfold picks at hm
  obtain ⟨h1, h2⟩ := List.mem_filter.mp hm
  exact ⟨List.mem_range.mp h1, of_decide_eq_true h2⟩
theorem picks_nil {L : Mat} {c : Nat} (h : picks L c = []) : ∀ r ∈ L, at0 r c = 0 := fun r hr => by
  obtain ⟨i, hi, e⟩ := mem_row hr
  refine Classical.byContradiction fun hc => ?_
  have : i ∈ picks L c := List.mem_filter.mpr ⟨List.mem_range.mpr hi, decide_eq_true (by unfold ent; rw [e]; exact hc)⟩
  rw [h] at this
  simp at this
theorem mem_split {L : Mat} {p : Nat} (hp : p < L.length) (r : Row) : r ∈ L ↔ r = row L p ∨ r ∈ L.eraseIdx p := by
  have e : L = L.take p ++ row L p :: L.drop (p + 1) := by
    conv => lhs; rw [← List.take_append_drop p L]
    congr 1
    unfold row
    rw [List.getD_eq_getElem?_getD, List.getElem?_eq_getElem hp]
    exact List.drop_eq_getElem_cons hp
  rw [List.eraseIdx_eq_take_drop_succ]
  conv => lhs; rw [e]
  simp only [List.mem_append, List.mem_cons]
  constructor
  · rintro (h | h | h)
    · exact .inr (.inl h)
    · exact .inl h
    · exact .inr (.inr h)
  · rintro (h | h | h)
    · exact .inr (.inl h)
    · exact .inl h
    · exact .inr (.inr h)
theorem cast_ne {z : Int} (h : z ≠ 0) : (z : Rat) ≠ 0 := fun e => h (Rat.intCast_eq_zero_iff.mp e)
theorem IntP.less {N b c : Nat} {r p : Row} (hr : IntP N b r) (hp : IntP N b p) (lr : r.length = N) (lp : p.length = N) (hc : c < N) (hne : at0 p c ≠ 0) : IntP N (2 * b + 1) (less r (lead p c) c) := by
  obtain ⟨y, d, hd, hy⟩ := hr
  obtain ⟨z, l, hl, hz⟩ := hp
  have hzc : z c ≠ 0 := fun e => hne (by rw [(hz c hc).1, e]; grind)
  have hzc' := cast_ne hzc
  refine ⟨fun k => z c * y k - y c * z k, d / (z c : Rat), ?_, fun k hk => ⟨?_, ?_⟩⟩
  · intro e
    have : d = 0 := by grind
    exact hd this
  · rw [at_less (by rw [lr]; exact hk), at_lead (by rw [lp]; exact hk), (hy k hk).1, (hy c hc).1, (hz k hk).1, (hz c hc).1, Rat.intCast_sub, Rat.intCast_mul, Rat.intCast_mul]
    grind
  · have h1 : (z c * y k).natAbs ≤ 2 ^ (2 * b) := by rw [Int.natAbs_mul, show 2 * b = b + b by omega]; exact pmul (hz c hc).2 (hy k hk).2
    have h2 : (y c * z k).natAbs ≤ 2 ^ (2 * b) := by rw [Int.natAbs_mul, show 2 * b = b + b by omega]; exact pmul (hy c hc).2 (hz k hk).2
    have := Int.natAbs_sub_le (z c * y k) (y c * z k)
    rw [Nat.pow_succ]
    show (z c * y k - y c * z k).natAbs ≤ _
    omega
theorem IntP.lead {N b c : Nat} {p : Row} (hp : IntP N b p) (lp : p.length = N) (hc : c < N) (hne : at0 p c ≠ 0) : IntP N b (lead p c) := by
  obtain ⟨z, l, hl, hz⟩ := hp
  have hzc : z c ≠ 0 := fun e => hne (by rw [(hz c hc).1, e]; grind)
  have hzc' := cast_ne hzc
  refine ⟨z, 1 / (z c : Rat), by grind, fun k hk => ⟨?_, (hz k hk).2⟩⟩
  rw [at_lead (by rw [lp]; exact hk), (hz k hk).1, (hz c hc).1]
  grind
theorem IntP.mono {N b b' : Nat} {r : Row} (h : IntP N b r) (l : b ≤ b') : IntP N b' r := by
  obtain ⟨z, d, hd, hz⟩ := h
  exact ⟨z, d, hd, fun k hk => ⟨(hz k hk).1, Nat.le_trans (hz k hk).2 (p2 l)⟩⟩
theorem row_append {D : Mat} {x : Row} {k : Nat} : row (D ++ [x]) k = if k < D.length then row D k else if k = D.length then x else [] := by
  unfold row
  rw [List.getD_eq_getElem?_getD, List.getD_eq_getElem?_getD]
  by_cases h : k < D.length
  · rw [if_pos h, List.getElem?_append_left h]
  · rw [if_neg h, List.getElem?_append_right (by omega)]
    by_cases e : k = D.length
    · rw [if_pos e, e, Nat.sub_self]; rfl
    · rw [if_neg e, List.getElem?_eq_none (by simp; omega)]; rfl
theorem row_map {D : Mat} {f : Row → Row} {k : Nat} (h : k < D.length) : row (D.map f) k = f (row D k) := by
  unfold row
  rw [List.getD_eq_getElem?_getD, List.getD_eq_getElem?_getD, List.getElem?_map, List.getElem?_eq_getElem h]
  rfl
theorem LawI.step {O : Mat} {N c b p : Nat} {ps : List Nat} {L D : Mat} (I : LawI O N c b L D) (hc : c < N) (h : picks L c = p :: ps) :
    LawI O N (c + 1) (2 * b + 1) ((L.eraseIdx p).map (fun r => less r (K97.lead (row L p) c) c)) (D.map (fun r => less r (K97.lead (row L p) c) c) ++ [K97.lead (row L p) c]) := by
  obtain ⟨hp, hne⟩ := picks_cons h
  have hm : row L p ∈ L := row_mem hp
  have lp : (row L p).length = N := I.lenL _ hm
  have hne' : at0 (row L p) c ≠ 0 := hne
  have hsub : ∀ r ∈ L.eraseIdx p, r ∈ L := fun r hr => (mem_split hp r).mpr (.inr hr)
  have z1 : ∀ j, j < c → at0 (K97.lead (row L p) c) j = 0 := fun j hj => by
    rw [at_lead (by rw [lp]; omega), I.zero _ hm j hj]; grind
  have o1 : at0 (K97.lead (row L p) c) c = 1 := by
    rw [at_lead (by rw [lp]; omega)]; grind
  refine ⟨?_, ?_, ?_, ?_, ?_, ?_, ?_, ?_, ?_⟩
  · intro r hr
    obtain ⟨q, hq, rfl⟩ := List.mem_map.mp hr
    rw [less_len]; exact I.lenL q (hsub q hq)
  · intro r hr
    rcases List.mem_append.mp hr with hr | hr
    · obtain ⟨q, hq, rfl⟩ := List.mem_map.mp hr
      rw [less_len]; exact I.lenD q hq
    · rw [List.mem_singleton.mp hr, lead_len]; exact lp
  · rw [List.length_append, List.length_map, I.many]; rfl
  · rw [List.length_map, List.length_eraseIdx_of_lt hp]
    have := I.left
    omega
  · intro r hr j hj
    obtain ⟨q, hq, rfl⟩ := List.mem_map.mp hr
    have lq := I.lenL q (hsub q hq)
    rw [at_less (by rw [lq]; omega)]
    by_cases e : j = c
    · subst e; rw [o1]; grind
    · rw [I.zero q (hsub q hq) j (by omega), z1 j (by omega)]; grind
  · intro k j hk hj
    unfold ent
    rw [row_append, List.length_map, I.many]
    by_cases e : k < c
    · rw [if_pos e, row_map (by rw [I.many]; exact e)]
      have hmk : row D k ∈ D := row_mem (by rw [I.many]; exact e)
      rw [at_less (by rw [I.lenD _ hmk]; omega)]
      by_cases ej : j = c
      · subst ej; rw [o1, if_neg (by omega)]; grind
      · have hu := I.unit k j e (by omega)
        unfold ent at hu
        rw [hu, z1 j (by omega)]; grind
    · have ek : k = c := by omega
      subst ek
      rw [if_neg e, if_pos rfl]
      by_cases ej : j = k
      · subst ej; rw [o1, if_pos rfl]
      · rw [if_neg ej, z1 j (by omega)]
  · intro y
    rw [← I.same y]
    constructor
    · rintro ⟨h1, h2⟩
      have h0 : dot N (K97.lead (row L p) c) y = 0 := h2 _ (List.mem_append_right _ (List.mem_singleton.mpr rfl))
      have h0' : dot N (row L p) y = 0 := by
        rw [dot_lead lp] at h0
        grind
      constructor
      · intro r hr
        rcases (mem_split hp r).mp hr with rfl | hr
        · exact h0'
        · have := h1 _ (List.mem_map_of_mem (f := fun r => less r (K97.lead (row L p) c) c) hr)
          rw [dot_less (I.lenL r (hsub r hr)), h0] at this
          grind
      · intro r hr
        have := h2 _ (List.mem_append_left _ (List.mem_map_of_mem (f := fun r => less r (K97.lead (row L p) c) c) hr))
        rw [dot_less (I.lenD r hr), h0] at this
        grind
    · rintro ⟨h1, h2⟩
      have h0 : dot N (K97.lead (row L p) c) y = 0 := by rw [dot_lead lp, h1 _ hm]; grind
      constructor
      · intro r hr
        obtain ⟨q, hq, rfl⟩ := List.mem_map.mp hr
        rw [dot_less (I.lenL q (hsub q hq)), h0, h1 q (hsub q hq)]; grind
      · intro r hr
        rcases List.mem_append.mp hr with hr | hr
        · obtain ⟨q, hq, rfl⟩ := List.mem_map.mp hr
          rw [dot_less (I.lenD q hq), h0, h2 q hq]; grind
        · rw [List.mem_singleton.mp hr]; exact h0
  · intro r hr
    obtain ⟨q, hq, rfl⟩ := List.mem_map.mp hr
    exact (I.intL q (hsub q hq)).less (I.intL _ hm) (I.lenL q (hsub q hq)) lp hc hne'
  · intro r hr
    rcases List.mem_append.mp hr with hr | hr
    · obtain ⟨q, hq, rfl⟩ := List.mem_map.mp hr
      exact (I.intD q hq).less (I.intL _ hm) (I.lenD q hq) lp hc hne'
    · rw [List.mem_singleton.mp hr]
      exact ((I.intL _ hm).lead lp hc hne').mono (by omega)
/-- bits behind so many columns -/
def ib : Nat → Nat → Nat
  | b, 0 => b
  | b, k + 1 => ib (2 * b + 1) k
theorem lawLoop_some {O : Mat} {N : Nat} : ∀ (m c b : Nat) (L D D' : Mat), LawI O N c b L D → c + m ≤ N → lawLoop (List.range' c m) L D = some D' → ∃ L', LawI O N (c + m) (ib b m) L' D'
  | 0, c, b, L, D, D', I, _, h => by
    simp only [List.range'_zero, lawLoop, Option.some.injEq] at h
    subst h
    exact ⟨L, I⟩
  | m + 1, c, b, L, D, D', I, hN, h => by
    rw [List.range'_succ] at h
    unfold lawLoop lawStep at h
    cases e : picks L c with
    | nil => rw [e] at h; cases h
    | cons p ps =>
      rw [e] at h
      obtain ⟨L', I'⟩ := lawLoop_some m (c + 1) (2 * b + 1) _ _ D' (I.step (by omega) e) (by omega) h
      exact ⟨L', by rw [show c + (m + 1) = c + 1 + m by omega]; exact I'⟩
theorem lawLoop_none {O : Mat} {N : Nat} : ∀ (m c b : Nat) (L D : Mat), LawI O N c b L D → c + m ≤ N → lawLoop (List.range' c m) L D = none → ∃ c' b' L' D', c' < c + m ∧ LawI O N c' b' L' D' ∧ ∀ r ∈ L', at0 r c' = 0
  | 0, c, b, L, D, I, _, h => by
    simp [List.range'_zero, lawLoop] at h
  | m + 1, c, b, L, D, I, hN, h => by
    rw [List.range'_succ] at h
    unfold lawLoop lawStep at h
    cases e : picks L c with
    | nil => exact ⟨c, b, L, D, by omega, I, picks_nil e⟩
    | cons p ps =>
      rw [e] at h
      obtain ⟨c', b', L', D', h1, h2, h3⟩ := lawLoop_none m (c + 1) (2 * b + 1) _ _ (I.step (by omega) e) (by omega) h
      exact ⟨c', b', L', D', by omega, h2, h3⟩
/-! ### the start -/
def ext (n : Nat) (x : Nat → Rat) (t : Rat) : Nat → Rat := fun j => if j = n then t else x j
theorem at_snoc {r : Row} {v : Rat} {j : Nat} : at0 (r ++ [v]) j = if j < r.length then at0 r j else if j = r.length then v else 0 := by
  unfold at0
  rw [List.getD_eq_getElem?_getD, List.getD_eq_getElem?_getD]
  by_cases h : j < r.length
  · rw [if_pos h, List.getElem?_append_left h]
  · rw [if_neg h, List.getElem?_append_right (by omega)]
    by_cases e : j = r.length
    · rw [if_pos e, e, Nat.sub_self]; rfl
    · rw [if_neg e, List.getElem?_eq_none (by simp; omega)]; rfl
theorem dot_ext {r : Row} {n : Nat} (x : Nat → Rat) (t : Rat) : dot (n + 1) r (ext n x t) = dot n r x + at0 r n * t := by
  unfold dot
  rw [List.range_succ, sm_append]
  congr 1
  · refine sm_congr fun j hj => ?_
    have := List.mem_range.mp hj
    show at0 r j * (if j = n then t else x j) = _
    rw [if_neg (by omega)]
  · show at0 r n * (if n = n then t else x n) + 0 = _
    rw [if_pos rfl]; grind
theorem dot_snoc {r : Row} {v : Rat} {n : Nat} (h : r.length = n) (x : Nat → Rat) (t : Rat) : dot (n + 1) (r ++ [v]) (ext n x t) = dot n r x + v * t := by
  rw [dot_ext, at_snoc, if_neg (by omega), if_pos h.symm]
  congr 1
  refine sm_congr fun j hj => ?_
  have := List.mem_range.mp hj
  rw [at_snoc, if_pos (by omega)]
theorem mem_aug {A : Mat} {b : Row} {r : Row} : r ∈ aug A b ↔ ∃ i, i < A.length ∧ r = row A i ++ [at0 b i] := by
  unfold aug
  rw [List.mem_map]
  constructor
  · rintro ⟨i, hi, e⟩; exact ⟨i, List.mem_range.mp hi, e.symm⟩
  · rintro ⟨i, hi, e⟩; exact ⟨i, List.mem_range.mpr hi, e.symm⟩
theorem aug_solves {A : Mat} {b : Row} {n : Nat} (s : Sq A n) (x : Nat → Rat) : (∀ r ∈ aug A b, dot (n + 1) r (ext n x (-1)) = 0) ↔ Solves A b n x := by
  constructor
  · intro h i hi
    have := h _ (mem_aug.mpr ⟨i, hi, rfl⟩)
    rw [dot_snoc (s.rowlen (by rw [← s.len]; exact hi))] at this
    grind
  · intro h r hr
    obtain ⟨i, hi, rfl⟩ := mem_aug.mp hr
    rw [dot_snoc (s.rowlen (by rw [← s.len]; exact hi)), h i hi]
    grind
theorem aug_zero {A : Mat} {b : Row} {n : Nat} (s : Sq A n) (x : Nat → Rat) : (∀ r ∈ aug A b, dot (n + 1) r (ext n x 0) = 0) ↔ ∀ i, i < A.length → dot n (row A i) x = 0 := by
  constructor
  · intro h i hi
    have := h _ (mem_aug.mpr ⟨i, hi, rfl⟩)
    rw [dot_snoc (s.rowlen (by rw [← s.len]; exact hi))] at this
    grind
  · intro h r hr
    obtain ⟨i, hi, rfl⟩ := mem_aug.mp hr
    rw [dot_snoc (s.rowlen (by rw [← s.len]; exact hi)), h i hi]
    grind
theorem IntP.of_ent {N : Nat} {r : Row} (h : ∀ q ∈ r, Ent q) (hl : r.length = N) : IntP N 3 r := by
  have hz : ∀ k, ∃ z : Int, k < N → at0 r k = (1 / 2 : Rat) * (z : Rat) ∧ z.natAbs ≤ 2 ^ 3 := fun k => by
    by_cases hk : k < N
    · have e := at0_lt (r := r) (j := k) (by rw [hl]; exact hk)
      obtain ⟨z, h1, h2⟩ := (h _ (List.getElem_mem (by rw [hl]; exact hk : k < r.length))).int
      exact ⟨z, fun _ => ⟨by rw [e]; exact h1, h2⟩⟩
    · exact ⟨0, fun h => absurd h hk⟩
  refine ⟨fun k => (hz k).choose, 1 / 2, by decide +kernel, fun k hk => (hz k).choose_spec hk⟩
theorem LawI.start {A : Mat} {b : Row} {n : Nat} (s : Sq A n) (hA : ∀ r ∈ A, ∀ q ∈ r, Ent q) (hb : ∀ q ∈ b, Ent q) (lb : b.length = n) : LawI (aug A b) (n + 1) 0 3 (aug A b) [] where
  lenL := fun r hr => by
    obtain ⟨i, hi, rfl⟩ := mem_aug.mp hr
    rw [List.length_append, s.rowlen (by rw [← s.len]; exact hi)]; rfl
  lenD := fun r hr => by simp at hr
  many := rfl
  left := rfl
  zero := fun r _ j hj => by omega
  unit := fun k j hk _ => by omega
  same := fun y => ⟨fun h => h.1, fun h => ⟨h, fun r hr => by simp at hr⟩⟩
  intL := fun r hr => by
    obtain ⟨i, hi, rfl⟩ := mem_aug.mp hr
    refine IntP.of_ent (fun q hq => ?_) (by rw [List.length_append, s.rowlen (by rw [← s.len]; exact hi)]; rfl)
    rcases List.mem_append.mp hq with hq | hq
    · exact hA _ (row_mem hi) q hq
    · rw [List.mem_singleton.mp hq, at0_lt (by rw [lb, ← s.len]; exact hi)]
      exact hb _ (List.getElem_mem _)
  intD := fun r hr => by simp at hr
/-! ### what the law's elimination says -/
theorem lawSol_none {A : Mat} {b : Row} {n : Nat} (s : Sq A n) (hA : ∀ r ∈ A, ∀ q ∈ r, Ent q) (hb : ∀ q ∈ b, Ent q) (lb : b.length = n) (h : lawSol A b = none) : ¬ Reg A n := fun hr => by
  unfold lawSol at h
  rw [Option.map_eq_none_iff, s.len, List.range_eq_range'] at h
  obtain ⟨c, b', L, D, hc, I, hz⟩ := lawLoop_none n 0 3 _ _ (LawI.start s hA hb lb) (by omega) h
  have hc' : c < n := by omega
  let x : Nat → Rat := fun j => if j < c then -(ent D j c) else if j = c then 1 else 0
  have hx : ∀ i, i < A.length → dot n (row A i) x = 0 := by
    refine (aug_zero (b := b) s x).mp ((I.same _).mp ⟨fun r hr => ?_, fun r hr => ?_⟩)
    · rw [dot_ext]
      have : dot n r x = 0 := by
        refine sm_zero fun j hj => ?_
        have hj' := List.mem_range.mp hj
        by_cases h1 : j < c
        · rw [I.zero r hr j h1]; grind
        · by_cases h2 : j = c
          · subst h2; rw [hz r hr]; grind
          · show at0 r j * (if j < c then _ else if j = c then 1 else 0) = 0
            rw [if_neg h1, if_neg h2]; grind
      rw [this]; grind
    · obtain ⟨k, hk, rfl⟩ := mem_row hr
      rw [I.many] at hk
      rw [dot_ext]
      have e : dot n (row D k) x = at0 (row D k) k * x k + at0 (row D k) c * x c := by
        unfold dot
        have hkn : k ∈ List.range n := List.mem_range.mpr (by omega)
        have hcn : c ∈ (List.range n).erase k := (List.mem_erase_of_ne (by omega)).mpr (List.mem_range.mpr hc')
        rw [sm_erase hkn, sm_erase hcn, sm_zero (l := ((List.range n).erase k).erase c)]
        · grind
        · intro j hj
          have hjc : j ≠ c := fun e => by subst e; exact (List.nodup_range.erase k).not_mem_erase hj
          have hjk : j ≠ k := fun e => by subst e; exact List.nodup_range.not_mem_erase (List.mem_of_mem_erase hj)
          by_cases h1 : j < c
          · have := I.unit k j hk h1
            unfold ent at this
            rw [this, if_neg hjk]; grind
          · show at0 (row D k) j * (if j < c then _ else if j = c then 1 else 0) = 0
            rw [if_neg h1, if_neg hjc]; grind
      have u := I.unit k k hk hk
      unfold ent at u
      rw [if_pos rfl] at u
      have xk : x k = -(ent D k c) := if_pos hk
      have xc : x c = 1 := by
        show (if c < c then _ else if c = c then (1 : Rat) else 0) = 1
        rw [if_neg (by omega), if_pos rfl]
      rw [e, u, xk, xc]
      unfold ent
      grind
  have := hr x hx c hc'
  have xc : x c = 1 := by
    show (if c < c then _ else if c = c then (1 : Rat) else 0) = 1
    rw [if_neg (by omega), if_pos rfl]
  rw [xc] at this
  exact absurd this (by decide)
structure LawSol (A : Mat) (b : Row) (n : Nat) (xs : Row) : Prop where
  len : xs.length = n
  reg : Reg A n
  sol : Solves A b n (fun j => at0 xs j)
  sz : ∀ q ∈ xs, Sz (ib 3 n) q
theorem quot_sz {a b : Int} {k : Nat} (ha : a.natAbs ≤ 2 ^ k) (hb : b.natAbs ≤ 2 ^ k) : Sz k ((a : Rat) / (b : Rat)) := by
  rw [← Rat.divInt_eq_div]
  exact .divInt ha hb
theorem lawSol_some {A : Mat} {b xs : Row} {n : Nat} (s : Sq A n) (hA : ∀ r ∈ A, ∀ q ∈ r, Ent q) (hb : ∀ q ∈ b, Ent q) (lb : b.length = n) (h : lawSol A b = some xs) : LawSol A b n xs := by
  unfold lawSol at h
  obtain ⟨D, h, e⟩ := Option.map_eq_some_iff.mp h
  rw [s.len] at h e
  rw [List.range_eq_range'] at h
  obtain ⟨L, I⟩ := lawLoop_some n 0 3 _ _ D (LawI.start s hA hb lb) (by omega) h
  rw [Nat.zero_add] at I
  subst e
  have hl : (D.map fun r => at0 r n).length = n := by rw [List.length_map, I.many]
  have hx : ∀ j, j < n → at0 (D.map fun r => at0 r n) j = ent D j n := fun j hj => by
    rw [at0_lt (by rw [hl]; exact hj), List.getElem_map]
    unfold ent row
    rw [List.getD_eq_getElem?_getD, List.getElem?_eq_getElem (by rw [I.many]; exact hj)]
    rfl
  have hd : ∀ (y : Nat → Rat) (k : Nat), k < n → dot n (row D k) y = y k := fun y k hk => by
    unfold dot
    rw [sm_single List.nodup_range (List.mem_range.mpr hk)]
    · have u := I.unit k k hk hk
      unfold ent at u
      rw [u, if_pos rfl]; grind
    · intro j hj hne
      have u := I.unit k j hk (List.mem_range.mp hj)
      unfold ent at u
      rw [u, if_neg hne]; grind
  have reg : Reg A n := fun x hx' j hj => by
    have h0 := (I.same _).mpr ((aug_zero (b := b) s x).mpr hx')
    have := h0.2 _ (row_mem (A := D) (i := j) (by rw [I.many]; exact hj))
    rw [dot_ext, hd x j hj] at this
    grind
  refine ⟨hl, reg, ?_, ?_⟩
  · refine (aug_solves s _).mp ((I.same _).mp ⟨fun r hr => ?_, fun r hr => ?_⟩)
    · have e : L = [] := by
        have := I.left
        rw [show (aug A b).length = n by unfold aug; rw [List.length_map, List.length_range]; exact s.len] at this
        exact List.eq_nil_of_length_eq_zero (by omega)
      rw [e] at hr
      simp at hr
    · obtain ⟨k, hk, rfl⟩ := mem_row hr
      rw [I.many] at hk
      rw [dot_ext, hd _ k hk, hx k hk]
      unfold ent
      grind
  · intro q hq
    obtain ⟨r, hr, rfl⟩ := List.mem_map.mp hq
    obtain ⟨k, hk, rfl⟩ := mem_row hr
    rw [I.many] at hk
    obtain ⟨z, l, hl0, hz⟩ := I.intD _ hr
    have u := I.unit k k hk hk
    unfold ent at u
    rw [if_pos rfl, (hz k (by omega)).1] at u
    have e : at0 (row D k) n = (z n : Rat) / (z k : Rat) := by
      rw [(hz n (by omega)).1]
      grind
    rw [e]
    exact quot_sz (hz n (by omega)).2 (hz k (by omega)).2
end K97
end
section
set_option linter.all false
namespace K97
/-! ## the program's elimination -/
/-- a basis row: its column, the row, its constant -/
abbrev BE := Nat × Row × Rat
def subF (r : Row) (f : Rat) (o : Row) : Row := (List.range r.length).map fun k => at0 r k - f * at0 o k
def redStep (s : Row × Rat × List Rat) (e : BE) : Row × Rat × List Rat :=
  (subF s.1 (at0 s.1 e.1 / at0 e.2.1 e.1) e.2.1, s.2.1 - (at0 s.1 e.1 / at0 e.2.1 e.1) * e.2.2, s.2.2 ++ [at0 s.1 e.1 / at0 e.2.1 e.1])
def red (B : List BE) (r : Row) (c : Rat) : Row × Rat × List Rat := B.foldl redStep (r, c, [])
def nzCol (r : Row) : Option Nat := (List.range r.length).find? fun k => decide (at0 r k ≠ 0)
def fwdStep (B : List BE) (rc : Row × Rat) : Option (List BE) :=
  match nzCol (red B rc.1 rc.2).1 with
  | some c => some (B ++ [(c, (red B rc.1 rc.2).1, (red B rc.1 rc.2).2.1)])
  | none => if (red B rc.1 rc.2).2.1 = 0 then some B else none
def fwd : List (Row × Rat) → List BE → Option (List BE)
  | [], B => some B
  | rc :: rs, B => match fwdStep B rc with
    | none => none
    | some B' => fwd rs B'
def backC (e : BE) (found : Row) (k : Nat) : Rat := (List.range k).foldl (fun c j => if j = e.1 then c else c - at0 e.2.1 j * at0 found j) e.2.2
def backStep (found : Row) (e : BE) : Row := found.set e.1 (backC e found e.2.1.length / at0 e.2.1 e.1)
def back (B : List BE) (n : Nat) : Row := B.reverse.foldl backStep (List.replicate n 0)
inductive Told where
  | none | many | sol (xs : Row)
def width (A : Mat) : Nat := (A.headD []).length
def solveL (A : Mat) (b : Row) : Told :=
  match fwd (A.zip b) [] with
  | none => .none
  | some B => if B.length < width A then .many else .sol (back B (width A))

theorem subF_len (r o : Row) (f : Rat) : (subF r f o).length = r.length := by unfold subF; rw [List.length_map, List.length_range]
theorem at_subF {r o : Row} {f : Rat} {j : Nat} (h : j < r.length) : at0 (subF r f o) j = at0 r j - f * at0 o j := at0_map_range h
theorem dot_subF {N : Nat} {r o : Row} {f : Rat} (h : r.length = N) (x : Nat → Rat) : dot N (subF r f o) x = dot N r x - f * dot N o x := by
  unfold dot
  rw [← sm_mul, ← sm_sub]
  refine sm_congr fun j hj => ?_
  rw [at_subF (by rw [h]; exact List.mem_range.mp hj)]
  grind
structure Bas (N : Nat) (B : List BE) : Prop where
  len : ∀ e ∈ B, e.2.1.length = N
  col : ∀ e ∈ B, e.1 < N
  ne : ∀ e ∈ B, at0 e.2.1 e.1 ≠ 0
  tri : B.Pairwise fun e f => at0 f.2.1 e.1 = 0
theorem Bas.nil {N : Nat} : Bas N [] := ⟨fun _ h => (by simp at h), fun _ h => (by simp at h), fun _ h => (by simp at h), .nil⟩
theorem Bas.tail {N : Nat} {e : BE} {B : List BE} (h : Bas N (e :: B)) : Bas N B :=
  ⟨fun f hf => h.len f (List.mem_cons_of_mem _ hf), fun f hf => h.col f (List.mem_cons_of_mem _ hf), fun f hf => h.ne f (List.mem_cons_of_mem _ hf), (List.pairwise_cons.mp h.tri).2⟩
/-- the rows of B hold at x, t -/
def Van (N : Nat) (B : List BE) (x : Nat → Rat) (t : Rat) : Prop := ∀ e ∈ B, dot N e.2.1 x = e.2.2 * t
def VanR (N : Nat) (rs : List (Row × Rat)) (x : Nat → Rat) (t : Rat) : Prop := ∀ rc ∈ rs, dot N rc.1 x = rc.2 * t
theorem fold_red {N : Nat} : ∀ (B : List BE) (s : Row × Rat × List Rat), Bas N B → s.1.length = N →
    (B.foldl redStep s).1.length = N ∧
    (∀ x t, Van N B x t → dot N (B.foldl redStep s).1 x - (B.foldl redStep s).2.1 * t = dot N s.1 x - s.2.1 * t) ∧
    (∀ j, (∀ e ∈ B, at0 e.2.1 j = 0) → at0 s.1 j = 0 → j < N → at0 (B.foldl redStep s).1 j = 0) ∧
    ∀ e ∈ B, at0 (B.foldl redStep s).1 e.1 = 0
  | [], s, _, hl => ⟨hl, fun _ _ _ => rfl, fun _ _ h _ => h, fun e he => by simp at he⟩
  | e :: B, s, hB, hl => by
    obtain ⟨h1, h2, h3, h4⟩ := fold_red B (redStep s e) hB.tail (by unfold redStep; rw [subF_len]; exact hl)
    have hc := hB.col e List.mem_cons_self
    have hne := hB.ne e List.mem_cons_self
    have zc : at0 (redStep s e).1 e.1 = 0 := by
      show at0 (subF s.1 _ e.2.1) e.1 = 0
      rw [at_subF (by rw [hl]; exact hc)]
      grind
    refine ⟨h1, fun x t hv => ?_, fun j hj h0 hN => ?_, fun f hf => ?_⟩
    · rw [List.foldl_cons, h2 x t fun f hf => hv f (List.mem_cons_of_mem _ hf)]
      have he := hv e List.mem_cons_self
      show dot N (subF s.1 _ e.2.1) x - (s.2.1 - _ * e.2.2) * t = _
      rw [dot_subF hl, he]
      grind
    · rw [List.foldl_cons]
      refine h3 j (fun f hf => hj f (List.mem_cons_of_mem _ hf)) ?_ hN
      show at0 (subF s.1 _ e.2.1) j = 0
      rw [at_subF (by rw [hl]; exact hN), h0, hj e List.mem_cons_self]
      grind
    · rw [List.foldl_cons]
      rcases List.mem_cons.mp hf with rfl | hf
      · exact h3 f.1 (fun g hg => (List.pairwise_cons.mp hB.tri).1 g hg) zc hc
      · exact h4 f hf
theorem nz_some {r : Row} {c : Nat} (h : nzCol r = some c) : c < r.length ∧ at0 r c ≠ 0 := by
  unfold nzCol at h
  have h1 := List.mem_of_find?_eq_some h
  have h2 := List.find?_some h
  exact ⟨List.mem_range.mp h1, of_decide_eq_true h2⟩
theorem nz_none {r : Row} (h : nzCol r = none) : ∀ j, at0 r j = 0 := fun j => by
  unfold nzCol at h
  rw [List.find?_eq_none] at h
  by_cases hj : j < r.length
  · have := h j (List.mem_range.mpr hj)
    simpa using this
  · unfold at0
    rw [List.getD_eq_getElem?_getD, List.getElem?_eq_none (by omega)]
    rfl
theorem Bas.snoc {N : Nat} {B : List BE} {r : Row} {v : Rat} {c : Nat} (hB : Bas N B) (hl : r.length = N) (hc : c < N) (hne : at0 r c ≠ 0) (hz : ∀ e ∈ B, at0 r e.1 = 0) : Bas N (B ++ [(c, r, v)]) := by
  have cs : ∀ {Q : BE → Prop}, (∀ e ∈ B, Q e) → Q (c, r, v) → ∀ e ∈ B ++ [(c, r, v)], Q e := fun h1 h2 e he => by
    rcases List.mem_append.mp he with he | he
    · exact h1 e he
    · rw [List.mem_singleton.mp he]; exact h2
  refine ⟨cs hB.len hl, cs hB.col hc, cs hB.ne hne, List.pairwise_append.mpr ⟨hB.tri, List.pairwise_singleton _ _, fun e he f hf => ?_⟩⟩
  rw [List.mem_singleton.mp hf]
  exact hz e he
structure FwdStep (N : Nat) (B : List BE) (rc : Row × Rat) (B' : List BE) : Prop where
  bas : Bas N B'
  van : ∀ x t, Van N B' x t ↔ Van N B x t ∧ dot N rc.1 x = rc.2 * t
  len : B'.length ≤ B.length + 1
theorem fwdStep_some {N : Nat} {B B' : List BE} {rc : Row × Rat} (hB : Bas N B) (hl : rc.1.length = N) (h : fwdStep B rc = some B') : FwdStep N B rc B' := by
  obtain ⟨h1, h2, _, h4⟩ := fold_red B (rc.1, rc.2, []) hB hl
  unfold fwdStep at h
  cases e : nzCol (red B rc.1 rc.2).1 with
  | some c =>
    rw [e] at h
    obtain rfl := Option.some.inj h
    obtain ⟨hc, hne⟩ := nz_some e
    refine ⟨hB.snoc h1 (by rw [← h1]; exact hc) hne h4, fun x t => ?_, by rw [List.length_append]; exact Nat.le_refl _⟩
    constructor
    · intro hv
      have hv1 : Van N B x t := fun f hf => hv f (List.mem_append_left _ hf)
      have hv2 : dot N (red B rc.1 rc.2).1 x = (red B rc.1 rc.2).2.1 * t := hv _ (List.mem_append_right _ (List.mem_singleton.mpr rfl))
      have := h2 x t hv1
      refine ⟨hv1, ?_⟩
      unfold red at hv2
      grind
    · rintro ⟨hv1, hv2⟩ f hf
      rcases List.mem_append.mp hf with hf | hf
      · exact hv1 f hf
      · rw [List.mem_singleton.mp hf]
        have := h2 x t hv1
        show dot N (red B rc.1 rc.2).1 x = (red B rc.1 rc.2).2.1 * t
        unfold red
        grind
  | none =>
    rw [e] at h
    have hz := nz_none e
    have hd : ∀ x, dot N (red B rc.1 rc.2).1 x = 0 := fun x => sm_zero fun j _ => by rw [hz j]; grind
    by_cases h0 : (red B rc.1 rc.2).2.1 = 0
    · simp only [h0, if_true] at h
      obtain rfl := Option.some.inj h
      refine ⟨hB, fun x t => ⟨fun hv => ⟨hv, ?_⟩, fun hv => hv.1⟩, Nat.le_succ _⟩
      have := h2 x t hv
      have e1 := hd x
      unfold red at e1 h0
      grind
    · simp only [h0, if_false] at h
      cases h
theorem fwdStep_none {N : Nat} {B : List BE} {rc : Row × Rat} (hB : Bas N B) (hl : rc.1.length = N) (h : fwdStep B rc = none) : (∀ x, Van N B x 0 → dot N rc.1 x = 0) ∧ ∀ x, Van N B x 1 → dot N rc.1 x ≠ rc.2 := by
  obtain ⟨h1, h2, _, h4⟩ := fold_red B (rc.1, rc.2, []) hB hl
  unfold fwdStep at h
  cases e : nzCol (red B rc.1 rc.2).1 with
  | some c => rw [e] at h; cases h
  | none =>
    rw [e] at h
    have hz := nz_none e
    have hd : ∀ x, dot N (red B rc.1 rc.2).1 x = 0 := fun x => sm_zero fun j _ => by rw [hz j]; grind
    by_cases h0 : (red B rc.1 rc.2).2.1 = 0
    · simp only [h0, if_true] at h; cases h
    · refine ⟨fun x hv => ?_, fun x hv hq => ?_⟩
      · have := h2 x 0 hv
        have e1 := hd x
        unfold red at e1
        grind
      · have := h2 x 1 hv
        have e1 := hd x
        unfold red at e1 h0
        grind
theorem fwd_some {N : Nat} : ∀ (rs : List (Row × Rat)) (B B' : List BE), Bas N B → (∀ rc ∈ rs, rc.1.length = N) → fwd rs B = some B' →
    Bas N B' ∧ (∀ x t, Van N B' x t ↔ Van N B x t ∧ VanR N rs x t) ∧ B'.length ≤ B.length + rs.length
  | [], B, B', hB, _, h => by
    obtain rfl := Option.some.inj h
    exact ⟨hB, fun x t => ⟨fun hv => ⟨hv, fun rc hr => by simp at hr⟩, fun hv => hv.1⟩, Nat.le_add_right _ _⟩
  | rc :: rs, B, B', hB, hl, h => by
    unfold fwd at h
    cases e : fwdStep B rc with
    | none => rw [e] at h; cases h
    | some B1 =>
      rw [e] at h
      have F := fwdStep_some hB (hl rc List.mem_cons_self) e
      obtain ⟨h1, h2, h3⟩ := fwd_some rs B1 B' F.bas (fun q hq => hl q (List.mem_cons_of_mem _ hq)) h
      refine ⟨h1, fun x t => ?_, by have := F.len; rw [List.length_cons]; omega⟩
      rw [h2, F.van]
      constructor
      · rintro ⟨⟨a, b⟩, c⟩
        refine ⟨a, fun q hq => ?_⟩
        rcases List.mem_cons.mp hq with rfl | hq
        · exact b
        · exact c q hq
      · rintro ⟨a, c⟩
        exact ⟨⟨a, c rc List.mem_cons_self⟩, fun q hq => c q (List.mem_cons_of_mem _ hq)⟩
theorem fwd_none {N : Nat} : ∀ (rs : List (Row × Rat)) (B : List BE), Bas N B → (∀ rc ∈ rs, rc.1.length = N) → fwd rs B = none →
    (∃ E : List Row, E.length < B.length + rs.length ∧ ∀ x, (∀ r ∈ E, dot N r x = 0) → Van N B x 0 ∧ VanR N rs x 0)
  | [], B, _, _, h => by cases h
  | rc :: rs, B, hB, hl, h => by
    unfold fwd at h
    cases e : fwdStep B rc with
    | none =>
      obtain ⟨h0, _⟩ := fwdStep_none hB (hl rc List.mem_cons_self) e
      refine ⟨B.map (·.2.1) ++ rs.map (·.1), by rw [List.length_append, List.length_map, List.length_map, List.length_cons]; omega, fun x hx => ?_⟩
      have hv : Van N B x 0 := fun f hf => by
        rw [hx _ (List.mem_append_left _ (List.mem_map_of_mem (f := fun (q : BE) => q.2.1) hf))]; grind
      refine ⟨hv, fun q hq => ?_⟩
      rcases List.mem_cons.mp hq with rfl | hq
      · rw [h0 x hv]; grind
      · rw [hx _ (List.mem_append_right _ (List.mem_map_of_mem (f := fun (q : Row × Rat) => q.1) hq))]; grind
    | some B1 =>
      rw [e] at h
      have F := fwdStep_some hB (hl rc List.mem_cons_self) e
      obtain ⟨E, h1, h2⟩ := fwd_none rs B1 F.bas (fun q hq => hl q (List.mem_cons_of_mem _ hq)) h
      refine ⟨E, by have := F.len; rw [List.length_cons]; omega, fun x hx => ?_⟩
      obtain ⟨a, b⟩ := h2 x hx
      obtain ⟨a1, a2⟩ := (F.van x 0).mp a
      refine ⟨a1, fun q hq => ?_⟩
      rcases List.mem_cons.mp hq with rfl | hq
      · exact a2
      · exact b q hq
/-! ### from the last row back -/
theorem backC_eq (e : BE) (found : Row) : ∀ k, backC e found k = e.2.2 - sm (List.range k) fun j => if j = e.1 then 0 else at0 e.2.1 j * at0 found j
  | 0 => by show e.2.2 = e.2.2 - 0; grind
  | k + 1 => by
    unfold backC
    rw [List.range_succ, List.foldl_append, sm_append]
    have ih := backC_eq e found k
    unfold backC at ih
    show (if k = e.1 then _ else _) = e.2.2 - (_ + ((if k = e.1 then 0 else _) + 0))
    rw [ih]
    by_cases hk : k = e.1
    · rw [if_pos hk, if_pos hk]; grind
    · rw [if_neg hk, if_neg hk]; grind
theorem at_set {r : Row} {c j : Nat} {v : Rat} (hc : c < r.length) : at0 (r.set c v) j = if j = c then v else at0 r j := by
  unfold at0
  rw [List.getD_eq_getElem?_getD, List.getD_eq_getElem?_getD]
  by_cases h : j = c
  · subst h; rw [List.getElem?_set_self hc, if_pos rfl]; rfl
  · rw [List.getElem?_set_ne (Ne.symm h), if_neg h]
theorem backStep_len (f : Row) (e : BE) : (backStep f e).length = f.length := List.length_set
theorem fold_back {N : Nat} : ∀ (B : List BE), Bas N B → (B.foldr (fun e f => backStep f e) (List.replicate N 0)).length = N ∧ Van N B (fun j => at0 (B.foldr (fun e f => backStep f e) (List.replicate N 0)) j) 1
  | [], _ => ⟨List.length_replicate, fun e he => by simp at he⟩
  | e :: B, hB => by
    obtain ⟨h1, h2⟩ := fold_back B hB.tail
    rw [List.foldr_cons]
    generalize B.foldr (fun e f => backStep f e) (List.replicate N 0) = f at h1 h2 ⊢
    have hc := hB.col e List.mem_cons_self
    have hne := hB.ne e List.mem_cons_self
    have hlen := hB.len e List.mem_cons_self
    refine ⟨by rw [backStep_len, h1], fun g hg => ?_⟩
    have hs : ∀ j, at0 (backStep f e) j = if j = e.1 then backC e f e.2.1.length / at0 e.2.1 e.1 else at0 f j := fun j => at_set (by rw [h1]; exact hc)
    rcases List.mem_cons.mp hg with rfl | hg
    · have hm : g.1 ∈ List.range N := List.mem_range.mpr hc
      unfold dot
      rw [sm_erase hm]
      have e1 : sm ((List.range N).erase g.1) (fun j => at0 g.2.1 j * at0 (backStep f g) j) = sm (List.range N) fun j => if j = g.1 then 0 else at0 g.2.1 j * at0 f j := by
        rw [sm_erase hm (fun j => if j = g.1 then 0 else at0 g.2.1 j * at0 f j), if_pos rfl]
        rw [sm_congr (l := (List.range N).erase g.1) (f := fun j => at0 g.2.1 j * at0 (backStep f g) j) (g := fun j => if j = g.1 then 0 else at0 g.2.1 j * at0 f j)]
        · grind
        · intro j hj
          have hjc : j ≠ g.1 := fun z => by subst z; exact List.nodup_range.not_mem_erase hj
          show at0 g.2.1 j * at0 (backStep f g) j = if j = g.1 then 0 else at0 g.2.1 j * at0 f j
          rw [hs, if_neg hjc, if_neg hjc]
      rw [e1]
      show at0 g.2.1 g.1 * at0 (backStep f g) g.1 + _ = g.2.2 * 1
      rw [hs, if_pos rfl, hlen, backC_eq]
      grind
    · have hz : at0 g.2.1 e.1 = 0 := (List.pairwise_cons.mp hB.tri).1 g hg
      rw [← h2 g hg]
      refine sm_congr fun j _ => ?_
      show at0 g.2.1 j * at0 (backStep f e) j = at0 g.2.1 j * at0 f j
      rw [hs]
      by_cases hj : j = e.1
      · rw [hj, hz]; grind
      · rw [if_neg hj]
theorem back_eq (B : List BE) (n : Nat) : back B n = B.foldr (fun e f => backStep f e) (List.replicate n 0) := by
  unfold back
  rw [List.foldl_reverse]
/-! ### what solve_linear says of a square matrix -/
theorem zip_rows {A : Mat} {b : Row} {n : Nat} (s : Sq A n) : ∀ rc ∈ A.zip b, rc.1.length = n := fun rc h => s.row _ (List.of_mem_zip h).1
theorem vanR_iff {A : Mat} {b : Row} {N : Nat} (hb : b.length = A.length) (x : Nat → Rat) (t : Rat) : VanR N (A.zip b) x t ↔ ∀ i, i < A.length → dot N (row A i) x = at0 b i * t := by
  constructor
  · intro h i hi
    have hz : i < (A.zip b).length := by rw [List.length_zip]; omega
    have := h _ (List.getElem_mem hz)
    rw [List.getElem_zip] at this
    unfold row at0
    rw [List.getD_eq_getElem?_getD, List.getElem?_eq_getElem hi, List.getD_eq_getElem?_getD, List.getElem?_eq_getElem (by omega)]
    exact this
  · intro h rc hrc
    obtain ⟨i, hi, rfl⟩ := List.getElem_of_mem hrc
    have hi' : i < A.length := by rw [List.length_zip] at hi; omega
    have := h i hi'
    rw [List.getElem_zip]
    unfold row at0 at this
    rw [List.getD_eq_getElem?_getD, List.getElem?_eq_getElem hi', List.getD_eq_getElem?_getD, List.getElem?_eq_getElem (by omega)] at this
    exact this
theorem width_sq {A : Mat} {n : Nat} (s : Sq A n) : width A = n := by
  unfold width
  cases A with
  | nil => exact s.len
  | cons r A => exact s.row r List.mem_cons_self
structure SolveOk (A : Mat) (b : Row) (n : Nat) (xs : Row) : Prop where
  told : solveL A b = .sol xs
  len : xs.length = n
  sol : Solves A b n fun j => at0 xs j
theorem solveL_reg {A : Mat} {b : Row} {n : Nat} (s : Sq A n) (lb : b.length = n) (hr : Reg A n) : ∃ xs, SolveOk A b n xs := by
  have hlz : (A.zip b).length = n := by rw [List.length_zip, s.len, lb]; omega
  cases e : fwd (A.zip b) [] with
  | none =>
    obtain ⟨E, h1, h2⟩ := fwd_none (N := n) _ _ Bas.nil (zip_rows s) e
    rw [hlz] at h1
    exact absurd hr (few E (by simpa using h1) fun x hx i hi => by
      have := (vanR_iff (by rw [lb, s.len]) x 0).mp (h2 x hx).2 i hi
      grind)
  | some B =>
    obtain ⟨h1, h2, h3⟩ := fwd_some (N := n) _ _ _ Bas.nil (zip_rows s) e
    have hB : ¬ B.length < n := fun hlt => few (A := A) (n := n) (B.map (·.2.1)) (by rw [List.length_map]; exact hlt) (fun x hx i hi => by
      have hv : Van n B x 0 := fun f hf => by rw [hx _ (List.mem_map_of_mem (f := fun (q : BE) => q.2.1) hf)]; grind
      have := (vanR_iff (by rw [lb, s.len]) x 0).mp ((h2 x 0).mp hv).2 i hi
      grind) hr
    obtain ⟨k1, k2⟩ := fold_back B h1
    rw [← back_eq] at k1 k2
    refine ⟨back B n, ?_, k1, fun i hi => ?_⟩
    · unfold solveL
      rw [e, width_sq s]
      simp only [if_neg hB]
    · have := (vanR_iff (by rw [lb, s.len]) _ 1).mp ((h2 _ 1).mp k2).2 i hi
      grind
theorem bas_zero {N : Nat} (x : Nat → Rat) : ∀ (L : List BE), Bas N L.reverse → Van N L x 0 → (∀ j, j < N → j ∉ L.map (·.1) → x j = 0) → ∀ j, j < N → x j = 0
  | [], _, _, h => fun j hj => h j hj (by simp)
  | e :: L, hB, hv, h => by
    rw [List.reverse_cons] at hB
    have he : e ∈ L.reverse ++ [e] := List.mem_append_right _ (List.mem_singleton.mpr rfl)
    have hp := List.pairwise_append.mp hB.tri
    have xe : x e.1 = 0 := by
      have h0 := hv e List.mem_cons_self
      have hm : e.1 ∈ List.range N := List.mem_range.mpr (hB.col e he)
      unfold dot at h0
      rw [sm_single List.nodup_range hm] at h0
      · have := hB.ne e he
        grind
      · intro j hj hne
        by_cases hjm : j ∈ L.map (·.1)
        · obtain ⟨f, hf, rfl⟩ := List.mem_map.mp hjm
          rw [hp.2.2 f (List.mem_reverse.mpr hf) e (List.mem_singleton.mpr rfl)]; grind
        · rw [h j (List.mem_range.mp hj) (by
            rw [List.map_cons, List.mem_cons]
            rintro (z | z)
            · exact hne z
            · exact hjm z)]; grind
    have cs : ∀ f ∈ L.reverse, f ∈ L.reverse ++ [e] := fun f hf => List.mem_append_left _ hf
    refine bas_zero x L ⟨fun f hf => hB.len f (cs f hf), fun f hf => hB.col f (cs f hf), fun f hf => hB.ne f (cs f hf), hp.1⟩ (fun f hf => hv f (List.mem_cons_of_mem _ hf)) fun j hj hjm => ?_
    by_cases hje : j = e.1
    · rw [hje]; exact xe
    · exact h j hj (by
        rw [List.map_cons, List.mem_cons]
        rintro (z | z)
        · exact hje z
        · exact hjm z)
theorem bas_nodup {N : Nat} : ∀ {B : List BE}, Bas N B → (B.map (·.1)).Nodup
  | [], _ => List.nodup_nil
  | e :: B, h => by
    rw [List.map_cons, List.nodup_cons]
    refine ⟨fun hm => ?_, bas_nodup h.tail⟩
    obtain ⟨f, hf, q⟩ := List.mem_map.mp hm
    have := (List.pairwise_cons.mp h.tri).1 f hf
    exact h.ne f (List.mem_cons_of_mem _ hf) (by rw [q]; exact this)
theorem solveL_sol {A : Mat} {b xs : Row} {n : Nat} (s : Sq A n) (lb : b.length = n) (h : solveL A b = .sol xs) : Reg A n := by
  unfold solveL at h
  cases e : fwd (A.zip b) [] with
  | none => rw [e] at h; cases h
  | some B =>
    rw [e, width_sq s] at h
    obtain ⟨h1, h2, h3⟩ := fwd_some (N := n) _ _ _ Bas.nil (zip_rows s) e
    by_cases hlt : B.length < n
    · simp only [if_pos hlt] at h; cases h
    · intro x hx j hj
      have hv : Van n B x 0 := (h2 x 0).mpr ⟨fun f hf => by simp at hf, (vanR_iff (by rw [lb, s.len]) x 0).mpr fun i hi => by rw [hx i hi]; grind⟩
      refine bas_zero x B.reverse (by rw [List.reverse_reverse]; exact h1) (fun f hf => hv f (List.mem_reverse.mp hf)) (fun k hk hkm => ?_) j hj
      refine absurd ?_ hkm
      rw [List.map_reverse, List.mem_reverse]
      exact cover (bas_nodup h1) (fun y hy => by obtain ⟨f, hf, rfl⟩ := List.mem_map.mp hy; exact h1.col f hf) (by rw [List.length_map]; omega) hk
end K97
end
section
set_option linter.all false
namespace K97
/-! ## factors that show a contradiction -/
def ownStep (own : Row) (fo : Rat × Row) : Row := subF own fo.1 fo.2
def unitR (m i : Nat) : Row := (List.replicate m (0 : Rat)).set i 1
def ownOf (m i : Nat) (fs : List Rat) (M : List Row) : Row := (fs.zip M).foldl ownStep (unitR m i)
def contr (A : Mat) (b : Row) : List Nat → List BE → List Row → Option Row
  | [], _, _ => none
  | i :: is, B, M => match nzCol (red B (row A i) (at0 b i)).1 with
    | some c => contr A b is (B ++ [(c, (red B (row A i) (at0 b i)).1, (red B (row A i) (at0 b i)).2.1)]) (M ++ [ownOf A.length i (red B (row A i) (at0 b i)).2.2 M])
    | none => if (red B (row A i) (at0 b i)).2.1 = 0 then contr A b is B M else some (ownOf A.length i (red B (row A i) (at0 b i)).2.2 M)
def contradiction (A : Mat) (b : Row) : Option Row := contr A b (List.range A.length) [] []
def total (A : Mat) (f : Row) (j k : Nat) : Rat := (List.range k).foldl (fun t i => t + at0 f i * ent A i j) 0
def totalC (b f : Row) (k : Nat) : Rat := (List.range k).foldl (fun t i => t + at0 f i * at0 b i) 0
theorem total_eq (A : Mat) (f : Row) (j : Nat) : ∀ k, total A f j k = sm (List.range k) fun i => at0 f i * ent A i j
  | 0 => rfl
  | k + 1 => by
    unfold total
    rw [List.range_succ, List.foldl_append, sm_append]
    have ih := total_eq A f j k
    unfold total at ih
    rw [ih]
    show _ + _ = _ + (_ + 0)
    grind
theorem totalC_eq (b f : Row) : ∀ k, totalC b f k = sm (List.range k) fun i => at0 f i * at0 b i
  | 0 => rfl
  | k + 1 => by
    unfold totalC
    rw [List.range_succ, List.foldl_append, sm_append]
    have ih := totalC_eq b f k
    unfold totalC at ih
    rw [ih]
    show _ + _ = _ + (_ + 0)
    grind
structure Lin (A : Mat) (b : Row) (N : Nat) (own r : Row) (v : Rat) : Prop where
  len : own.length = A.length
  row : ∀ j, j < N → sm (List.range A.length) (fun k => at0 own k * ent A k j) = at0 r j
  val : sm (List.range A.length) (fun k => at0 own k * at0 b k) = v
theorem Lin.sub {A : Mat} {b : Row} {N : Nat} {own r o q : Row} {v w f : Rat} (h : Lin A b N own r v) (g : Lin A b N o q w) (hl : r.length = N) : Lin A b N (subF own f o) (subF r f q) (v - f * w) := by
  refine ⟨by rw [subF_len]; exact h.len, fun j hj => ?_, ?_⟩
  · rw [at_subF (by rw [hl]; exact hj), ← h.row j hj, ← g.row j hj, ← sm_mul, ← sm_sub]
    refine sm_congr fun k hk => ?_
    rw [at_subF (by rw [h.len]; exact List.mem_range.mp hk)]
    grind
  · rw [← h.val, ← g.val, ← sm_mul, ← sm_sub]
    refine sm_congr fun k hk => ?_
    rw [at_subF (by rw [h.len]; exact List.mem_range.mp hk)]
    grind
theorem fold_own {A : Mat} {b : Row} {N : Nat} : ∀ (Z : List (BE × Row)) (s : Row × Rat × List Rat) (own : Row), (∀ z ∈ Z, Lin A b N z.2 z.1.2.1 z.1.2.2) → Lin A b N own s.1 s.2.1 → s.1.length = N →
    ∃ gs : List Rat, ((Z.map (·.1)).foldl redStep s).2.2 = s.2.2 ++ gs ∧ gs.length = Z.length ∧
      Lin A b N ((gs.zip (Z.map (·.2))).foldl ownStep own) ((Z.map (·.1)).foldl redStep s).1 ((Z.map (·.1)).foldl redStep s).2.1
  | [], s, own, _, h, _ => ⟨[], by simp, rfl, h⟩
  | z :: Z, s, own, hZ, h, hl => by
    have hz := hZ z List.mem_cons_self
    obtain ⟨gs, h1, h2, h3⟩ := fold_own Z (redStep s z.1) (subF own (at0 s.1 z.1.1 / at0 z.1.2.1 z.1.1) z.2) (fun y hy => hZ y (List.mem_cons_of_mem _ hy)) (h.sub hz hl) (by unfold redStep; rw [subF_len]; exact hl)
    refine ⟨(at0 s.1 z.1.1 / at0 z.1.2.1 z.1.1) :: gs, ?_, by rw [List.length_cons, h2, List.length_cons], ?_⟩
    · rw [List.map_cons, List.foldl_cons, h1]
      show s.2.2 ++ [_] ++ gs = _
      rw [List.append_assoc]; rfl
    · rw [List.map_cons, List.map_cons, List.foldl_cons, List.zip_cons_cons, List.foldl_cons]
      exact h3
theorem unit_at {m i k : Nat} (hi : i < m) : at0 (unitR m i) k = if k = i then 1 else 0 := by
  unfold unitR
  rw [at_set (by rw [List.length_replicate]; exact hi)]
  by_cases h : k = i
  · rw [if_pos h, if_pos h]
  · rw [if_neg h, if_neg h]
    unfold at0
    rw [List.getD_eq_getElem?_getD, List.getElem?_replicate]
    split <;> rfl
theorem unit_len {m i : Nat} : (unitR m i).length = m := by unfold unitR; rw [List.length_set, List.length_replicate]
theorem lin_unit {A : Mat} {b : Row} {N i : Nat} (hi : i < A.length) : Lin A b N (unitR A.length i) (row A i) (at0 b i) := by
  refine ⟨unit_len, fun j hj => ?_, ?_⟩
  · rw [sm_single List.nodup_range (List.mem_range.mpr hi)]
    · rw [unit_at hi, if_pos rfl]; unfold ent; grind
    · intro k _ hk; rw [unit_at hi, if_neg hk]; grind
  · rw [sm_single List.nodup_range (List.mem_range.mpr hi)]
    · rw [unit_at hi, if_pos rfl]; grind
    · intro k _ hk; rw [unit_at hi, if_neg hk]; grind
/-- the two lists of contradiction are in step -/
structure Stp (A : Mat) (b : Row) (N : Nat) (B : List BE) (M : List Row) (Z : List (BE × Row)) : Prop where
  eB : B = Z.map (·.1)
  eM : M = Z.map (·.2)
  lin : ∀ z ∈ Z, Lin A b N z.2 z.1.2.1 z.1.2.2
theorem Stp.own {A : Mat} {b : Row} {N i : Nat} {B : List BE} {M : List Row} {Z : List (BE × Row)} (S : Stp A b N B M Z) (hi : i < A.length) (hl : (row A i).length = N) :
    Lin A b N (ownOf A.length i (red B (row A i) (at0 b i)).2.2 M) (red B (row A i) (at0 b i)).1 (red B (row A i) (at0 b i)).2.1 := by
  obtain ⟨gs, h1, h2, h3⟩ := fold_own Z (row A i, at0 b i, []) (unitR A.length i) S.lin (lin_unit hi) hl
  unfold ownOf red
  rw [S.eB, S.eM, h1]
  exact h3
theorem contr_some {A : Mat} {b f : Row} {N : Nat} (hA : ∀ r ∈ A, r.length = N) : ∀ (is : List Nat) (B : List BE) (M : List Row) (Z : List (BE × Row)), (∀ i ∈ is, i < A.length) → Stp A b N B M Z → contr A b is B M = some f →
    f.length = A.length ∧ (∀ j, j < N → sm (List.range A.length) (fun k => at0 f k * ent A k j) = 0) ∧ sm (List.range A.length) (fun k => at0 f k * at0 b k) ≠ 0
  | [], _, _, _, _, _, h => by cases h
  | i :: is, B, M, Z, hi, S, h => by
    have hi0 := hi i List.mem_cons_self
    have L := S.own hi0 (hA _ (row_mem hi0))
    unfold contr at h
    cases e : nzCol (red B (row A i) (at0 b i)).1 with
    | some c =>
      rw [e] at h
      refine contr_some hA is _ _ (Z ++ [((c, (red B (row A i) (at0 b i)).1, (red B (row A i) (at0 b i)).2.1), ownOf A.length i (red B (row A i) (at0 b i)).2.2 M)]) (fun k hk => hi k (List.mem_cons_of_mem _ hk)) ⟨?_, ?_, fun z hz => ?_⟩ h
      · rw [List.map_append, ← S.eB]; rfl
      · rw [List.map_append, ← S.eM]; rfl
      · rcases List.mem_append.mp hz with hz | hz
        · exact S.lin z hz
        · rw [List.mem_singleton.mp hz]; exact L
    | none =>
      rw [e] at h
      have hz := nz_none e
      by_cases h0 : (red B (row A i) (at0 b i)).2.1 = 0
      · simp only [h0, if_true] at h
        exact contr_some hA is B M Z (fun k hk => hi k (List.mem_cons_of_mem _ hk)) S h
      · simp only [h0, if_false] at h
        obtain rfl := Option.some.inj h
        exact ⟨L.len, fun j hj => by rw [L.row j hj]; exact hz j, by rw [L.val]; exact h0⟩
theorem contr_fwd {A : Mat} {b : Row} (hb : b.length = A.length) : ∀ (k i : Nat) (B : List BE) (M : List Row), i + k = A.length → (contr A b (List.range' i k) B M = none ↔ fwd ((A.zip b).drop i) B ≠ none)
  | 0, i, B, M, hk => by
    rw [List.range'_zero, List.drop_eq_nil_of_le (by rw [List.length_zip]; omega)]
    simp [contr, fwd]
  | k + 1, i, B, M, hk => by
    have hi : i < (A.zip b).length := by rw [List.length_zip]; omega
    have ez : (A.zip b)[i] = (row A i, at0 b i) := by
      rw [List.getElem_zip]
      unfold row at0
      rw [List.getD_eq_getElem?_getD, List.getElem?_eq_getElem (by omega), List.getD_eq_getElem?_getD, List.getElem?_eq_getElem (by omega)]
      rfl
    rw [List.range'_succ, List.drop_eq_getElem_cons hi, ez]
    unfold contr fwd fwdStep
    dsimp only
    cases e : nzCol (red B (row A i) (at0 b i)).1 with
    | some c =>
      dsimp only
      exact contr_fwd hb k (i + 1) _ _ (by omega)
    | none =>
      dsimp only
      by_cases h0 : (red B (row A i) (at0 b i)).2.1 = 0
      · simp only [h0, if_true]
        exact contr_fwd hb k (i + 1) B M (by omega)
      · simp only [h0, if_false]
        simp
/-- what the law asks of the factors -/
def isContr (A : Mat) (b f : Row) : Bool :=
  (List.range (width A)).all (fun j => decide (total A f j A.length = 0)) && decide (totalC b f A.length ≠ 0)
theorem contradiction_ok {A : Mat} {b f : Row} {n : Nat} (s : Sq A n) (h : contradiction A b = some f) : f.length = n ∧ isContr A b f = true := by
  obtain ⟨h1, h2, h3⟩ := contr_some s.row _ _ _ [] (fun i hi => List.mem_range.mp hi) ⟨rfl, rfl, fun z hz => by simp at hz⟩ h
  refine ⟨h1.trans s.len, ?_⟩
  unfold isContr
  rw [Bool.and_eq_true, List.all_eq_true, width_sq s]
  refine ⟨fun j hj => decide_eq_true ?_, decide_eq_true ?_⟩
  · rw [total_eq]; exact h2 j (List.mem_range.mp hj)
  · rw [totalC_eq]; exact h3
theorem contradiction_none {A : Mat} {b : Row} (hb : b.length = A.length) : contradiction A b = none ↔ fwd (A.zip b) [] ≠ none := by
  unfold contradiction
  rw [List.range_eq_range', contr_fwd hb A.length 0 [] [] (by omega)]
  rfl
theorem solveL_none_iff {A : Mat} {b : Row} : solveL A b = .none ↔ fwd (A.zip b) [] = none := by
  unfold solveL
  cases fwd (A.zip b) [] with
  | none => simp
  | some B => by_cases h : B.length < width A <;> simp [h]
/-- the part of the law about one solution or none: what solve_linear tells, what contradiction tells -/
theorem law_core {A : Mat} {b : Row} {n : Nat} (s : Sq A n) (hA : ∀ r ∈ A, ∀ q ∈ r, Ent q) (hb : ∀ q ∈ b, Ent q) (lb : b.length = n) :
    (∃ xs, lawSol A b = some xs ∧ solveL A b = .sol xs ∧ contradiction A b = none ∧ LawSol A b n xs) ∨
    (lawSol A b = none ∧ solveL A b = .many ∧ contradiction A b = none) ∨
    (lawSol A b = none ∧ solveL A b = .none ∧ ∃ f, contradiction A b = some f ∧ f.length = n ∧ isContr A b f = true) := by
  have hbl : b.length = A.length := by rw [lb, s.len]
  cases e : lawSol A b with
  | some xs =>
    left
    have L := lawSol_some s hA hb lb e
    obtain ⟨ys, Y⟩ := solveL_reg s lb L.reg
    have hxy : ys = xs := by
      refine List.ext_getElem (by rw [Y.len, L.len]) fun i h1 h2 => ?_
      have := L.reg.uniq Y.sol L.sol i (by rw [← Y.len]; exact h1)
      rw [← at0_lt h1, ← at0_lt h2]
      exact this
    subst hxy
    refine ⟨ys, rfl, Y.told, (contradiction_none hbl).mpr fun z => ?_, L⟩
    have := solveL_none_iff.mpr z
    rw [Y.told] at this
    cases this
  | none =>
    right
    have hn := lawSol_none s hA hb lb e
    cases t : solveL A b with
    | sol xs => exact absurd (solveL_sol s lb t) hn
    | many =>
      left
      refine ⟨rfl, rfl, (contradiction_none hbl).mpr fun z => ?_⟩
      have := solveL_none_iff.mpr z
      rw [t] at this
      cases this
    | none =>
      right
      refine ⟨rfl, rfl, ?_⟩
      cases c : contradiction A b with
      | none => exact absurd (solveL_none_iff.mp t) ((contradiction_none hbl).mp c)
      | some f => exact ⟨f, rfl, contradiction_ok s c⟩
end K97
end
section
set_option linter.all false
namespace K97
/-! ## tearing -/
def openCols (r : Row) (known : List Nat) : List Nat := (List.range r.length).filter fun k => decide (at0 r k ≠ 0) && !known.contains k
def pairAt (A : Mat) (known : List Nat) (i : Nat) : Option (Nat × Nat) := match openCols (row A i) known with
  | [c] => some (i, c)
  | _ => none
def nextPair (A : Mat) (known taken : List Nat) : Option (Nat × Nat) := (List.range A.length).findSome? fun i => if taken.contains i then none else pairAt A known i
def causalL (A : Mat) : Nat → List Nat → List Nat → List (Nat × Nat)
  | 0, _, _ => []
  | k + 1, known, taken => match nextPair A known taken with
    | none => []
    | some p => p :: causalL A k (known ++ [p.2]) (taken ++ [p.1])
def causal (A : Mat) (tears : List Nat) : List (Nat × Nat) := causalL A (A.length + 1) tears []
def restOf (A : Mat) (ps : List (Nat × Nat)) : List Nat := (List.range A.length).filter fun i => !(ps.map (·.1)).contains i
/-- a column by the tears: their coefficients, a constant -/
abbrev Sm := List (Nat × Row × Rat)
def smAt (S : Sm) (size j : Nat) : Row × Rat := (S.lookup j).getD (List.replicate size 0, 0)
def addF (f : Row) (v : Rat) (o : Row) (size : Nat) : Row := (List.range size).map fun k => at0 f k + v * at0 o k
def exprStep (r : Row) (S : Sm) (size : Nat) (col : Option Nat) (q : Row × Rat) (j : Nat) : Row × Rat :=
  if at0 r j ≠ 0 ∧ some j ≠ col then (addF q.1 (at0 r j) (smAt S size j).1 size, q.2 - at0 r j * (smAt S size j).2) else q
def exprTo (r : Row) (c : Rat) (S : Sm) (size : Nat) (col : Option Nat) (k : Nat) : Row × Rat := (List.range k).foldl (exprStep r S size col) (List.replicate size 0, c)
def expressed (r : Row) (c : Rat) (S : Sm) (size : Nat) (col : Option Nat) : Row × Rat := exprTo r c S size col r.length
def unitT (size k : Nat) : Row := (List.range size).map fun j => if j = k then 1 else 0
def tearS (tears : List Nat) : Sm := (List.range tears.length).map fun k => (tears.getD k 0, unitT tears.length k, (0 : Rat))
def pairStep (A : Mat) (b : Row) (size : Nat) (S : Sm) (p : Nat × Nat) : Sm :=
  S ++ [(p.2, (expressed (row A p.1) (at0 b p.1) S size (some p.2)).1.map (fun v => -v / ent A p.1 p.2), (expressed (row A p.1) (at0 b p.1) S size (some p.2)).2 / ent A p.1 p.2)]
def sumsOf (A : Mat) (b : Row) (tears : List Nat) (ps : List (Nat × Nat)) : Sm := ps.foldl (pairStep A b tears.length) (tearS tears)
def smallOf (A : Mat) (b : Row) (S : Sm) (size : Nat) (rest : List Nat) : List (Row × Rat) := rest.map fun i => expressed (row A i) (at0 b i) S size none
def outAt (q : Row × Rat) (v : Row) (size : Nat) : Rat := (List.range size).foldl (fun c k => c + at0 q.1 k * at0 v k) q.2
def tornOut (A : Mat) (S : Sm) (v : Row) (size : Nat) : Row := (List.range A.length).map fun j => outAt (smAt S size j) v size

/-! ### the pairs -/
theorem openCols_one {r : Row} {known : List Nat} {c : Nat} (h : openCols r known = [c]) : c < r.length ∧ at0 r c ≠ 0 ∧ c ∉ known ∧ ∀ j, j < r.length → at0 r j ≠ 0 → j ∉ known → j = c := by
  have hm : ∀ j, j ∈ openCols r known ↔ j < r.length ∧ at0 r j ≠ 0 ∧ j ∉ known := fun j => by
    unfold openCols
    rw [List.mem_filter, List.mem_range, Bool.and_eq_true, decide_eq_true_iff]
    simp
  have hc := (hm c).mp (by rw [h]; exact List.mem_singleton.mpr rfl)
  refine ⟨hc.1, hc.2.1, hc.2.2, fun j h1 h2 h3 => ?_⟩
  have := (hm j).mpr ⟨h1, h2, h3⟩
  rw [h] at this
  exact List.mem_singleton.mp this
theorem nextPair_some {A : Mat} {known taken : List Nat} {p : Nat × Nat} (h : nextPair A known taken = some p) : p.1 < A.length ∧ p.1 ∉ taken ∧ openCols (row A p.1) known = [p.2] := by
  unfold nextPair at h
  obtain ⟨i, hi, he⟩ := List.exists_of_findSome?_eq_some h
  by_cases ht : taken.contains i = true
  · rw [if_pos ht] at he; cases he
  · rw [if_neg ht] at he
    unfold pairAt at he
    split at he
    · rename_i c hc
      obtain rfl := Option.some.inj he
      exact ⟨List.mem_range.mp hi, by simpa using ht, hc⟩
    · cases he
/-- each pair: the row has one open column behind the known ones and the pairs before -/
def Chain (A : Mat) : List Nat → List Nat → List (Nat × Nat) → Prop
  | _, _, [] => True
  | known, taken, p :: ps => p.1 < A.length ∧ p.1 ∉ taken ∧ openCols (row A p.1) known = [p.2] ∧ Chain A (known ++ [p.2]) (taken ++ [p.1]) ps
theorem causalL_chain (A : Mat) : ∀ (k : Nat) (known taken : List Nat), Chain A known taken (causalL A k known taken)
  | 0, _, _ => trivial
  | k + 1, known, taken => by
    unfold causalL
    cases e : nextPair A known taken with
    | none => exact trivial
    | some p =>
      obtain ⟨h1, h2, h3⟩ := nextPair_some e
      exact ⟨h1, h2, h3, causalL_chain A k _ _⟩
theorem Chain.rows {A : Mat} : ∀ {ps : List (Nat × Nat)} {known taken : List Nat}, Chain A known taken ps → (ps.map (·.1)).Nodup ∧ ∀ p ∈ ps, p.1 < A.length ∧ p.1 ∉ taken
  | [], _, _, _ => ⟨List.nodup_nil, fun p hp => by simp at hp⟩
  | p :: ps, known, taken, h => by
    obtain ⟨h1, h2, h3, h4⟩ := h
    obtain ⟨k1, k2⟩ := Chain.rows h4
    refine ⟨?_, fun q hq => ?_⟩
    · rw [List.map_cons, List.nodup_cons]
      refine ⟨fun hm => ?_, k1⟩
      obtain ⟨q, hq, e⟩ := List.mem_map.mp hm
      exact (k2 q hq).2 (List.mem_append_right _ (List.mem_singleton.mpr e))
    · rcases List.mem_cons.mp hq with rfl | hq
      · exact ⟨h1, h2⟩
      · exact ⟨(k2 q hq).1, fun z => (k2 q hq).2 (List.mem_append_left _ z)⟩
theorem Chain.cols {A : Mat} {n : Nat} (hA : ∀ i, i < A.length → (row A i).length = n) : ∀ {ps : List (Nat × Nat)} {known taken : List Nat}, Chain A known taken ps → (ps.map (·.2)).Nodup ∧ ∀ p ∈ ps, p.2 < n ∧ p.2 ∉ known
  | [], _, _, _ => ⟨List.nodup_nil, fun p hp => by simp at hp⟩
  | p :: ps, known, taken, h => by
    obtain ⟨h1, h2, h3, h4⟩ := h
    obtain ⟨k1, k2⟩ := Chain.cols hA h4
    obtain ⟨o1, o2, o3, o4⟩ := openCols_one h3
    refine ⟨?_, fun q hq => ?_⟩
    · rw [List.map_cons, List.nodup_cons]
      refine ⟨fun hm => ?_, k1⟩
      obtain ⟨q, hq, e⟩ := List.mem_map.mp hm
      exact (k2 q hq).2 (List.mem_append_right _ (List.mem_singleton.mpr e))
    · rcases List.mem_cons.mp hq with rfl | hq
      · exact ⟨by rw [← hA _ h1]; exact o1, o3⟩
      · exact ⟨(k2 q hq).1, fun z => (k2 q hq).2 (List.mem_append_left _ z)⟩
/-! ### linear forms in the tears -/
def formAt (q : Row × Rat) (size : Nat) (v : Nat → Rat) (t : Rat) : Rat := sm (List.range size) (fun k => at0 q.1 k * v k) + q.2 * t
theorem at_addF {f o : Row} {v : Rat} {size k : Nat} (h : k < size) : at0 (addF f v o size) k = at0 f k + v * at0 o k := at0_map_range h
theorem form_add {f o : Row} {a c d : Rat} {size : Nat} (v : Nat → Rat) (t : Rat) : formAt (addF f a o size, c - a * d) size v t = formAt (f, c) size v t + a * (formAt (o, d) size v t - 2 * d * t) := by
  unfold formAt
  have e : sm (List.range size) (fun k => at0 (addF f a o size) k * v k) = sm (List.range size) (fun k => at0 f k * v k) + a * sm (List.range size) (fun k => at0 o k * v k) := by
    rw [← sm_mul, ← sm_add]
    exact sm_congr fun k hk => by rw [at_addF (List.mem_range.mp hk)]; grind
  rw [e]
  grind
/-- the value of column j at v (t: the constants' factor, 1 or 0) -/
def yAt (S : Sm) (size : Nat) (v : Nat → Rat) (t : Rat) (j : Nat) : Rat := formAt (smAt S size j) size v t
theorem zeroForm (size : Nat) (c : Rat) (v : Nat → Rat) (t : Rat) : formAt (List.replicate size 0, c) size v t = c * t := by
  unfold formAt
  rw [sm_zero]
  · grind
  · intro k _
    have : at0 (List.replicate size 0) k = 0 := by
      unfold at0
      rw [List.getD_eq_getElem?_getD, List.getElem?_replicate]
      split <;> rfl
    show at0 (List.replicate size 0) k * v k = 0
    rw [this]; grind
/-- what is expressed: coefficients with a plus, the constant with a minus -/
theorem exprTo_form (r : Row) (c : Rat) (S : Sm) (size : Nat) (col : Option Nat) (v : Nat → Rat) (t : Rat) : ∀ k, formAt ((exprTo r c S size col k).1, -(exprTo r c S size col k).2) size v t = sm (List.range k) (fun j => if some j = col then 0 else at0 r j * yAt S size v t j) - c * t
  | 0 => by
    show formAt (List.replicate size 0, -c) size v t = sm [] _ - c * t
    rw [zeroForm, sm_nil]
    grind
  | k + 1 => by
    have ih := exprTo_form r c S size col v t k
    unfold exprTo at ih ⊢
    rw [List.range_succ, List.foldl_append, sm_append, sm_cons, sm_nil]
    generalize (List.range k).foldl (exprStep r S size col) (List.replicate size 0, c) = q at ih ⊢
    show formAt ((exprStep r S size col q k).1, -(exprStep r S size col q k).2) size v t = _
    unfold exprStep
    by_cases hc : some k = col
    · rw [if_neg (fun z => z.2 hc), if_pos hc, ih]; grind
    · rw [if_neg hc]
      by_cases h0 : at0 r k = 0
      · rw [if_neg (fun z => z.1 h0), ih, h0]; grind
      · rw [if_pos ⟨h0, hc⟩]
        have e : (-(q.2 - at0 r k * (smAt S size k).2)) = -q.2 - at0 r k * (-(smAt S size k).2) := by grind
        rw [e, form_add, ih]
        have e2 : formAt ((smAt S size k).1, -(smAt S size k).2) size v t = yAt S size v t k - 2 * (smAt S size k).2 * t := by
          unfold yAt formAt
          grind
        rw [e2]
        grind
theorem lookup_snoc {S : Sm} {c : Nat} {x : Row × Rat} {j : Nat} (h : ∀ y, (c, y) ∉ S) : (S ++ [(c, x)]).lookup j = if j = c then some x else S.lookup j := by
  induction S with
  | nil =>
    by_cases e : j = c
    · subst e; simp [List.lookup]
    · simp [List.lookup, e, beq_eq_false_iff_ne.mpr e]
  | cons a r ih =>
    have ih' := ih fun y hy => h y (List.mem_cons_of_mem _ hy)
    obtain ⟨k, y⟩ := a
    by_cases e : j = k
    · subst e
      have : j ≠ c := fun z => h y (by subst z; exact List.mem_cons_self)
      simp [List.lookup, this]
    · simp only [List.cons_append, List.lookup, beq_eq_false_iff_ne.mpr e]
      exact ih'
theorem notKey {S : Sm} {c : Nat} (h : c ∉ S.map (·.1)) : ∀ y, (c, y) ∉ S := fun y hy => h (List.mem_map_of_mem (f := fun (q : Nat × Row × Rat) => q.1) hy)
/-- the forms hold for a column that is known -/
def Hold (A : Mat) (b : Row) (n size : Nat) (S : Sm) (i : Nat) : Prop := ∀ v t, dot n (row A i) (yAt S size v t) = at0 b i * t
theorem yAt_snoc {S : Sm} {c : Nat} {x : Row × Rat} {size : Nat} (h : c ∉ S.map (·.1)) (v : Nat → Rat) (t : Rat) (j : Nat) : yAt (S ++ [(c, x)]) size v t j = if j = c then formAt x size v t else yAt S size v t j := by
  unfold yAt smAt
  rw [lookup_snoc (notKey h)]
  by_cases e : j = c
  · rw [if_pos e, if_pos e]; rfl
  · rw [if_neg e, if_neg e]
/-- one pair -/
theorem pair_hold {A : Mat} {b : Row} {n size : Nat} {S : Sm} {p : Nat × Nat} (hl : (row A p.1).length = n) (ho : openCols (row A p.1) (S.map (·.1)) = [p.2]) :
    (pairStep A b size S p).map (·.1) = S.map (·.1) ++ [p.2] ∧ Hold A b n size (pairStep A b size S p) p.1 ∧ ∀ i, i < A.length → (∀ j, at0 (row A i) j ≠ 0 → j < n → j ∈ S.map (·.1)) → Hold A b n size S i → Hold A b n size (pairStep A b size S p) i := by
  obtain ⟨o1, o2, o3, o4⟩ := openCols_one ho
  refine ⟨by unfold pairStep; rw [List.map_append]; rfl, fun v t => ?_, fun i hi hk hh v t => ?_⟩
  · unfold pairStep
    have hm : p.2 ∈ List.range n := List.mem_range.mpr (by rw [← hl]; exact o1)
    unfold dot
    rw [sm_erase hm, yAt_snoc o3, if_pos rfl]
    have e1 : sm ((List.range n).erase p.2) (fun j => at0 (row A p.1) j * yAt (S ++ [(p.2, (expressed (row A p.1) (at0 b p.1) S size (some p.2)).1.map (fun v => -v / ent A p.1 p.2), (expressed (row A p.1) (at0 b p.1) S size (some p.2)).2 / ent A p.1 p.2)]) size v t j)
        = sm (List.range n) fun j => if some j = some p.2 then 0 else at0 (row A p.1) j * yAt S size v t j := by
      rw [sm_erase hm (fun j => if some j = some p.2 then 0 else at0 (row A p.1) j * yAt S size v t j), if_pos rfl, sm_congr (l := (List.range n).erase p.2) (g := fun j => if some j = some p.2 then 0 else at0 (row A p.1) j * yAt S size v t j)]
      · grind
      · intro j hj
        have hjc : j ≠ p.2 := fun z => by subst z; exact List.nodup_range.not_mem_erase hj
        rw [yAt_snoc o3, if_neg hjc, if_neg (fun z => hjc (Option.some.inj z))]
    rw [e1]
    have e2 := exprTo_form (row A p.1) (at0 b p.1) S size (some p.2) v t (row A p.1).length
    rw [hl] at e2
    have e2' : sm (List.range n) (fun j => if some j = some p.2 then 0 else at0 (row A p.1) j * yAt S size v t j) = formAt ((expressed (row A p.1) (at0 b p.1) S size (some p.2)).1, -(expressed (row A p.1) (at0 b p.1) S size (some p.2)).2) size v t + at0 b p.1 * t := by
      unfold expressed
      rw [hl, e2]
      grind
    rw [e2']
    generalize expressed (row A p.1) (at0 b p.1) S size (some p.2) = q
    have hne : ent A p.1 p.2 ≠ 0 := o2
    have e3 : sm (List.range size) (fun k => at0 (q.1.map fun v => -v / ent A p.1 p.2) k * v k) = (-1 / ent A p.1 p.2) * sm (List.range size) fun k => at0 q.1 k * v k := by
      rw [← sm_mul]
      refine sm_congr fun k _ => ?_
      have : at0 (q.1.map fun v => -v / ent A p.1 p.2) k = -(at0 q.1 k) / ent A p.1 p.2 := by
        unfold at0
        rw [List.getD_eq_getElem?_getD, List.getD_eq_getElem?_getD, List.getElem?_map]
        cases q.1[k]? with
        | none => show (0 : Rat) = -0 / _; grind
        | some z => rfl
      rw [this]; grind
    unfold formAt
    dsimp only
    rw [e3]
    show ent A p.1 p.2 * _ + _ = _
    grind
  · rw [← hh v t]
    refine sm_congr fun j hj => ?_
    unfold pairStep
    rw [yAt_snoc o3]
    by_cases e : j = p.2
    · have h0 : at0 (row A i) j = 0 := Classical.byContradiction fun z => o3 (e ▸ hk j z (List.mem_range.mp hj))
      rw [h0]; grind
    · rw [if_neg e]
theorem pairs_hold {A : Mat} {b : Row} {n size : Nat} (hA : ∀ i, i < A.length → (row A i).length = n) : ∀ (ps : List (Nat × Nat)) (S : Sm) (taken : List Nat), Chain A (S.map (·.1)) taken ps →
    (∀ i ∈ taken, i < A.length ∧ (∀ j, at0 (row A i) j ≠ 0 → j < n → j ∈ S.map (·.1)) ∧ Hold A b n size S i) →
    (ps.foldl (pairStep A b size) S).map (·.1) = S.map (·.1) ++ ps.map (·.2) ∧ (∀ i, i ∈ taken ∨ i ∈ ps.map (·.1) → Hold A b n size (ps.foldl (pairStep A b size) S) i) ∧
      ∀ j ∈ S.map (·.1), ∀ v t, yAt (ps.foldl (pairStep A b size) S) size v t j = yAt S size v t j
  | [], S, taken, _, ht => ⟨by simp, fun i hi => by
      rcases hi with hi | hi
      · exact (ht i hi).2.2
      · simp at hi, fun _ _ _ _ => rfl⟩
  | p :: ps, S, taken, hc, ht => by
    obtain ⟨h1, h2, h3, h4⟩ := hc
    have hl := hA _ h1
    obtain ⟨g1, g2, g3⟩ := pair_hold (b := b) (size := size) hl h3
    obtain ⟨o1, o2, o3, o4⟩ := openCols_one h3
    have ht' : ∀ i ∈ taken ++ [p.1], i < A.length ∧ (∀ j, at0 (row A i) j ≠ 0 → j < n → j ∈ (pairStep A b size S p).map (·.1)) ∧ Hold A b n size (pairStep A b size S p) i := fun i hi => by
      rw [g1]
      rcases List.mem_append.mp hi with hi | hi
      · obtain ⟨t1, t2, t3⟩ := ht i hi
        exact ⟨t1, fun j a b => List.mem_append_left _ (t2 j a b), g3 i t1 t2 t3⟩
      · rw [List.mem_singleton.mp hi]
        refine ⟨h1, fun j a b => ?_, g2⟩
        by_cases hk : j ∈ S.map (·.1)
        · exact List.mem_append_left _ hk
        · exact List.mem_append_right _ (List.mem_singleton.mpr (o4 j (by rw [hl]; exact b) a hk))
    obtain ⟨k1, k2, k3⟩ := pairs_hold (b := b) (size := size) hA ps (pairStep A b size S p) (taken ++ [p.1]) (by rw [g1]; exact h4) ht'
    refine ⟨by rw [List.foldl_cons, k1, g1, List.map_cons, List.append_assoc]; rfl, fun i hi => ?_, fun j hj v t => ?_⟩
    · refine k2 i ?_
      rcases hi with hi | hi
      · exact .inl (List.mem_append_left _ hi)
      · rw [List.map_cons] at hi
        rcases List.mem_cons.mp hi with e | hi
        · exact .inl (List.mem_append_right _ (List.mem_singleton.mpr e))
        · exact .inr hi
    · rw [List.foldl_cons, k3 j (by rw [g1]; exact List.mem_append_left _ hj)]
      unfold pairStep
      rw [yAt_snoc o3, if_neg (fun e : j = p.2 => o3 (by rw [← e]; exact hj))]
theorem tear_keys (t : List Nat) : (tearS t).map (·.1) = t := by
  unfold tearS
  rw [List.map_map]
  refine List.ext_getElem (by simp) fun i h1 h2 => ?_
  simp [List.getD_eq_getElem?_getD, h2]
theorem lookup_nodup : ∀ {S : Sm} {c : Nat} {x : Row × Rat}, (S.map (·.1)).Nodup → (c, x) ∈ S → S.lookup c = some x
  | [], _, _, _, h => by simp at h
  | (k, y) :: S, c, x, hn, h => by
    rw [List.map_cons, List.nodup_cons] at hn
    rcases List.mem_cons.mp h with e | h'
    · cases e; simp [List.lookup]
    · have hm := List.mem_map_of_mem (f := fun (q : Nat × Row × Rat) => q.1) h'
      have hne : c ≠ k := fun z => hn.1 (by rw [← z]; exact hm)
      simp only [List.lookup, beq_eq_false_iff_ne.mpr hne]
      exact lookup_nodup hn.2 h'
theorem tear_y {t : List Nat} (hn : t.Nodup) {k : Nat} (hk : k < t.length) (v : Nat → Rat) (u : Rat) : yAt (tearS t) t.length v u (t.getD k 0) = v k := by
  have hm : (t.getD k 0, unitT t.length k, (0 : Rat)) ∈ tearS t := List.mem_map.mpr ⟨k, List.mem_range.mpr hk, rfl⟩
  unfold yAt smAt
  rw [lookup_nodup (by rw [tear_keys]; exact hn) hm]
  show formAt (unitT t.length k, 0) t.length v u = v k
  unfold formAt
  have e : sm (List.range t.length) (fun j => at0 (unitT t.length k) j * v j) = v k := by
    rw [sm_single List.nodup_range (List.mem_range.mpr hk)]
    · unfold unitT
      rw [at0_map_range hk, if_pos rfl]; grind
    · intro j hj hne
      unfold unitT
      rw [at0_map_range (List.mem_range.mp hj), if_neg hne]; grind
  dsimp only
  rw [e]
  grind
theorem exprStep_len (r : Row) (S : Sm) (size : Nat) (col : Option Nat) (q : Row × Rat) (j : Nat) (h : q.1.length = size) : (exprStep r S size col q j).1.length = size := by
  unfold exprStep
  split
  · unfold addF; rw [List.length_map, List.length_range]
  · exact h
theorem exprTo_len (r : Row) (c : Rat) (S : Sm) (size : Nat) (col : Option Nat) : ∀ k, (exprTo r c S size col k).1.length = size
  | 0 => List.length_replicate
  | k + 1 => by
    have ih := exprTo_len r c S size col k
    unfold exprTo at ih ⊢
    rw [List.range_succ, List.foldl_append]
    exact exprStep_len r S size col _ k ih
structure Tears (A : Mat) (n : Nat) (t : List Nat) : Prop where
  nd : t.Nodup
  lt : ∀ j ∈ t, j < n
  enough : (causal A t).length + t.length = n
def smallA (A : Mat) (b : Row) (t : List Nat) : Mat := (smallOf A b (sumsOf A b t (causal A t)) t.length (restOf A (causal A t))).map (·.1)
def smallB (A : Mat) (b : Row) (t : List Nat) : Row := (smallOf A b (sumsOf A b t (causal A t)) t.length (restOf A (causal A t))).map (·.2)
structure TornOk (A : Mat) (b : Row) (n : Nat) (t : List Nat) (xs : Row) : Prop where
  rest : (restOf A (causal A t)).length = t.length
  sq : Sq (smallA A b t) t.length
  lb : (smallB A b t).length = t.length
  keys : ∀ j, j < n → j ∈ (sumsOf A b t (causal A t)).map (·.1)
  told : solveL (smallA A b t) (smallB A b t) = .sol (t.map fun j => at0 xs j)
  out : tornOut A (sumsOf A b t (causal A t)) (t.map fun j => at0 xs j) t.length = xs
theorem row_map1 {T : Type} (l : List T) (g : T → Row × Rat) (k : Nat) (hk : k < l.length) : row ((l.map g).map (·.1)) k = (g l[k]).1 ∧ at0 ((l.map g).map (·.2)) k = (g l[k]).2 := by
  unfold row at0
  rw [List.getD_eq_getElem?_getD, List.getD_eq_getElem?_getD, List.getElem?_map, List.getElem?_map, List.getElem?_map, List.getElem?_map, List.getElem?_eq_getElem hk]
  exact ⟨rfl, rfl⟩
theorem outAt_eq (q : Row × Rat) (v : Row) : ∀ k, outAt q v k = sm (List.range k) (fun j => at0 q.1 j * at0 v j) + q.2 * 1
  | 0 => by show q.2 = 0 + q.2 * 1; grind
  | k + 1 => by
    unfold outAt
    rw [List.range_succ, List.foldl_append, sm_append, sm_cons, sm_nil]
    have ih := outAt_eq q v k
    unfold outAt at ih
    rw [ih]
    show _ + _ = _
    grind
theorem torn_ok {A : Mat} {b xs : Row} {n : Nat} {t : List Nat} (s : Sq A n) (hr : Reg A n) (T : Tears A n t) (hx : Solves A b n fun j => at0 xs j) (lx : xs.length = n) : TornOk A b n t xs := by
  have hA : ∀ i, i < A.length → (row A i).length = n := fun i hi => s.rowlen (by rw [← s.len]; exact hi)
  have hch : Chain A t [] (causal A t) := causalL_chain A _ _ _
  obtain ⟨r1, r2⟩ := hch.rows
  obtain ⟨c1, c2⟩ := hch.cols hA
  obtain ⟨k1, k2, k3⟩ := pairs_hold (b := b) (size := t.length) hA (causal A t) (tearS t) [] (by rw [tear_keys]; exact hch) (fun i hi => by simp at hi)
  rw [tear_keys] at k1 k3
  have hS0 : sumsOf A b t (causal A t) = (causal A t).foldl (pairStep A b t.length) (tearS t) := rfl
  rw [← hS0] at k1 k2 k3
  clear hS0
  generalize hps : causal A t = ps at k1 k2 k3 hch r1 r2 c1 c2
  generalize hS : sumsOf A b t ps = S at k1 k2 k3
  have keysnd : (S.map (·.1)).Nodup := by
    rw [k1]
    refine List.nodup_append.mpr ⟨T.nd, c1, fun x hx y hy e => ?_⟩
    obtain ⟨q, hq, rfl⟩ := List.mem_map.mp hy
    exact (c2 q hq).2 (e ▸ hx)
  have keyslt : ∀ x ∈ S.map (·.1), x < n := fun x hx => by
    rw [k1] at hx
    rcases List.mem_append.mp hx with hx | hx
    · exact T.lt x hx
    · obtain ⟨q, hq, rfl⟩ := List.mem_map.mp hx
      exact (c2 q hq).1
  have enough : ps.length + t.length = n := by rw [← hps]; exact T.enough
  have keyslen : (S.map (·.1)).length = n := by rw [k1, List.length_append, List.length_map]; omega
  have keys : ∀ j, j < n → j ∈ S.map (·.1) := fun j hj => cover keysnd keyslt (by omega) hj
  -- the rest
  have hrest : (restOf A ps).length = t.length := by
    have h1 : (List.range A.length).length = (restOf A ps).length + (ps.map (·.1)).length := by
      have hp : (List.range A.length).Perm (restOf A ps ++ ps.map (·.1)) := by
        have nd1 : (restOf A ps).Nodup := List.nodup_range.filter _
        refine (List.perm_ext_iff_of_nodup List.nodup_range (List.nodup_append.mpr ⟨nd1, r1, fun x hx y hy e => ?_⟩)).mpr fun i => ?_
        · unfold restOf at hx
          have := (List.mem_filter.mp hx).2
          subst e
          simp at this
          obtain ⟨q, hq, e⟩ := List.mem_map.mp hy
          exact this q.2 (by cases q; cases e; exact hq)
        · rw [List.mem_append]
          unfold restOf
          rw [List.mem_filter, List.mem_range]
          constructor
          · intro hi
            by_cases hm : i ∈ ps.map (·.1)
            · exact .inr hm
            · exact .inl ⟨hi, by simpa using hm⟩
          · rintro (h | h)
            · exact h.1
            · obtain ⟨q, hq, rfl⟩ := List.mem_map.mp h
              exact (r2 q hq).1
      rw [hp.length_eq, List.length_append]
    rw [List.length_range, List.length_map, s.len] at h1
    omega
  have hty : ∀ k, k < t.length → ∀ v u, yAt S t.length v u (t.getD k 0) = v k := fun k hk v u => by
    have hm : t.getD k 0 ∈ t := by
      rw [List.getD_eq_getElem?_getD, List.getElem?_eq_getElem hk]
      exact List.getElem_mem hk
    rw [k3 _ hm, tear_y T.nd hk]
  -- the rows of the rest, in the tears
  have hsm : ∀ i, i < A.length → ∀ v u, dot t.length (expressed (row A i) (at0 b i) S t.length none).1 v - (expressed (row A i) (at0 b i) S t.length none).2 * u = dot n (row A i) (yAt S t.length v u) - at0 b i * u := fun i hi v u => by
    have e := exprTo_form (row A i) (at0 b i) S t.length none v u (row A i).length
    have e2 : sm (List.range (row A i).length) (fun j => if some j = none then 0 else at0 (row A i) j * yAt S t.length v u j) = dot n (row A i) (yAt S t.length v u) := by
      rw [hA i hi]
      exact sm_congr fun j _ => by rw [if_neg (by simp)]
    rw [e2] at e
    rw [← e]
    unfold formAt dot expressed
    grind
  have lenA : (smallA A b t).length = t.length := by unfold smallA smallOf; rw [List.length_map, List.length_map, hps, hrest]
  have lenB : (smallB A b t).length = t.length := by unfold smallB smallOf; rw [List.length_map, List.length_map, hps, hrest]
  have rowA : ∀ k (hk : k < (restOf A ps).length), row (smallA A b t) k = (expressed (row A (restOf A ps)[k]) (at0 b (restOf A ps)[k]) S t.length none).1 ∧ at0 (smallB A b t) k = (expressed (row A (restOf A ps)[k]) (at0 b (restOf A ps)[k]) S t.length none).2 := fun k hk => by
    unfold smallA smallB smallOf
    rw [hps, hS]
    exact row_map1 _ _ k hk
  have sq : Sq (smallA A b t) t.length := by
    refine ⟨lenA, fun r hr => ?_⟩
    obtain ⟨q, hq, rfl⟩ := List.mem_map.mp hr
    obtain ⟨i, _, rfl⟩ := List.mem_map.mp hq
    exact exprTo_len _ _ _ _ _ _
  have rlt : ∀ k (hk : k < (restOf A ps).length), (restOf A ps)[k] < A.length := fun k hk => List.mem_range.mp (List.mem_filter.mp (List.getElem_mem hk)).1
  -- what holds in the small system holds in the whole one
  have whole : ∀ (v : Nat → Rat) (u : Rat), (∀ k, k < (smallA A b t).length → dot t.length (row (smallA A b t) k) v = at0 (smallB A b t) k * u) → ∀ i, i < A.length → dot n (row A i) (yAt S t.length v u) = at0 b i * u := fun v u h i hi => by
    by_cases hm : i ∈ ps.map (·.1)
    · exact k2 i (.inr hm) v u
    · have hri : i ∈ restOf A ps := List.mem_filter.mpr ⟨List.mem_range.mpr hi, by simpa using hm⟩
      obtain ⟨k, hk, e⟩ := List.getElem_of_mem hri
      have h1 := h k (by rw [lenA, ← hrest]; exact hk)
      obtain ⟨q1, q2⟩ := rowA k hk
      rw [q1, q2, e] at h1
      have h2 := hsm i hi v u
      grind
  have back' : ∀ (v : Nat → Rat) (u : Rat), (∀ i, i < A.length → dot n (row A i) (yAt S t.length v u) = at0 b i * u) → ∀ k, k < (smallA A b t).length → dot t.length (row (smallA A b t) k) v = at0 (smallB A b t) k * u := fun v u h k hk => by
    have hk' : k < (restOf A ps).length := by rw [lenA] at hk; omega
    obtain ⟨q1, q2⟩ := rowA k hk'
    rw [q1, q2]
    have h1 := h _ (rlt k hk')
    have h2 := hsm _ (rlt k hk') v u
    grind
  have reg : Reg (smallA A b t) t.length := fun v hv k hk => by
    have h0 := whole v 0 fun k hk => by rw [hv k hk]; grind
    have h1 := hr (yAt S t.length v 0) (fun i hi => by rw [h0 i hi]; grind)
    rw [← hty k hk v 0]
    refine h1 _ ?_
    refine T.lt _ ?_
    rw [List.getD_eq_getElem?_getD, List.getElem?_eq_getElem hk]
    exact List.getElem_mem hk
  obtain ⟨vs, V⟩ := solveL_reg sq lenB reg
  have hy : Solves A b n (yAt S t.length (fun k => at0 vs k) 1) := fun i hi => by
    rw [whole _ 1 (fun k hk => by rw [V.sol k hk]; grind) i hi]; grind
  have hyx : ∀ j, j < n → yAt S t.length (fun k => at0 vs k) 1 j = at0 xs j := hr.uniq hy hx
  have evs : vs = t.map fun j => at0 xs j := by
    refine List.ext_getElem (by rw [V.len, List.length_map]) fun k h1 h2 => ?_
    have hk : k < t.length := by rw [← V.len]; exact h1
    have e1 := hty k hk (fun k => at0 vs k) 1
    have eg : t.getD k 0 = t[k] := by rw [List.getD_eq_getElem?_getD, List.getElem?_eq_getElem hk]; rfl
    rw [eg, hyx _ (T.lt _ (List.getElem_mem hk)), at0_lt h1] at e1
    rw [List.getElem_map]
    exact e1.symm
  refine ⟨by rw [hps]; exact hrest, sq, lenB, by rw [hps, hS]; exact keys, by rw [← evs]; exact V.told, ?_⟩
  rw [← evs, hps, hS]
  unfold tornOut
  refine List.ext_getElem (by rw [List.length_map, List.length_range, s.len, lx]) fun j h1 h2 => ?_
  rw [List.getElem_map, List.getElem_range, outAt_eq, ← at0_lt h2]
  exact hyx j (by rw [← lx]; exact h2)
end K97
end
section
set_option linter.all false
namespace K97
/-! ## the choice of tears -/
def firstOf (ns : List Nat) : Nat := match ns.getLast? with
  | some x => x + 1
  | none => 0
def more (n : Nat) (ns : List Nat) : List (List Nat) := (List.range' (firstOf ns) (n - firstOf ns)).map fun k => ns ++ [k]
def chStep (n : Nat) (found : List (List Nat)) : List (List Nat) := found.flatMap (more n)
def choices (n : Nat) : Nat → List (List Nat)
  | 0 => [[]]
  | s + 1 => chStep n (choices n s)
def tearAt (A : Mat) (size : Nat) : Option (List Nat) := (choices A.length size).find? fun t => decide ((causal A t).length + size = A.length)
def bestTears (A : Mat) : Option (List Nat) := (List.range (A.length + 1)).findSome? (tearAt A)
structure Asc (n s : Nat) (t : List Nat) : Prop where
  len : t.length = s
  up : t.Pairwise (· < ·)
  lt : ∀ j ∈ t, j < n
  first : ∀ j ∈ t, j < firstOf t
theorem first_snoc (t : List Nat) (k : Nat) : firstOf (t ++ [k]) = k + 1 := by
  unfold firstOf
  rw [List.getLast?_concat]
theorem choices_asc (n : Nat) : ∀ (s : Nat) (t : List Nat), t ∈ choices n s → Asc n s t
  | 0, t, h => by
    have e : t = [] := by simpa [choices] using h
    subst e
    exact ⟨rfl, .nil, fun j hj => by simp at hj, fun j hj => by simp at hj⟩
  | s + 1, t, h => by
    obtain ⟨u, hu, ht⟩ := List.mem_flatMap.mp h
    have U := choices_asc n s u hu
    obtain ⟨k, hk, rfl⟩ := List.mem_map.mp ht
    rw [List.mem_range'_1] at hk
    refine ⟨by rw [List.length_append, U.len]; rfl, List.pairwise_append.mpr ⟨U.up, List.pairwise_singleton _ _, fun a ha b hb => ?_⟩, fun j hj => ?_, fun j hj => ?_⟩
    · rw [List.mem_singleton.mp hb]
      have := U.first a ha
      omega
    · rcases List.mem_append.mp hj with hj | hj
      · exact U.lt j hj
      · rw [List.mem_singleton.mp hj]; omega
    · rw [first_snoc]
      rcases List.mem_append.mp hj with hj | hj
      · have := U.first j hj; omega
      · rw [List.mem_singleton.mp hj]; omega
theorem range_in (n : Nat) : ∀ s, s ≤ n → List.range s ∈ choices n s
  | 0, _ => by simp [choices]
  | s + 1, h => by
    refine List.mem_flatMap.mpr ⟨List.range s, range_in n s (by omega), List.mem_map.mpr ⟨s, ?_, List.range_succ.symm⟩⟩
    have e : firstOf (List.range s) = s := by
      cases s with
      | zero => rfl
      | succ m => rw [List.range_succ, first_snoc]
    rw [e, List.mem_range'_1]
    omega
theorem causal_all {A : Mat} {n : Nat} (s : Sq A n) : causal A (List.range n) = [] := by
  unfold causal causalL
  have e : nextPair A (List.range n) [] = none := by
    unfold nextPair
    rw [List.findSome?_eq_none_iff]
    intro i hi
    have hl : (row A i).length = n := s.rowlen (by rw [← s.len]; exact List.mem_range.mp hi)
    have ho : openCols (row A i) (List.range n) = [] := by
      unfold openCols
      rw [List.filter_eq_nil_iff]
      intro j hj
      have := List.mem_range.mp hj
      simp
      intro _
      omega
    unfold pairAt
    rw [ho]
    split <;> rfl
  rw [e]
theorem tears_all {A : Mat} {n : Nat} (s : Sq A n) : Tears A n (List.range n) :=
  ⟨List.nodup_range, fun j hj => List.mem_range.mp hj, by rw [causal_all s, List.length_range]; simp⟩
theorem tearAt_some {A : Mat} {n size : Nat} {t : List Nat} (s : Sq A n) (h : tearAt A size = some t) : Tears A n t ∧ t.length = size := by
  unfold tearAt at h
  have h1 := List.mem_of_find?_eq_some h
  have h2 := List.find?_some h
  have T := choices_asc _ _ _ h1
  refine ⟨⟨T.up.imp fun h => Nat.ne_of_lt h, fun j hj => by rw [← s.len]; exact T.lt j hj, ?_⟩, T.len⟩
  have h3 : (causal A t).length + size = A.length := of_decide_eq_true h2
  rw [T.len, h3, s.len]
theorem bestTears_ok {A : Mat} {n : Nat} (s : Sq A n) : ∃ t, bestTears A = some t ∧ Tears A n t := by
  cases e : bestTears A with
  | none =>
    unfold bestTears at e
    rw [List.findSome?_eq_none_iff] at e
    have := e n (List.mem_range.mpr (by rw [s.len]; omega))
    unfold tearAt at this
    rw [List.find?_eq_none] at this
    have := this (List.range n) (by rw [s.len]; exact range_in n n (Nat.le_refl _))
    rw [causal_all s, s.len] at this
    simp at this
  | some t =>
    refine ⟨t, rfl, ?_⟩
    unfold bestTears at e
    obtain ⟨size, _, he⟩ := List.exists_of_findSome?_eq_some e
    exact (tearAt_some s he).1
end K97
end
section
set_option linter.all false
namespace K97
/-! ## matching -/
abbrev Gr := List (Nat × List Nat)
abbrev OW := List (Nat × Nat)
def jn (G : Gr) (i : Nat) : List Nat := (G.lookup i).getD []
def putO (k v : Nat) : OW → OW
  | [] => [(k, v)]
  | (k', v') :: r => if k' = k then (k', v) :: r else (k', v') :: putO k v r
abbrev AugR := Bool × OW × List Nat
def augL (rec : OW → List Nat → Nat → AugR) (name : Nat) : List Nat → OW → List Nat → AugR
  | [], o, s => (false, o, s)
  | k :: ks, o, s => if s.contains k then augL rec name ks o s else
    match o.lookup k with
    | none => (true, putO k name o, s ++ [k])
    | some nm => if (rec o (s ++ [k]) nm).1 then (true, putO k name (rec o (s ++ [k]) nm).2.1, (rec o (s ++ [k]) nm).2.2)
      else augL rec name ks (rec o (s ++ [k]) nm).2.1 (rec o (s ++ [k]) nm).2.2
def kuhn (G : Gr) : Nat → OW → List Nat → Nat → AugR
  | 0, o, s, _ => (false, o, s)
  | f + 1, o, s, nm => augL (kuhn G f) nm (jn G nm) o s
def FU : Nat := 7
def ownersF (G : Gr) (o : OW) (nm : Nat) : OW := (kuhn G FU o [] nm).2.1
def owners (G : Gr) (names : List Nat) : OW := names.foldl (ownersF G) []
def without (G : Gr) (names used : List Nat) : Gr := names.map fun nm => (nm, (jn G nm).filter fun k => !used.contains k)
def matchKey (G : Gr) (rest used : List Nat) (left : Nat) : List Nat → Option Nat
  | [] => none
  | k :: ks => if used.contains k then matchKey G rest used left ks else
    if (owners (without G rest (used ++ [k])) rest).length + 1 = left then some k else matchKey G rest used left ks
def matchL (G : Gr) : List Nat → List Nat → List (Nat × Nat) → Nat → List (Nat × Nat)
  | [], _, found, _ => found
  | nm :: rest, used, found, left => match matchKey G rest used left (jn G nm) with
    | none => matchL G rest used found left
    | some k => matchL G rest (used ++ [k]) (found ++ [(nm, k)]) (left - 1)
def matchM (G : Gr) (names : List Nat) : List (Nat × Nat) := matchL G names [] [] (owners G names).length

/-! ### lookups -/
theorem lookup_putO (k v j : Nat) : ∀ o : OW, (putO k v o).lookup j = if j = k then some v else o.lookup j
  | [] => by
    by_cases h : j = k
    · subst h; simp [putO, List.lookup]
    · simp [putO, List.lookup, h, beq_eq_false_iff_ne.mpr h]
  | (k', v') :: r => by
    unfold putO
    by_cases h : k' = k
    · rw [if_pos h]
      subst h
      by_cases e : j = k'
      · subst e; simp [List.lookup]
      · simp [List.lookup, e, beq_eq_false_iff_ne.mpr e]
    · rw [if_neg h]
      by_cases e : j = k'
      · subst e; simp [List.lookup, h]
      · simp only [List.lookup, beq_eq_false_iff_ne.mpr e]
        exact lookup_putO k v j r
theorem lookup_mem {o : OW} {k v : Nat} (h : o.lookup k = some v) : (k, v) ∈ o := by
  induction o with
  | nil => cases h
  | cons a r ih =>
    obtain ⟨k', v'⟩ := a
    by_cases e : k = k'
    · subst e; simp [List.lookup] at h; subst h; exact List.mem_cons_self
    · simp only [List.lookup, beq_eq_false_iff_ne.mpr e] at h
      exact List.mem_cons_of_mem _ (ih h)
theorem lookup_none {o : OW} {k : Nat} (h : o.lookup k = none) : k ∉ o.map (·.1) := by
  induction o with
  | nil => simp
  | cons a r ih =>
    obtain ⟨k', v'⟩ := a
    by_cases e : k = k'
    · subst e; simp [List.lookup] at h
    · simp only [List.lookup, beq_eq_false_iff_ne.mpr e] at h
      rw [List.map_cons, List.mem_cons]
      rintro (z | z)
      · exact e z
      · exact ih h z
theorem putO_new {k v : Nat} : ∀ {o : OW}, o.lookup k = none → putO k v o = o ++ [(k, v)]
  | [], _ => rfl
  | (k', v') :: r, h => by
    by_cases e : k = k'
    · subst e; simp [List.lookup] at h
    · simp only [List.lookup, beq_eq_false_iff_ne.mpr e] at h
      unfold putO
      rw [if_neg (Ne.symm e), putO_new h]
      rfl
theorem putO_old {k v w : Nat} : ∀ {o : OW}, o.lookup k = some w → (putO k v o).map (·.1) = o.map (·.1) ∧ (w :: (putO k v o).map (·.2)).Perm (v :: o.map (·.2))
  | [], h => by cases h
  | (k', v') :: r, h => by
    by_cases e : k = k'
    · subst e
      simp [List.lookup] at h
      subst h
      unfold putO
      rw [if_pos rfl]
      exact ⟨rfl, .swap _ _ _⟩
    · simp only [List.lookup, beq_eq_false_iff_ne.mpr e] at h
      obtain ⟨h1, h2⟩ := putO_old (v := v) h
      unfold putO
      rw [if_neg (Ne.symm e)]
      refine ⟨by rw [List.map_cons, List.map_cons, h1], ?_⟩
      rw [List.map_cons, List.map_cons]
      exact (List.Perm.swap _ _ _).trans ((h2.cons _).trans (List.Perm.swap _ _ _))
theorem putO_len {k v : Nat} (o : OW) : (putO k v o).length = if (o.lookup k).isSome then o.length else o.length + 1 := by
  cases h : o.lookup k with
  | none => rw [putO_new h]; simp
  | some w =>
    have := congrArg List.length (putO_old (v := v) h).1
    rw [List.length_map, List.length_map] at this
    simp [this]
theorem mem_putO {k v : Nat} {p : Nat × Nat} {o : OW} (h : p ∈ putO k v o) : p = (k, v) ∨ p ∈ o := by
  induction o with
  | nil => left; simpa [putO] using h
  | cons a r ih =>
    obtain ⟨k', v'⟩ := a
    unfold putO at h
    by_cases e : k' = k
    · rw [if_pos e] at h
      rcases List.mem_cons.mp h with h | h
      · left; rw [h, e]
      · right; exact List.mem_cons_of_mem _ h
    · rw [if_neg e] at h
      rcases List.mem_cons.mp h with h | h
      · right; rw [h]; exact List.mem_cons_self
      · rcases ih h with h | h
        · exact .inl h
        · exact .inr (List.mem_cons_of_mem _ h)
theorem putO_nodup {k v : Nat} {o : OW} (h : (o.map (·.1)).Nodup) : ((putO k v o).map (·.1)).Nodup := by
  cases e : o.lookup k with
  | none =>
    rw [putO_new e, List.map_append]
    refine List.nodup_append.mpr ⟨h, by simp, fun a ha b hb => ?_⟩
    simp at hb
    subst hb
    rintro rfl
    exact lookup_none e ha
  | some w => rw [(putO_old (v := v) e).1]; exact h

/-! ### what one search does -/
/-- how many keys were not seen -/
def uns (U s : List Nat) : Nat := (U.filter fun k => !s.contains k).length
theorem uns_snoc {U s : List Nat} {k : Nat} (hk : k ∈ U) (hs : k ∉ s) : uns U (s ++ [k]) < uns U s := by
  unfold uns
  have e : (U.filter fun j => !(s ++ [k]).contains j) = (U.filter fun j => !s.contains j).filter fun j => decide (j ≠ k) := by
    rw [List.filter_filter]
    refine List.filter_congr fun j _ => ?_
    by_cases h1 : j ∈ s <;> by_cases h2 : j = k <;> simp [h1, h2]
  rw [e]
  have hm : k ∈ U.filter fun j => !s.contains j := List.mem_filter.mpr ⟨hk, by simpa using hs⟩
  refine Nat.lt_of_not_le fun hle => ?_
  have h3 := List.length_filter_le (fun j => decide (j ≠ k)) (U.filter fun j => !s.contains j)
  have h4 := List.length_filter_eq_length_iff.mp (Nat.le_antisymm h3 hle) k hm
  simp at h4
structure Ow (G : Gr) (o : OW) : Prop where
  ok : ∀ p ∈ o, p.1 ∈ jn G p.2
  nd : (o.map (·.1)).Nodup
structure AugOk (G : Gr) (o : OW) (s : List Nat) (name : Nat) (ks : List Nat) (r : AugR) : Prop where
  mono : ∀ x ∈ s, x ∈ r.2.2
  nd : s.Nodup → r.2.2.Nodup
  no : r.1 = false → r.2.1 = o ∧ (∀ k ∈ ks, k ∈ r.2.2) ∧ ∀ k ∈ r.2.2, k ∉ s → ∃ nm, o.lookup k = some nm ∧ ∀ j ∈ jn G nm, j ∈ r.2.2
  yes : r.1 = true → Ow G r.2.1 ∧ (r.2.1.map (·.2)).Perm (name :: o.map (·.2)) ∧ ∀ x ∈ s, r.2.1.lookup x = o.lookup x
theorem nodup_snoc {s : List Nat} {k : Nat} (h : s.Nodup) (hk : k ∉ s) : (s ++ [k]).Nodup := by
  refine List.nodup_append.mpr ⟨h, by simp, fun a ha b hb => ?_⟩
  simp at hb
  subst hb
  rintro rfl
  exact hk ha
theorem augL_ok {G : Gr} {U : List Nat} {f : Nat} {rec : OW → List Nat → Nat → AugR} (hrec : ∀ o s nm, Ow G o → uns U s < f → AugOk G o s nm (jn G nm) (rec o s nm)) (name : Nat) :
    ∀ (ks : List Nat) (o : OW) (s : List Nat), (∀ k ∈ ks, k ∈ U ∧ k ∈ jn G name) → Ow G o → uns U s < f + 1 → AugOk G o s name ks (augL rec name ks o s)
  | [], o, s, _, _, _ => ⟨fun x hx => hx, fun h => h, fun _ => ⟨rfl, fun k hk => by simp at hk, fun k hk hn => absurd hk hn⟩, fun h => by simp [augL] at h⟩
  | k :: ks, o, s, hk, hO, hu => by
    have hk0 := hk k List.mem_cons_self
    have hks := fun j hj => hk j (List.mem_cons_of_mem _ hj)
    unfold augL
    by_cases hs : s.contains k = true
    · rw [if_pos hs]
      have R := augL_ok hrec name ks o s hks hO hu
      refine ⟨R.mono, R.nd, fun h => ?_, R.yes⟩
      obtain ⟨a, b, c⟩ := R.no h
      refine ⟨a, fun j hj => ?_, c⟩
      rcases List.mem_cons.mp hj with rfl | hj
      · exact R.mono _ (by simpa using hs)
      · exact b j hj
    · rw [if_neg hs]
      have hs' : k ∉ s := by simpa using hs
      cases e : o.lookup k with
      | none =>
        dsimp only
        refine ⟨fun x hx => List.mem_append_left _ hx, fun h => nodup_snoc h hs', fun h => (by cases h), fun _ => ⟨⟨fun p hp => ?_, putO_nodup hO.nd⟩, ?_, fun x hx => ?_⟩⟩
        · rcases mem_putO hp with rfl | hp
          · exact hk0.2
          · exact hO.ok p hp
        · rw [putO_new e, List.map_append]
          exact List.perm_append_comm
        · dsimp only
          rw [lookup_putO, if_neg]
          rintro rfl
          exact hs' hx
      | some nm =>
        dsimp only
        have R := hrec o (s ++ [k]) nm hO (by have := uns_snoc hk0.1 hs'; omega)
        generalize rec o (s ++ [k]) nm = r at R ⊢
        obtain ⟨b, o1, s1⟩ := r
        cases b with
        | true =>
          rw [if_pos rfl]
          obtain ⟨y1, y2, y3⟩ := R.yes rfl
          dsimp only at y1 y2 y3
          have ek : o1.lookup k = some nm := (y3 k (List.mem_append_right _ (List.mem_singleton.mpr rfl))).trans e
          refine ⟨fun x hx => R.mono x (List.mem_append_left _ hx), fun h => R.nd (nodup_snoc h hs'), fun h => (by cases h), fun _ => ⟨⟨fun p hp => ?_, putO_nodup y1.nd⟩, ?_, fun x hx => ?_⟩⟩
          · rcases mem_putO hp with rfl | hp
            · exact hk0.2
            · exact y1.ok p hp
          · have h1 := (putO_old (v := name) ek).2
            have h2 : (nm :: (putO k name o1).map (·.2)).Perm (nm :: name :: o.map (·.2)) := h1.trans ((y2.cons name).trans (.swap _ _ _))
            exact h2.cons_inv
          · dsimp only
            rw [lookup_putO, if_neg, y3 x (List.mem_append_left _ hx)]
            rintro rfl
            exact hs' hx
        | false =>
          rw [if_neg (show ¬ (false = true) by decide)]
          obtain ⟨n1, n2, n3⟩ := R.no rfl
          dsimp only at n1 n2 n3
          subst n1
          have hm1 : ∀ x ∈ s, x ∈ s1 := fun x hx => R.mono x (List.mem_append_left _ hx)
          have hk1 : k ∈ s1 := R.mono k (List.mem_append_right _ (List.mem_singleton.mpr rfl))
          have hu1 : uns U s1 < f + 1 := by
            refine Nat.lt_of_le_of_lt ?_ hu
            unfold uns
            have e2 : (U.filter fun j => !s1.contains j) = (U.filter fun j => !s.contains j).filter fun j => !s1.contains j := by
              rw [List.filter_filter]
              refine List.filter_congr fun j _ => ?_
              by_cases h1 : j ∈ s
              · simp [h1, hm1 j h1]
              · simp [h1]
            rw [e2]
            exact List.length_filter_le _ _
          have Q := augL_ok hrec name ks o1 s1 hks hO hu1
          refine ⟨fun x hx => Q.mono x (hm1 x hx), fun h => Q.nd (R.nd (nodup_snoc h hs')), fun h => ?_, fun h => ?_⟩
          · obtain ⟨a, b, c⟩ := Q.no h
            refine ⟨a, fun j hj => ?_, fun j hj hjs => ?_⟩
            · rcases List.mem_cons.mp hj with rfl | hj
              · exact Q.mono _ hk1
              · exact b j hj
            · by_cases h1 : j ∈ s1
              · by_cases h2 : j = k
                · subst h2
                  exact ⟨nm, e, fun i hi => Q.mono i (n2 i hi)⟩
                · obtain ⟨nm', g1, g2⟩ := n3 j h1 (fun z => by
                    rcases List.mem_append.mp z with z | z
                    · exact hjs z
                    · exact h2 (List.mem_singleton.mp z))
                  exact ⟨nm', g1, fun i hi => Q.mono i (g2 i hi)⟩
              · exact c j hj h1
          · obtain ⟨a, b, c⟩ := Q.yes h
            exact ⟨a, b, fun x hx => c x (hm1 x hx)⟩
theorem kuhn_ok {G : Gr} {U : List Nat} (hU : ∀ nm, ∀ k ∈ jn G nm, k ∈ U) : ∀ (f : Nat) (o : OW) (s : List Nat) (nm : Nat), Ow G o → uns U s < f → AugOk G o s nm (jn G nm) (kuhn G f o s nm)
  | 0, _, _, _, _, h => by omega
  | f + 1, o, s, nm, hO, hu => augL_ok (fun o s nm h1 h2 => kuhn_ok hU f o s nm h1 h2) nm (jn G nm) o s (fun k hk => ⟨hU nm k hk, hk⟩) hO hu
/-! ### complete matchings -/
/-- each of the names has a key of its own -/
def CM (G : Gr) (names : List Nat) : Prop := ∃ m : Nat → Nat, (∀ a ∈ names, m a ∈ jn G a) ∧ ∀ a ∈ names, ∀ b ∈ names, m a = m b → a = b
def Hall (G : Gr) (names : List Nat) : Prop := ∀ T S : List Nat, T.Nodup → (∀ t ∈ T, t ∈ names) → (∀ t ∈ T, ∀ k ∈ jn G t, k ∈ S) → T.length ≤ S.length
theorem nodup_map_on {T : Type} {f : Nat → T} : ∀ {l : List Nat}, l.Nodup → (∀ a ∈ l, ∀ b ∈ l, f a = f b → a = b) → (l.map f).Nodup
  | [], _, _ => List.nodup_nil
  | x :: l, hn, h => by
    have hn' := List.nodup_cons.mp hn
    rw [List.map_cons, List.nodup_cons]
    refine ⟨fun hm => ?_, nodup_map_on hn'.2 fun a ha b hb => h a (List.mem_cons_of_mem _ ha) b (List.mem_cons_of_mem _ hb)⟩
    obtain ⟨y, hy, e⟩ := List.mem_map.mp hm
    have := h y (List.mem_cons_of_mem _ hy) x List.mem_cons_self e
    subst this
    exact hn'.1 hy
theorem CM.hall {G : Gr} {names : List Nat} (h : CM G names) : Hall G names := fun T S hT hs hk => by
  obtain ⟨m, h1, h2⟩ := h
  have := sub_len (T.map m) S (nodup_map_on hT fun a ha b hb e => h2 a (hs a ha) b (hs b hb) e) fun x hx => by
    obtain ⟨t, ht, rfl⟩ := List.mem_map.mp hx
    exact hk t ht _ (h1 t (hs t ht))
  rwa [List.length_map] at this
/-- the state of owners behind some names -/
theorem owners_hall {G : Gr} {U : List Nat} (hU : ∀ nm, ∀ k ∈ jn G nm, k ∈ U) (hl : U.length < FU) {all : List Nat} (hH : Hall G all) : ∀ (names done : List Nat) (o : OW), (done ++ names).Nodup → (∀ x ∈ done ++ names, x ∈ all) → Ow G o → (o.map (·.2)).Perm done →
    Ow G (names.foldl (ownersF G) o) ∧ ((names.foldl (ownersF G) o).map (·.2)).Perm (done ++ names)
  | [], done, o, _, _, hO, hp => ⟨hO, by simpa using hp⟩
  | nm :: names, done, o, hn, ha, hO, hp => by
    have R := kuhn_ok hU FU o [] nm hO (Nat.lt_of_le_of_lt (List.length_filter_le _ _) hl)
    have hnm : nm ∉ done := fun z => (List.nodup_append.mp hn).2.2 nm z nm List.mem_cons_self rfl
    have hb : (kuhn G FU o [] nm).1 = true := by
      cases e : (kuhn G FU o [] nm).1 with
      | true => rfl
      | false =>
        obtain ⟨n1, n2, n3⟩ := R.no e
        have ndS := R.nd List.nodup_nil
        generalize (kuhn G FU o [] nm).2.2 = S at n2 n3 ndS
        have ndv : (o.map (·.2)).Nodup := hp.symm.nodup (List.nodup_append.mp hn).1
        have hlook : ∀ k ∈ S, o.lookup k = some ((o.lookup k).getD 0) := fun k hk => by
          obtain ⟨q, h1, _⟩ := n3 k hk (by simp)
          rw [h1]; rfl
        have hmem : ∀ k ∈ S, (o.lookup k).getD 0 ∈ done := fun k hk => hp.mem_iff.mp (List.mem_map_of_mem (f := fun (p : Nat × Nat) => p.2) (lookup_mem (hlook k hk)))
        have := hH (nm :: S.map fun k => (o.lookup k).getD 0) S (by
          rw [List.nodup_cons]
          refine ⟨fun z => ?_, nodup_map_on ndS fun a ha b hb e => ?_⟩
          · obtain ⟨k, hk, e⟩ := List.mem_map.mp z
            exact hnm (e ▸ hmem k hk)
          · have m1 := lookup_mem (hlook a ha)
            have m2 := lookup_mem (hlook b hb)
            rw [e] at m1
            -- equal values at one place only
            have inj : ∀ {l : OW}, (l.map (·.2)).Nodup → ∀ {x y v : Nat}, (x, v) ∈ l → (y, v) ∈ l → x = y := by
              intro l
              induction l with
              | nil => intro _ x y v h; simp at h
              | cons c r ih =>
                intro hnd x y v h1 h2
                rw [List.map_cons, List.nodup_cons] at hnd
                rcases List.mem_cons.mp h1 with h1 | h1 <;> rcases List.mem_cons.mp h2 with h2 | h2
                · rw [← h1] at h2; cases h2; rfl
                · exact absurd (by have q := List.mem_map_of_mem (f := fun (p : Nat × Nat) => p.2) h2; rw [← h1]; exact q) hnd.1
                · exact absurd (by have q := List.mem_map_of_mem (f := fun (p : Nat × Nat) => p.2) h1; rw [← h2]; exact q) hnd.1
                · exact ih hnd.2 h1 h2
            exact inj ndv m1 m2) (fun t ht => by
          rcases List.mem_cons.mp ht with rfl | ht
          · exact ha _ (List.mem_append_right _ List.mem_cons_self)
          · obtain ⟨k, hk, rfl⟩ := List.mem_map.mp ht
            exact ha _ (List.mem_append_left _ (hmem k hk))) (fun t ht k hk => by
          rcases List.mem_cons.mp ht with rfl | ht
          · exact n2 k hk
          · obtain ⟨k', hk', rfl⟩ := List.mem_map.mp ht
            obtain ⟨q, h1, h2⟩ := n3 k' hk' (by simp)
            rw [h1] at hk
            exact h2 k hk)
        rw [List.length_cons, List.length_map] at this
        omega
    obtain ⟨y1, y2, _⟩ := R.yes hb
    have := owners_hall hU hl hH names (done ++ [nm]) (ownersF G o nm) (by rw [List.append_assoc]; exact hn) (by rw [List.append_assoc]; exact ha) y1 (y2.trans ((hp.cons nm).trans (by
      have : (nm :: done).Perm (done ++ [nm]) := List.perm_append_comm (l₁ := [nm]) (l₂ := done)
      exact this)))
    rw [List.append_assoc] at this
    exact this
/-- never more than one a name -/
theorem owners_le {G : Gr} {U : List Nat} (hU : ∀ nm, ∀ k ∈ jn G nm, k ∈ U) (hl : U.length < FU) : ∀ (names done : List Nat) (o : OW), Ow G o → (∃ sub, (o.map (·.2)).Perm sub ∧ sub.Sublist done) →
    Ow G (names.foldl (ownersF G) o) ∧ ∃ sub, ((names.foldl (ownersF G) o).map (·.2)).Perm sub ∧ sub.Sublist (done ++ names)
  | [], done, o, hO, h => ⟨hO, by simpa using h⟩
  | nm :: names, done, o, hO, ⟨sub, hp, hs⟩ => by
    have R := kuhn_ok hU FU o [] nm hO (Nat.lt_of_le_of_lt (List.length_filter_le _ _) hl)
    have key : Ow G (ownersF G o nm) ∧ ∃ sub, ((ownersF G o nm).map (·.2)).Perm sub ∧ sub.Sublist (done ++ [nm]) := by
      unfold ownersF
      cases e : (kuhn G FU o [] nm).1 with
      | true =>
        obtain ⟨y1, y2, _⟩ := R.yes e
        refine ⟨y1, sub ++ [nm], y2.trans ((hp.cons nm).trans (List.perm_append_comm (l₁ := [nm]) (l₂ := sub))), hs.append (List.Sublist.refl _)⟩
      | false =>
        obtain ⟨n1, _, _⟩ := R.no e
        rw [n1]
        exact ⟨hO, sub, hp, hs.trans (List.sublist_append_left _ _)⟩
    have := owners_le hU hl names (done ++ [nm]) (ownersF G o nm) key.1 key.2
    rw [List.append_assoc] at this
    exact this
theorem Ow.nil {G : Gr} : Ow G [] := ⟨fun p hp => by simp at hp, List.nodup_nil⟩
theorem own_iff {G : Gr} {U names : List Nat} (hU : ∀ nm, ∀ k ∈ jn G nm, k ∈ U) (hl : U.length < FU) (hn : names.Nodup) : (owners G names).length = names.length ↔ CM G names := by
  constructor
  · intro h
    obtain ⟨hO, sub, hp, hs⟩ := owners_le hU hl names [] [] Ow.nil ⟨[], .nil, .slnil⟩
    rw [List.nil_append] at hs
    have hlen : sub.length = names.length := by
      rw [← hp.length_eq, List.length_map]
      exact h
    have e : sub = names := hs.eq_of_length hlen
    subst e
    have hO' : Ow G (owners G sub) := hO
    have hp' : ((owners G sub).map (·.2)).Perm sub := hp
    -- the key of a name
    have hkey : ∀ a, ∃ k, a ∈ sub → (k, a) ∈ owners G sub := fun a => by
      by_cases ha : a ∈ sub
      · obtain ⟨p, hp1, e⟩ := List.mem_map.mp (hp'.mem_iff.mpr ha)
        exact ⟨p.1, fun _ => by cases p; cases e; exact hp1⟩
      · exact ⟨0, fun z => absurd z ha⟩
    refine ⟨fun a => (hkey a).choose, fun a ha => hO'.ok _ ((hkey a).choose_spec ha), fun a ha b hb e => ?_⟩
    have m1 := (hkey a).choose_spec ha
    have m2 := (hkey b).choose_spec hb
    have e' : (hkey a).choose = (hkey b).choose := e
    rw [e'] at m1
    have inj : ∀ {l : OW}, (l.map (·.1)).Nodup → ∀ {x y k : Nat}, (k, x) ∈ l → (k, y) ∈ l → x = y := by
      intro l
      induction l with
      | nil => intro _ x y v h; simp at h
      | cons c r ih =>
        intro hnd x y v h1 h2
        rw [List.map_cons, List.nodup_cons] at hnd
        rcases List.mem_cons.mp h1 with h1 | h1 <;> rcases List.mem_cons.mp h2 with h2 | h2
        · rw [← h1] at h2; cases h2; rfl
        · exact absurd (by have q := List.mem_map_of_mem (f := fun (p : Nat × Nat) => p.1) h2; rw [← h1]; exact q) hnd.1
        · exact absurd (by have q := List.mem_map_of_mem (f := fun (p : Nat × Nat) => p.1) h1; rw [← h2]; exact q) hnd.1
        · exact ih hnd.2 h1 h2
    exact inj hO'.nd m1 m2
  · intro h
    have := (owners_hall hU hl h.hall names [] [] (by simpa using hn) (by simp) Ow.nil .nil).2.length_eq
    rw [List.length_map, List.nil_append] at this
    exact this
/-! ### the least greatest matching, where all can be matched -/
theorem jn_without {G : Gr} {names used : List Nat} {a : Nat} (ha : a ∈ names) : jn (without G names used) a = (jn G a).filter fun k => !used.contains k := by
  have : (without G names used).lookup a = some ((jn G a).filter fun k => !used.contains k) := by
    unfold without
    induction names with
    | nil => simp at ha
    | cons x r ih =>
      by_cases e : a = x
      · subst e; simp [List.lookup]
      · rcases List.mem_cons.mp ha with h | h
        · exact absurd h e
        · simp only [List.map_cons, List.lookup, beq_eq_false_iff_ne.mpr e]
          exact ih h
  unfold jn at this ⊢
  rw [this]
  rfl
theorem without_U {G : Gr} {U names used : List Nat} (hU : ∀ nm, ∀ k ∈ jn G nm, k ∈ U) : ∀ nm, ∀ k ∈ jn (without G names used) nm, k ∈ U := fun nm k hk => by
  by_cases h : nm ∈ names
  · rw [jn_without h] at hk
    exact hU nm k (List.mem_filter.mp hk).1
  · have : (without G names used).lookup nm = none := by
      unfold without
      clear hk
      induction names with
      | nil => rfl
      | cons x r ih =>
        rw [List.mem_cons, not_or] at h
        simp only [List.map_cons, List.lookup, beq_eq_false_iff_ne.mpr h.1]
        exact ih h.2
    unfold jn at hk
    rw [this] at hk
    simp at hk
/-- the rest can be matched without the used keys -/
def CMu (G : Gr) (names used : List Nat) : Prop := ∃ m : Nat → Nat, (∀ a ∈ names, m a ∈ jn G a ∧ m a ∉ used) ∧ ∀ a ∈ names, ∀ b ∈ names, m a = m b → a = b
theorem CMu_iff {G : Gr} {names used : List Nat} : CM (without G names used) names ↔ CMu G names used := by
  constructor
  · rintro ⟨m, h1, h2⟩
    refine ⟨m, fun a ha => ?_, h2⟩
    have := h1 a ha
    rw [jn_without ha, List.mem_filter] at this
    exact ⟨this.1, by simpa using this.2⟩
  · rintro ⟨m, h1, h2⟩
    refine ⟨m, fun a ha => ?_, h2⟩
    rw [jn_without ha, List.mem_filter]
    exact ⟨(h1 a ha).1, by simpa using (h1 a ha).2⟩
theorem matchKey_ok {G : Gr} {U rest used : List Nat} (hU : ∀ nm, ∀ k ∈ jn G nm, k ∈ U) (hl : U.length < FU) (hn : rest.Nodup) : ∀ (ks : List Nat),
    (∀ k, matchKey G rest used (rest.length + 1) ks = some k → k ∈ ks ∧ k ∉ used ∧ CMu G rest (used ++ [k])) ∧ (matchKey G rest used (rest.length + 1) ks = none → ∀ k ∈ ks, k ∉ used → ¬ CMu G rest (used ++ [k]))
  | [] => ⟨fun k h => by simp [matchKey] at h, fun _ k hk => by simp at hk⟩
  | k :: ks => by
    obtain ⟨h1, h2⟩ := matchKey_ok hU hl hn ks
    unfold matchKey
    by_cases hu : used.contains k = true
    · rw [if_pos hu]
      refine ⟨fun j hj => ?_, fun h j hj hju => ?_⟩
      · obtain ⟨a, b, c⟩ := h1 j hj
        exact ⟨List.mem_cons_of_mem _ a, b, c⟩
      · rcases List.mem_cons.mp hj with rfl | hj
        · exact absurd (by simpa using hu) hju
        · exact h2 h j hj hju
    · rw [if_neg hu]
      have hi := own_iff (G := without G rest (used ++ [k])) (U := U) (without_U hU) hl hn
      by_cases ho : (owners (without G rest (used ++ [k])) rest).length + 1 = rest.length + 1
      · rw [if_pos ho]
        refine ⟨fun j hj => ?_, fun h => (by cases h)⟩
        obtain rfl := Option.some.inj hj
        exact ⟨List.mem_cons_self, by simpa using hu, CMu_iff.mp (hi.mp (by omega))⟩
      · rw [if_neg ho]
        refine ⟨fun j hj => ?_, fun h j hj hju => ?_⟩
        · obtain ⟨a, b, c⟩ := h1 j hj
          exact ⟨List.mem_cons_of_mem _ a, b, c⟩
        · rcases List.mem_cons.mp hj with rfl | hj
          · intro hc
            exact ho (by rw [hi.mpr (CMu_iff.mpr hc)])
          · exact h2 h j hj hju
theorem matchL_ok {G : Gr} {U : List Nat} (hU : ∀ nm, ∀ k ∈ jn G nm, k ∈ U) (hl : U.length < FU) : ∀ (names used : List Nat) (found : List (Nat × Nat)), names.Nodup → CMu G names used →
    ∃ ms : List (Nat × Nat), matchL G names used found names.length = found ++ ms ∧ ms.map (·.1) = names ∧ (∀ p ∈ ms, p.2 ∈ jn G p.1 ∧ p.2 ∉ used) ∧ (ms.map (·.2)).Nodup
  | [], used, found, _, _ => ⟨[], by simp [matchL], rfl, fun p hp => by simp at hp, List.nodup_nil⟩
  | nm :: rest, used, found, hn, hc => by
    have hn' := List.nodup_cons.mp hn
    obtain ⟨h1, h2⟩ := matchKey_ok (used := used) hU hl hn'.2 (jn G nm)
    obtain ⟨m, c1, c2⟩ := hc
    have hm := c1 nm List.mem_cons_self
    have hok : CMu G rest (used ++ [m nm]) := by
      refine ⟨m, fun a ha => ⟨(c1 a (List.mem_cons_of_mem _ ha)).1, fun z => ?_⟩, fun a ha b hb => c2 a (List.mem_cons_of_mem _ ha) b (List.mem_cons_of_mem _ hb)⟩
      rcases List.mem_append.mp z with z | z
      · exact (c1 a (List.mem_cons_of_mem _ ha)).2 z
      · have := c2 a (List.mem_cons_of_mem _ ha) nm List.mem_cons_self (List.mem_singleton.mp z)
        subst this
        exact hn'.1 ha
    unfold matchL
    rw [List.length_cons]
    cases e : matchKey G rest used (rest.length + 1) (jn G nm) with
    | none => exact absurd hok (h2 e (m nm) hm.1 hm.2)
    | some k =>
      dsimp only
      obtain ⟨k1, k2, k3⟩ := h1 k e
      obtain ⟨ms, g1, g2, g3, g4⟩ := matchL_ok hU hl rest (used ++ [k]) (found ++ [(nm, k)]) hn'.2 k3
      rw [Nat.add_sub_cancel]
      refine ⟨(nm, k) :: ms, by rw [g1, List.append_assoc]; rfl, by rw [List.map_cons, g2], fun p hp => ?_, ?_⟩
      · rcases List.mem_cons.mp hp with rfl | hp
        · exact ⟨k1, k2⟩
        · exact ⟨(g3 p hp).1, fun z => (g3 p hp).2 (List.mem_append_left _ z)⟩
      · rw [List.map_cons, List.nodup_cons]
        refine ⟨fun z => ?_, g4⟩
        obtain ⟨p, hp, e⟩ := List.mem_map.mp z
        exact (g3 p hp).2 (List.mem_append_right _ (List.mem_singleton.mpr e))
structure Mat1 (G : Gr) (names : List Nat) (ms : List (Nat × Nat)) : Prop where
  names : ms.map (·.1) = names
  ok : ∀ p ∈ ms, p.2 ∈ jn G p.1
  nd : (ms.map (·.2)).Nodup
theorem matchM_ok {G : Gr} {U names : List Nat} (hU : ∀ nm, ∀ k ∈ jn G nm, k ∈ U) (hl : U.length < FU) (hn : names.Nodup) (hH : Hall G names) : Mat1 G names (matchM G names) := by
  have h1 := (owners_hall hU hl hH names [] [] (by simpa using hn) (by simp) Ow.nil .nil).2.length_eq
  rw [List.length_map, List.nil_append] at h1
  have hlen : (owners G names).length = names.length := h1
  obtain ⟨m, c1, c2⟩ := (own_iff hU hl hn).mp hlen
  obtain ⟨ms, g1, g2, g3, g4⟩ := matchL_ok hU hl names [] [] hn ⟨m, fun a ha => ⟨c1 a ha, by simp⟩, c2⟩
  unfold matchM
  rw [hlen, g1, List.nil_append]
  exact ⟨g2, fun p hp => (g3 p hp).1, g4⟩
/-! ### a regular matrix has enough columns for any rows -/
def graphOf (A : Mat) : Gr := (List.range A.length).map fun i => (i, (List.range A.length).filter fun j => decide (ent A i j ≠ 0))
theorem jn_graph {A : Mat} {i : Nat} (hi : i < A.length) : jn (graphOf A) i = (List.range A.length).filter fun j => decide (ent A i j ≠ 0) := by
  have gen : ∀ (l : List Nat) (f : Nat → List Nat), i ∈ l → (l.map fun i => (i, f i)).lookup i = some (f i) := by
    intro l f
    induction l with
    | nil => intro h; simp at h
    | cons x r ih =>
      intro h
      by_cases e : i = x
      · subst e; simp [List.lookup]
      · rcases List.mem_cons.mp h with h | h
        · exact absurd h e
        · simp only [List.map_cons, List.lookup, beq_eq_false_iff_ne.mpr e]
          exact ih h
  unfold jn graphOf
  rw [gen _ _ (List.mem_range.mpr hi)]
  rfl
theorem graph_U {A : Mat} : ∀ nm, ∀ k ∈ jn (graphOf A) nm, k ∈ List.range A.length := fun nm k hk => by
  by_cases h : nm < A.length
  · rw [jn_graph h] at hk
    exact (List.mem_filter.mp hk).1
  · have : (graphOf A).lookup nm = none := by
      have gen : ∀ (l : List Nat) (f : Nat → List Nat), nm ∉ l → (l.map fun i => (i, f i)).lookup nm = none := by
        intro l f
        induction l with
        | nil => intro _; rfl
        | cons x r ih =>
          intro h
          rw [List.mem_cons, not_or] at h
          simp only [List.map_cons, List.lookup, beq_eq_false_iff_ne.mpr h.1]
          exact ih h.2
      exact gen _ _ (fun z => h (List.mem_range.mp z))
    unfold jn at hk
    rw [this] at hk
    simp at hk
theorem reg_hall {A : Mat} {n : Nat} (s : Sq A n) (hr : Reg A n) : Hall (graphOf A) (List.range n) := fun T S hT hs hk => by
  refine Classical.byContradiction fun hlt => ?_
  have hcols : n - S.length ≤ ((List.range n).filter fun j => !S.contains j).length := by
    have h1 := sub_len (List.range n) (S ++ (List.range n).filter fun j => !S.contains j) List.nodup_range fun x hx => by
      by_cases hxs : x ∈ S
      · exact List.mem_append_left _ hxs
      · exact List.mem_append_right _ (List.mem_filter.mpr ⟨hx, by simpa using hxs⟩)
    rw [List.length_append, List.length_range] at h1
    omega
  have hTn : T.length ≤ n := by
    have := sub_len T (List.range n) hT hs
    rwa [List.length_range] at this
  have hrows : ((List.range n).filter fun i => !T.contains i).length + T.length ≤ n := by
    have h1 := sub_len (((List.range n).filter fun i => !T.contains i) ++ T) (List.range n) (List.nodup_append.mpr ⟨List.nodup_range.filter _, hT, fun a ha b hb e => by
      subst e
      have := (List.mem_filter.mp ha).2
      simp at this
      exact this hb⟩) fun x hx => by
      rcases List.mem_append.mp hx with hx | hx
      · exact (List.mem_filter.mp hx).1
      · exact hs x hx
    rw [List.length_append, List.length_range] at h1
    exact h1
  obtain ⟨x, ⟨j, hj, hx⟩, h0⟩ := dim ((List.range n).filter fun i => !T.contains i) (ent A) ((List.range n).filter fun j => !S.contains j) (List.nodup_range.filter _) (by omega)
  let y : Nat → Rat := fun j => if S.contains j then 0 else x j
  have hy : ∀ i, i < A.length → dot n (row A i) y = 0 := fun i hi => by
    unfold dot
    rw [sm_filter (List.range n) (fun j => !S.contains j)]
    · by_cases hT' : i ∈ T
      · refine sm_zero fun j hj => ?_
        have hjS := (List.mem_filter.mp hj).2
        have hjn := (List.mem_filter.mp hj).1
        have : at0 (row A i) j = 0 := Classical.byContradiction fun hne => by
          have := hk i hT' j (by rw [jn_graph hi, s.len]; exact List.mem_filter.mpr ⟨hjn, decide_eq_true hne⟩)
          simp at hjS
          exact hjS this
        rw [this]; grind
      · have := h0 i (List.mem_filter.mpr ⟨List.mem_range.mpr (by rw [← s.len]; exact hi), by simpa using hT'⟩)
        rw [← this]
        refine sm_congr fun j hj => ?_
        have hjS := (List.mem_filter.mp hj).2
        simp at hjS
        show at0 (row A i) j * (if S.contains j then 0 else x j) = ent A i j * x j
        rw [if_neg (by simpa using hjS)]
        rfl
    · intro j _ hj
      simp at hj
      show at0 (row A i) j * (if S.contains j then 0 else x j) = 0
      rw [if_pos (by simpa using hj)]; grind
  have hjn := List.mem_range.mp (List.mem_filter.mp hj).1
  have hjS := (List.mem_filter.mp hj).2
  have := hr y hy j hjn
  simp at hjS
  refine hx ?_
  have e : y j = x j := by
    show (if S.contains j then 0 else x j) = x j
    rw [if_neg (by simpa using hjS)]
  rw [← e]; exact this
end K97
end
section
set_option linter.all false
namespace K97
/-! ## what is reached, blocks, their order -/
def visit (s : List Nat × List Nat) (y : Nat) : List Nat × List Nat := if s.1.contains y then s else (s.1 ++ [y], s.2 ++ [y])
def reachL (N : Gr) : Nat → List Nat → List Nat → List Nat
  | 0, found, _ => found
  | f + 1, found, waiting => match waiting.getLast? with
    | none => found
    | some x => reachL N f ((jn N x).foldl visit (found, waiting.dropLast)).1 ((jn N x).foldl visit (found, waiting.dropLast)).2
def reached (N : Gr) (x : Nat) : List Nat := reachL N 9 [] [x]
inductive Rch (N : Gr) : Nat → Nat → Prop where
  | one {x y : Nat} : y ∈ jn N x → Rch N x y
  | step {x y z : Nat} : Rch N x y → z ∈ jn N y → Rch N x z
theorem Rch.trans {N : Gr} {x y z : Nat} (a : Rch N x y) (b : Rch N y z) : Rch N x z := by
  induction b with
  | one h => exact .step a h
  | step _ h ih => exact .step ih h
theorem Rch.left {N : Gr} {x y : Nat} (h : Rch N x y) : ∃ z, z ∈ jn N x := by
  induction h with
  | one h => exact ⟨_, h⟩
  | step _ _ ih => exact ih
structure Vis (N : Gr) (ys : List Nat) (s r : List Nat × List Nat) : Prop where
  sub1 : ∀ x ∈ s.1, x ∈ r.1
  sub2 : ∀ x ∈ s.2, x ∈ r.2
  all : ∀ y ∈ ys, y ∈ r.1
  new1 : ∀ x ∈ r.1, x ∈ s.1 ∨ x ∈ ys
  new2 : ∀ x ∈ r.2, x ∈ s.2 ∨ x ∈ ys
  both : ∀ x ∈ r.1, x ∉ s.1 → x ∈ r.2
  nd : s.1.Nodup → r.1.Nodup
  len : r.1.length + s.2.length = s.1.length + r.2.length
theorem visit_ok (N : Gr) : ∀ (ys : List Nat) (s : List Nat × List Nat), Vis N ys s (ys.foldl visit s)
  | [], s => ⟨fun _ h => h, fun _ h => h, fun _ h => by simp at h, fun _ h => .inl h, fun _ h => .inl h, fun _ h hn => absurd h hn, fun h => h, by simp⟩
  | y :: ys, s => by
    have V := visit_ok N ys (visit s y)
    rw [List.foldl_cons]
    generalize ys.foldl visit (visit s y) = r at V ⊢
    by_cases h : s.1.contains y = true
    · have e : visit s y = s := if_pos h
      rw [e] at V
      have hy : y ∈ s.1 := by simpa using h
      refine ⟨V.sub1, V.sub2, fun x hx => ?_, fun x hx => ?_, fun x hx => ?_, V.both, V.nd, V.len⟩
      · rcases List.mem_cons.mp hx with rfl | hx
        · exact V.sub1 _ hy
        · exact V.all x hx
      · rcases V.new1 x hx with h | h
        · exact .inl h
        · exact .inr (List.mem_cons_of_mem _ h)
      · rcases V.new2 x hx with h | h
        · exact .inl h
        · exact .inr (List.mem_cons_of_mem _ h)
    · have e : visit s y = (s.1 ++ [y], s.2 ++ [y]) := if_neg h
      rw [e] at V
      have hy : y ∉ s.1 := by simpa using h
      have v1 := V.sub1
      have v2 := V.sub2
      dsimp only at v1 v2
      refine ⟨fun x hx => v1 x (List.mem_append_left _ hx), fun x hx => v2 x (List.mem_append_left _ hx), fun x hx => ?_, fun x hx => ?_, fun x hx => ?_, fun x hx hn => ?_, fun hn => ?_, ?_⟩
      · rcases List.mem_cons.mp hx with rfl | hx
        · exact v1 _ (List.mem_append_right _ (List.mem_singleton.mpr rfl))
        · exact V.all x hx
      · rcases V.new1 x hx with h | h
        · rcases List.mem_append.mp h with h | h
          · exact .inl h
          · rw [List.mem_singleton.mp h]; exact .inr List.mem_cons_self
        · exact .inr (List.mem_cons_of_mem _ h)
      · rcases V.new2 x hx with h | h
        · rcases List.mem_append.mp h with h | h
          · exact .inl h
          · rw [List.mem_singleton.mp h]; exact .inr List.mem_cons_self
        · exact .inr (List.mem_cons_of_mem _ h)
      · by_cases hxy : x = y
        · subst hxy
          exact v2 _ (List.mem_append_right _ (List.mem_singleton.mpr rfl))
        · refine V.both x hx fun z => ?_
          rcases List.mem_append.mp z with z | z
          · exact hn z
          · exact hxy (List.mem_singleton.mp z)
      · exact V.nd (nodup_snoc hn hy)
      · have := V.len
        rw [List.length_append, List.length_append] at this
        have e1 : [y].length = 1 := rfl
        rw [e1] at this
        omega
theorem mem_dropLast_last {l : List Nat} {x : Nat} (h : l.getLast? = some x) (y : Nat) : y ∈ l ↔ y ∈ l.dropLast ∨ y = x := by
  have e : l = l.dropLast ++ [x] := by
    have hne : l ≠ [] := fun z => by subst z; cases h
    rw [List.getLast?_eq_some_getLast hne] at h
    have := List.dropLast_concat_getLast hne
    rw [Option.some.inj h] at this
    exact this.symm
  conv => lhs; rw [e]
  rw [List.mem_append, List.mem_singleton]
/-- what stands true of the search from x -/
structure RchI (N : Gr) (U : List Nat) (x0 : Nat) (found waiting : List Nat) : Prop where
  snd : ∀ y ∈ found, Rch N x0 y
  snw : ∀ y ∈ waiting, y = x0 ∨ Rch N x0 y
  cl : ∀ y, (y = x0 ∨ y ∈ found) → y ∈ waiting ∨ ∀ z ∈ jn N y, z ∈ found
  nd : found.Nodup
theorem reachL_ok {N : Gr} {U : List Nat} (hU : ∀ nm, ∀ k ∈ jn N nm, k ∈ U) {x0 : Nat} : ∀ (f : Nat) (found waiting : List Nat), RchI N U x0 found waiting → waiting.length + (U.length - found.length) < f →
    (∀ y, y ∈ reachL N f found waiting ↔ Rch N x0 y) ∧ (reachL N f found waiting).Nodup
  | 0, _, _, _, h => by omega
  | f + 1, found, waiting, I, hf => by
    unfold reachL
    cases e : waiting.getLast? with
    | none =>
      have hw : waiting = [] := List.getLast?_eq_none_iff.mp e
      subst hw
      dsimp only
      refine ⟨fun y => ⟨I.snd y, fun h => ?_⟩, I.nd⟩
      have cl : ∀ y, (y = x0 ∨ y ∈ found) → ∀ z ∈ jn N y, z ∈ found := fun y hy => by
        rcases I.cl y hy with h | h
        · simp at h
        · exact h
      clear hf
      induction h with
      | one h => exact cl _ (.inl rfl) _ h
      | step _ h ih => exact cl _ (.inr ih) _ h
    | some x =>
      dsimp only
      have V := visit_ok N (jn N x) (found, waiting.dropLast)
      generalize (jn N x).foldl visit (found, waiting.dropLast) = r at V ⊢
      have hx : x = x0 ∨ Rch N x0 x := I.snw x ((mem_dropLast_last e x).mpr (.inr rfl))
      have hrx : ∀ y ∈ jn N x, Rch N x0 y := fun y hy => by
        rcases hx with rfl | h
        · exact .one hy
        · exact .step h hy
      have hnd : r.1.Nodup := V.nd I.nd
      have s1 := V.sub1
      have s2 := V.sub2
      have b2 := V.both
      have n1 := V.new1
      have n2 := V.new2
      dsimp only at s1 s2 b2 n1 n2
      have hsub : ∀ y ∈ r.1, Rch N x0 y := fun y hy => (n1 y hy).elim (I.snd y) (hrx y)
      have hrU : ∀ y ∈ r.1, y ∈ U := fun y hy => by
        have := hsub y hy
        cases this with
        | one h => exact hU _ _ h
        | step _ h => exact hU _ _ h
      have hl1 := sub_len r.1 U hnd hrU
      have hwl : waiting.dropLast.length + 1 = waiting.length := by
        rw [List.length_dropLast]
        have : waiting.length ≠ 0 := fun z => by
          rw [List.eq_nil_of_length_eq_zero z] at e; cases e
        omega
      refine reachL_ok hU f r.1 r.2 ⟨hsub, fun y hy => ?_, fun y hy => ?_, hnd⟩ ?_
      · rcases n2 y hy with h | h
        · exact I.snw y ((mem_dropLast_last e y).mpr (.inl h))
        · exact .inr (hrx y h)
      · by_cases hyf : y = x0 ∨ y ∈ found
        · rcases I.cl y hyf with h | h
          · rcases (mem_dropLast_last e y).mp h with h | h
            · exact .inl (s2 y h)
            · subst h
              exact .inr V.all
          · exact .inr fun z hz => s1 z (h z hz)
        · rcases hy with hy | hy
          · exact absurd (.inl hy) hyf
          · exact .inl (b2 y hy fun z => hyf (.inr z))
      · have := V.len
        dsimp only at this
        have hfl : found.length ≤ r.1.length := sub_len found r.1 I.nd s1
        omega
theorem reached_iff {N : Gr} {U : List Nat} (hU : ∀ nm, ∀ k ∈ jn N nm, k ∈ U) (hl : U.length < 8) (x y : Nat) : y ∈ reached N x ↔ Rch N x y :=
  (reachL_ok hU 9 [] [x] ⟨fun y hy => by simp at hy, fun y hy => .inl (List.mem_singleton.mp hy), fun y hy => by
    rcases hy with rfl | hy
    · exact .inl (List.mem_singleton.mpr rfl)
    · simp at hy, List.nodup_nil⟩ (by simp; omega)).1 y
/-! ### blocks -/
def blockOf (N : Gr) (names : List Nat) (x : Nat) : List Nat := names.filter fun y => decide (y = x) || ((reached N x).contains y && (reached N y).contains x)
def togStep (N : Gr) (names : List Nat) (s : List (List Nat) × List Nat) (x : Nat) : List (List Nat) × List Nat := if s.2.contains x then s else (s.1 ++ [blockOf N names x], s.2 ++ blockOf N names x)
def together (N : Gr) (names : List Nat) : List (List Nat) := (names.foldl (togStep N names) ([], [])).1
/-- the same block -/
def Same (N : Gr) (x y : Nat) : Prop := x = y ∨ (Rch N x y ∧ Rch N y x)
theorem Same.symm {N : Gr} {x y : Nat} (h : Same N x y) : Same N y x := by
  rcases h with h | ⟨a, b⟩
  · exact .inl h.symm
  · exact .inr ⟨b, a⟩
theorem Same.trans {N : Gr} {x y z : Nat} (h : Same N x y) (g : Same N y z) : Same N x z := by
  rcases h with rfl | ⟨a, b⟩
  · exact g
  · rcases g with rfl | ⟨c, d⟩
    · exact .inr ⟨a, b⟩
    · exact .inr ⟨a.trans c, d.trans b⟩
structure Sml (N : Gr) (U : List Nat) : Prop where
  sub : ∀ nm, ∀ k ∈ jn N nm, k ∈ U
  len : U.length < 8
theorem mem_block {N : Gr} {U names : List Nat} (S : Sml N U) {x y : Nat} : y ∈ blockOf N names x ↔ y ∈ names ∧ Same N x y := by
  unfold blockOf Same
  rw [List.mem_filter, Bool.or_eq_true, Bool.and_eq_true, decide_eq_true_iff, List.contains_iff_mem, List.contains_iff_mem, reached_iff S.sub S.len, reached_iff S.sub S.len]
  constructor
  · rintro ⟨a, h | h⟩
    · exact ⟨a, .inl h.symm⟩
    · exact ⟨a, .inr h⟩
  · rintro ⟨a, h | h⟩
    · exact ⟨a, .inl h.symm⟩
    · exact ⟨a, .inr h⟩
structure TogI (N : Gr) (names done : List Nat) (s : List (List Nat) × List Nat) : Prop where
  cls : ∀ g ∈ s.1, ∃ x, x ∈ names ∧ g = blockOf N names x
  flat : s.2 = s.1.flatten
  nd : s.2.Nodup
  cov : ∀ x ∈ done, x ∈ s.2
theorem tog_fold {N : Gr} {U names : List Nat} (S : Sml N U) (hn : names.Nodup) : ∀ (xs done : List Nat) (s : List (List Nat) × List Nat), (∀ x ∈ xs, x ∈ names) → TogI N names done s → TogI N names (done ++ xs) (xs.foldl (togStep N names) s)
  | [], done, s, _, I => by simpa using I
  | x :: xs, done, s, hx, I => by
    rw [List.foldl_cons]
    have hx0 := hx x List.mem_cons_self
    have key : TogI N names (done ++ [x]) (togStep N names s x) := by
      unfold togStep
      by_cases h : s.2.contains x = true
      · rw [if_pos h]
        refine ⟨I.cls, I.flat, I.nd, fun y hy => ?_⟩
        rcases List.mem_append.mp hy with hy | hy
        · exact I.cov y hy
        · rw [List.mem_singleton.mp hy]; simpa using h
      · rw [if_neg h]
        have hxs : x ∉ s.2 := by simpa using h
        refine ⟨fun g hg => ?_, by rw [List.flatten_append, ← I.flat]; simp, ?_, fun y hy => ?_⟩
        · rcases List.mem_append.mp hg with hg | hg
          · exact I.cls g hg
          · exact ⟨x, hx0, List.mem_singleton.mp hg⟩
        · refine List.nodup_append.mpr ⟨I.nd, hn.filter _, fun a ha b hb e => ?_⟩
          subst e
          have h1 := (mem_block S).mp hb
          rw [I.flat] at ha
          obtain ⟨g, hg, hag⟩ := List.mem_flatten.mp ha
          obtain ⟨z, hz, rfl⟩ := I.cls g hg
          have h2 := (mem_block S).mp hag
          have h3 : x ∈ blockOf N names z := (mem_block S).mpr ⟨hx0, h2.2.trans h1.2.symm⟩
          exact hxs (by rw [I.flat]; exact List.mem_flatten.mpr ⟨_, hg, h3⟩)
        · rcases List.mem_append.mp hy with hy | hy
          · exact List.mem_append_left _ (I.cov y hy)
          · rw [List.mem_singleton.mp hy]
            exact List.mem_append_right _ ((mem_block S).mpr ⟨hx0, .inl rfl⟩)
    have := tog_fold S hn xs (done ++ [x]) _ (fun y hy => hx y (List.mem_cons_of_mem _ hy)) key
    rwa [List.append_assoc] at this
structure Blk (N : Gr) (names : List Nat) (gs : List (List Nat)) : Prop where
  cls : ∀ g ∈ gs, ∃ x, x ∈ names ∧ g = blockOf N names x
  nd : gs.flatten.Nodup
  cov : ∀ x ∈ names, x ∈ gs.flatten
theorem together_ok {N : Gr} {U names : List Nat} (S : Sml N U) (hn : names.Nodup) : Blk N names (together N names) := by
  have I := tog_fold S hn names [] ([], []) (fun _ h => h) ⟨fun g hg => by simp at hg, rfl, List.nodup_nil, fun x hx => by simp at hx⟩
  unfold together
  exact ⟨I.cls, by rw [← I.flat]; exact I.nd, fun x hx => by rw [← I.flat]; exact I.cov x (by simpa using hx)⟩
/-! ### the order -/
/-- the group of a name -/
def numOf (gs : List (List Nat)) (x : Nat) : Nat := gs.findIdx fun g => g.contains x
def wantedOf (N : Gr) (gs : List (List Nat)) (g : List Nat) : List Nat := (g.flatMap fun x => jn N x).map (numOf gs)
def canGo (N : Gr) (gs : List (List Nat)) (done : List Nat) (i : Nat) : Bool := !done.contains i && (wantedOf N gs (gs.getD i [])).all fun j => done.contains j || decide (j = i)
def ordL (N : Gr) (gs : List (List Nat)) : Nat → List Nat → List Nat
  | 0, done => done
  | f + 1, done => match (List.range gs.length).find? (canGo N gs done) with
    | none => done
    | some i => ordL N gs f (done ++ [i])
def orderOf (N : Gr) (gs : List (List Nat)) : List Nat := ordL N gs gs.length []
theorem num_ok {gs : List (List Nat)} {x : Nat} (h : x ∈ gs.flatten) : numOf gs x < gs.length ∧ x ∈ gs.getD (numOf gs x) [] := by
  obtain ⟨g, hg, hx⟩ := List.mem_flatten.mp h
  have h1 : numOf gs x < gs.length := List.findIdx_lt_length_of_exists ⟨g, hg, by simpa using hx⟩
  refine ⟨h1, ?_⟩
  rw [List.getD_eq_getElem?_getD, List.getElem?_eq_getElem h1]
  have h2 := List.findIdx_getElem (w := h1)
  have h3 : (gs[numOf gs x]).contains x = true := h2
  have h4 : x ∈ gs[numOf gs x] := by simpa using h3
  exact h4
theorem nodup_flatten_ix {gs : List (List Nat)} (h : gs.flatten.Nodup) {i j x : Nat} (hi : x ∈ gs.getD i []) (hj : x ∈ gs.getD j []) : i = j := by
  induction gs generalizing i j with
  | nil => simp at hi
  | cons g r ih =>
    rw [List.flatten_cons] at h
    have hh := List.nodup_append.mp h
    cases i with
    | zero =>
      cases j with
      | zero => rfl
      | succ j =>
        have h1 : x ∈ g := by simpa using hi
        have h2 : x ∈ r.getD j [] := by simpa using hj
        have h3 : x ∈ r.flatten := by
          rw [List.getD_eq_getElem?_getD] at h2
          cases e : r[j]? with
          | none => rw [e] at h2; simp at h2
          | some g' =>
            rw [e] at h2
            exact List.mem_flatten.mpr ⟨g', List.mem_of_getElem? e, h2⟩
        exact absurd rfl (hh.2.2 x h1 x h3)
    | succ i =>
      cases j with
      | zero =>
        have h1 : x ∈ g := by simpa using hj
        have h2 : x ∈ r.getD i [] := by simpa using hi
        have h3 : x ∈ r.flatten := by
          rw [List.getD_eq_getElem?_getD] at h2
          cases e : r[i]? with
          | none => rw [e] at h2; simp at h2
          | some g' =>
            rw [e] at h2
            exact List.mem_flatten.mpr ⟨g', List.mem_of_getElem? e, h2⟩
        exact absurd rfl (hh.2.2 x h1 x h3)
      | succ j =>
        have := ih hh.2.1 (i := i) (j := j) (by simpa using hi) (by simpa using hj)
        omega
theorem min_exists (l : List Nat) (h : l ≠ []) (m : Nat → Nat) : ∃ i ∈ l, ∀ j ∈ l, m i ≤ m j := by
  induction l with
  | nil => exact absurd rfl h
  | cons a r ih =>
    by_cases hr : r = []
    · subst hr
      exact ⟨a, List.mem_cons_self, fun j hj => by simp at hj; rw [hj]; exact Nat.le_refl _⟩
    · obtain ⟨i, hi, hm⟩ := ih hr
      by_cases hai : m a ≤ m i
      · refine ⟨a, List.mem_cons_self, fun j hj => ?_⟩
        rcases List.mem_cons.mp hj with rfl | hj
        · exact Nat.le_refl _
        · exact Nat.le_trans hai (hm j hj)
      · refine ⟨i, List.mem_cons_of_mem _ hi, fun j hj => ?_⟩
        rcases List.mem_cons.mp hj with rfl | hj
        · omega
        · exact hm j hj
theorem blk_same {N : Gr} {U names : List Nat} (S : Sml N U) {gs : List (List Nat)} (B : Blk N names gs) {i x y : Nat} (hx : x ∈ gs.getD i []) (hy : y ∈ gs.getD i []) : Same N x y := by
  have hi : i < gs.length := by
    refine Nat.lt_of_not_le fun h => ?_
    rw [List.getD_eq_getElem?_getD, List.getElem?_eq_none h] at hx
    simp at hx
  rw [List.getD_eq_getElem?_getD, List.getElem?_eq_getElem hi] at hx hy
  obtain ⟨z, _, e⟩ := B.cls _ (List.getElem_mem hi)
  have hx' : x ∈ gs[i] := hx
  have hy' : y ∈ gs[i] := hy
  rw [e] at hx' hy'
  exact ((mem_block S).mp hx').2.symm.trans ((mem_block S).mp hy').2
theorem blk_num {N : Gr} {U names : List Nat} (S : Sml N U) {gs : List (List Nat)} (B : Blk N names gs) {x y : Nat} (hx : x ∈ names) (hy : y ∈ names) (h : Same N x y) : numOf gs x = numOf gs y := by
  obtain ⟨h1, h2⟩ := num_ok (B.cov x hx)
  obtain ⟨h3, h4⟩ := num_ok (B.cov y hy)
  have : y ∈ gs.getD (numOf gs x) [] := by
    rw [List.getD_eq_getElem?_getD, List.getElem?_eq_getElem h1] at h2 ⊢
    obtain ⟨z, _, e⟩ := B.cls _ (List.getElem_mem h1)
    have h2' : x ∈ gs[numOf gs x] := h2
    rw [e] at h2'
    show y ∈ gs[numOf gs x]
    rw [e]
    exact (mem_block S).mpr ⟨hy, ((mem_block S).mp h2').2.trans h⟩
  exact nodup_flatten_ix B.nd this h4
/-- among the blocks that are left one can go -/
theorem some_can {N : Gr} {U names : List Nat} (S : Sml N U) (hN : ∀ x, ∀ y ∈ jn N x, y ∈ names) {gs : List (List Nat)} (B : Blk N names gs) {done : List Nat} (hd : ∃ i, i < gs.length ∧ i ∉ done) : ∃ i, i < gs.length ∧ canGo N gs done i = true := by
  let left := (List.range gs.length).filter fun i => !done.contains i
  -- a block's size of what is reached from one of its names
  let star : Nat → List Nat := fun x => names.filter fun y => decide (y = x) || (reached N x).contains y
  let rep : Nat → Nat := fun i => (gs.getD i []).headD 0
  have hrep : ∀ i, i < gs.length → rep i ∈ gs.getD i [] ∧ rep i ∈ names := fun i hi => by
    obtain ⟨z, hz, e⟩ := B.cls _ (List.getElem_mem hi)
    have hzm : z ∈ gs[i] := by rw [e]; exact (mem_block S).mpr ⟨hz, .inl rfl⟩
    have e2 : gs.getD i [] = gs[i] := by rw [List.getD_eq_getElem?_getD, List.getElem?_eq_getElem hi]; rfl
    have h1 : rep i ∈ gs[i] := by
      show (gs.getD i []).headD 0 ∈ gs[i]
      rw [e2]
      cases h : gs[i] with
      | nil => rw [h] at hzm; simp at hzm
      | cons a r => simp
    refine ⟨by rw [e2]; exact h1, ?_⟩
    rw [e] at h1
    exact ((mem_block S).mp h1).1
  have hmem : ∀ x y, y ∈ star x ↔ y ∈ names ∧ (y = x ∨ Rch N x y) := fun x y => by
    show y ∈ names.filter _ ↔ _
    rw [List.mem_filter, Bool.or_eq_true, decide_eq_true_iff, List.contains_iff_mem, reached_iff S.sub S.len]
  obtain ⟨i0, hi0, hi0d⟩ := hd
  have hne : left ≠ [] := fun z => by
    have : i0 ∈ left := List.mem_filter.mpr ⟨List.mem_range.mpr hi0, by simpa using hi0d⟩
    rw [z] at this
    simp at this
  obtain ⟨i, hi, hmin⟩ := min_exists left hne fun i => (star (rep i)).length
  obtain ⟨hi1, hi2⟩ := List.mem_filter.mp hi
  have hil := List.mem_range.mp hi1
  refine ⟨i, hil, ?_⟩
  unfold canGo
  rw [hi2, Bool.true_and, List.all_eq_true]
  intro j hj
  obtain ⟨y, hy, rfl⟩ := List.mem_map.mp hj
  obtain ⟨x, hx, hxy⟩ := List.mem_flatMap.mp hy
  have hyn : y ∈ names := hN x y hxy
  rw [Bool.or_eq_true, decide_eq_true_iff, List.contains_iff_mem]
  refine Classical.byContradiction fun hcon => ?_
  rw [not_or] at hcon
  obtain ⟨hjd, hji⟩ := hcon
  obtain ⟨hn1, hn2⟩ := num_ok (B.cov y hyn)
  have hjl : numOf gs y ∈ left := List.mem_filter.mpr ⟨List.mem_range.mpr hn1, by simpa using hjd⟩
  have hle : (star (rep i)).length ≤ (star (rep (numOf gs y))).length := hmin _ hjl
  -- from rep i one reaches y
  obtain ⟨r1, r2⟩ := hrep i hil
  obtain ⟨q1, q2⟩ := hrep _ hn1
  have s1 : Same N (rep i) x := blk_same S B r1 hx
  have s2 : Same N y (rep (numOf gs y)) := blk_same S B hn2 q1
  have ry : Rch N (rep i) y := by
    rcases s1 with e | ⟨a, _⟩
    · rw [e]; exact .one hxy
    · exact a.trans (.one hxy)
  have rq : Rch N (rep i) (rep (numOf gs y)) := by
    rcases s2 with e | ⟨a, _⟩
    · rw [← e]; exact ry
    · exact ry.trans a
  -- all that the other one reaches
  have hsub : ∀ z ∈ star (rep (numOf gs y)), z ∈ star (rep i) := fun z hz => by
    obtain ⟨z1, z2⟩ := (hmem _ _).mp hz
    refine (hmem _ _).mpr ⟨z1, .inr ?_⟩
    rcases z2 with rfl | z2
    · exact rq
    · exact rq.trans z2
  have nodupn : ∀ x, (star x).Nodup → True := fun _ _ => trivial
  by_cases hri : rep i ∈ star (rep (numOf gs y))
  · obtain ⟨_, z2⟩ := (hmem _ _).mp hri
    have hsame : Same N (rep i) (rep (numOf gs y)) := by
      rcases z2 with e | z2
      · exact .inl e
      · exact .inr ⟨rq, z2⟩
    have e1 := blk_num S B r2 q2 hsame
    have e2 : numOf gs (rep i) = i := nodup_flatten_ix B.nd (num_ok (B.cov _ r2)).2 r1
    have e3 : numOf gs (rep (numOf gs y)) = numOf gs y := nodup_flatten_ix B.nd (num_ok (B.cov _ q2)).2 q1
    rw [e2, e3] at e1
    exact hji e1.symm
  · -- strictly fewer
    have hlt : (star (rep (numOf gs y))).length < (star (rep i)).length := by
      have e : star (rep (numOf gs y)) = (star (rep i)).filter fun z => decide (z ∈ star (rep (numOf gs y))) := by
        show names.filter _ = (names.filter _).filter _
        rw [List.filter_filter]
        refine List.filter_congr fun z hz => ?_
        by_cases h1 : z ∈ star (rep (numOf gs y))
        · have h2 := (List.mem_filter.mp h1).2
          have h3 := (List.mem_filter.mp (hsub z h1)).2
          rw [h2, h3, decide_eq_true h1]
          rfl
        · rw [decide_eq_false h1, Bool.false_and]
          refine Bool.eq_false_iff.mpr fun h2 => h1 (List.mem_filter.mpr ⟨hz, h2⟩)
      refine Nat.lt_of_le_of_ne (by rw [e]; exact List.length_filter_le _ _) fun heq => ?_
      rw [e] at heq
      have := List.length_filter_eq_length_iff.mp heq (rep i) ((hmem _ _).mpr ⟨r2, .inl rfl⟩)
      exact hri (of_decide_eq_true this)
    omega
structure Ord (N : Gr) (gs : List (List Nat)) (done : List Nat) : Prop where
  nd : done.Nodup
  lt : ∀ i ∈ done, i < gs.length
  dep : ∀ k (hk : k < done.length), ∀ j ∈ wantedOf N gs (gs.getD done[k] []), j ∈ done.take (k + 1)
theorem ord_ok {N : Gr} {U names : List Nat} (S : Sml N U) (hN : ∀ x, ∀ y ∈ jn N x, y ∈ names) {gs : List (List Nat)} (B : Blk N names gs) : ∀ (f : Nat) (done : List Nat), Ord N gs done → done.length + f = gs.length →
    Ord N gs (ordL N gs f done) ∧ (ordL N gs f done).length = gs.length
  | 0, done, O, h => ⟨O, by unfold ordL; omega⟩
  | f + 1, done, O, h => by
    unfold ordL
    have hex : ∃ i, i < gs.length ∧ i ∉ done := by
      refine Classical.byContradiction fun hc => ?_
      have := sub_len (List.range gs.length) done List.nodup_range fun x hx => Classical.byContradiction fun hn => hc ⟨x, List.mem_range.mp hx, hn⟩
      rw [List.length_range] at this
      omega
    obtain ⟨i, hi, hc⟩ := some_can S hN B hex
    cases e : (List.range gs.length).find? (canGo N gs done) with
    | none =>
      rw [List.find?_eq_none] at e
      exact absurd hc (e i (List.mem_range.mpr hi))
    | some j =>
      dsimp only
      have hj1 := List.mem_range.mp (List.mem_of_find?_eq_some e)
      have hj2 := List.find?_some e
      unfold canGo at hj2
      rw [Bool.and_eq_true, List.all_eq_true] at hj2
      obtain ⟨hjd, hjw⟩ := hj2
      have hjd' : j ∉ done := by simpa using hjd
      refine ord_ok S hN B f (done ++ [j]) ⟨nodup_snoc O.nd hjd', fun i hi => ?_, fun k hk w hw => ?_⟩ (by rw [List.length_append]; simp; omega)
      · rcases List.mem_append.mp hi with hi | hi
        · exact O.lt i hi
        · rw [List.mem_singleton.mp hi]; exact hj1
      · by_cases hkd : k < done.length
        · rw [List.getElem_append_left hkd] at hw
          rw [List.take_append_of_le_length (by omega)]
          exact O.dep k hkd w hw
        · have ek : k = done.length := by rw [List.length_append] at hk; simp at hk; omega
          subst ek
          rw [List.getElem_append_right (Nat.le_refl _)] at hw
          simp at hw
          have := hjw w (by simpa using hw)
          rw [Bool.or_eq_true, decide_eq_true_iff, List.contains_iff_mem] at this
          rw [List.take_of_length_le (by rw [List.length_append]; simp)]
          rcases this with h | h
          · exact List.mem_append_left _ h
          · rw [h]; exact List.mem_append_right _ (List.mem_singleton.mpr rfl)
theorem order_ok {N : Gr} {U names : List Nat} (S : Sml N U) (hN : ∀ x, ∀ y ∈ jn N x, y ∈ names) {gs : List (List Nat)} (B : Blk N names gs) : Ord N gs (orderOf N gs) ∧ (orderOf N gs).length = gs.length :=
  ord_ok S hN B gs.length [] ⟨List.nodup_nil, fun i hi => by simp at hi, fun k hk => by simp at hk⟩ (by simp)
end K97
end
section
set_option linter.all false
namespace K97
/-! ## solving block after block -/
abbrev BL := List (List Nat × List Nat)
def rowsOf (bl : BL) : List Nat := (bl.map (·.1)).flatten
def colsOf (bl : BL) : List Nat := (bl.map (·.2)).flatten
structure BlocksOk (A : Mat) (n : Nat) (bl : BL) : Prop where
  rnd : (rowsOf bl).Nodup
  rlt : ∀ i ∈ rowsOf bl, i < n
  rcov : ∀ i, i < n → i ∈ rowsOf bl
  cnd : (colsOf bl).Nodup
  clt : ∀ j ∈ colsOf bl, j < n
  ccov : ∀ j, j < n → j ∈ colsOf bl
  same : ∀ q ∈ bl, q.2.length = q.1.length
  tri : ∀ pre q post, bl = pre ++ q :: post → ∀ r ∈ q.1, ∀ j, j < n → ent A r j ≠ 0 → j ∈ q.2 ∨ j ∈ colsOf pre
theorem rowsOf_append (a b : BL) : rowsOf (a ++ b) = rowsOf a ++ rowsOf b := by unfold rowsOf; rw [List.map_append, List.flatten_append]
theorem colsOf_append (a b : BL) : colsOf (a ++ b) = colsOf a ++ colsOf b := by unfold colsOf; rw [List.map_append, List.flatten_append]
theorem rowsOf_cons (q : List Nat × List Nat) (b : BL) : rowsOf (q :: b) = q.1 ++ rowsOf b := rfl
theorem colsOf_cons (q : List Nat × List Nat) (b : BL) : colsOf (q :: b) = q.2 ++ colsOf b := rfl
theorem len_rc {bl : BL} (h : ∀ q ∈ bl, q.2.length = q.1.length) : (colsOf bl).length = (rowsOf bl).length := by
  induction bl with
  | nil => rfl
  | cons q r ih =>
    rw [colsOf_cons, rowsOf_cons, List.length_append, List.length_append, h q List.mem_cons_self, ih fun p hp => h p (List.mem_cons_of_mem _ hp)]
def inner (A : Mat) (g cs : List Nat) : Mat := g.map fun r => cs.map fun c => ent A r c
theorem inner_sq {A : Mat} {g cs : List Nat} (h : cs.length = g.length) : Sq (inner A g cs) cs.length := by
  refine ⟨by unfold inner; rw [List.length_map, h], fun r hr => ?_⟩
  obtain ⟨i, _, rfl⟩ := List.mem_map.mp hr
  exact List.length_map _
theorem inner_row {A : Mat} {g cs : List Nat} {i : Nat} (hi : i < g.length) : row (inner A g cs) i = cs.map fun c => ent A g[i] c := by
  unfold inner row
  rw [List.getD_eq_getElem?_getD, List.getElem?_map, List.getElem?_eq_getElem hi]
  rfl
theorem sm_idx (cs : List Nat) (f : Nat → Nat → Rat) (hn : cs.Nodup) : sm (List.range cs.length) (fun k => f k (cs.getD k 0)) = sm cs fun c => f (cs.idxOf c) c := by
  have gen : ∀ (l pre : List Nat), (pre ++ l).Nodup → sm (List.range' pre.length l.length) (fun k => f k ((pre ++ l).getD k 0)) = sm l fun c => f ((pre ++ l).idxOf c) c := by
    intro l
    induction l with
    | nil => intro pre _; rfl
    | cons x r ih =>
      intro pre h
      rw [List.length_cons, List.range'_succ, sm_cons, sm_cons]
      have h1 : (pre ++ x :: r).getD pre.length 0 = x := by
        rw [List.getD_eq_getElem?_getD, List.getElem?_append_right (Nat.le_refl _), Nat.sub_self]; rfl
      have h2 : (pre ++ x :: r).idxOf x = pre.length := by
        have hx : x ∉ pre := fun z => (List.nodup_append.mp h).2.2 x z x List.mem_cons_self rfl
        rw [List.idxOf_append, if_neg hx, List.idxOf_cons_self]; omega
      have e : pre ++ x :: r = (pre ++ [x]) ++ r := by rw [List.append_assoc]; rfl
      have := ih (pre ++ [x]) (by rw [← e]; exact h)
      rw [← e, List.length_append] at this
      rw [h1, h2]
      congr 1
  have := gen cs [] (by simpa using hn)
  rw [List.nil_append] at this
  rw [List.range_eq_range']
  exact this
theorem dot_inner {A : Mat} {g cs : List Nat} {i : Nat} (hi : i < g.length) (hn : cs.Nodup) (y : Nat → Rat) : dot cs.length (row (inner A g cs) i) y = sm cs fun c => ent A g[i] c * y (cs.idxOf c) := by
  have := sm_idx cs (fun k c => ent A g[i] c * y k) hn
  rw [← this]
  unfold dot
  refine sm_congr fun k hk => ?_
  have hk' := List.mem_range.mp hk
  rw [inner_row hi, at0_lt (by rw [List.length_map]; exact hk'), List.getElem_map, List.getD_eq_getElem?_getD, List.getElem?_eq_getElem hk']
  rfl
/-- the constants of a block: the known columns are taken away -/
def rightOf (A : Mat) (b : Row) (known : Nat → Option Rat) (r k : Nat) : Rat := (List.range k).foldl (fun c j => match known j with
  | none => c
  | some v => c - ent A r j * v) (at0 b r)
theorem rightOf_eq (A : Mat) (b : Row) (known : Nat → Option Rat) (r : Nat) : ∀ k, rightOf A b known r k = at0 b r - sm (List.range k) fun j => match known j with
    | none => 0
    | some v => ent A r j * v
  | 0 => by show at0 b r = at0 b r - 0; grind
  | k + 1 => by
    unfold rightOf
    rw [List.range_succ, List.foldl_append, sm_append, sm_cons, sm_nil]
    have ih := rightOf_eq A b known r k
    unfold rightOf at ih
    rw [ih]
    show (match known k with
      | none => _
      | some v => _) = _
    cases known k with
    | none => dsimp only; grind
    | some v => dsimp only; grind
theorem perm_of {n : Nat} {bl : BL} {A : Mat} (O : BlocksOk A n bl) : (List.range n).Perm (colsOf bl) :=
  (List.perm_ext_iff_of_nodup List.nodup_range O.cnd).mpr fun j => ⟨fun h => O.ccov j (List.mem_range.mp h), fun h => List.mem_range.mpr (O.clt j h)⟩
theorem block_reg {A : Mat} {n : Nat} {bl pre post : BL} {g cs : List Nat} (s : Sq A n) (hr : Reg A n) (O : BlocksOk A n bl) (e : bl = pre ++ (g, cs) :: post) : Reg (inner A g cs) cs.length := fun y hy k hk => by
  refine Classical.byContradiction fun hne => ?_
  have ec : colsOf bl = colsOf pre ++ (cs ++ colsOf post) := by rw [e, colsOf_append, colsOf_cons]
  have er : rowsOf bl = rowsOf pre ++ (g ++ rowsOf post) := by rw [e, rowsOf_append, rowsOf_cons]
  have cnd := O.cnd
  rw [ec] at cnd
  obtain ⟨nd1, nd2, dj1⟩ := List.nodup_append.mp cnd
  obtain ⟨nd3, nd4, dj2⟩ := List.nodup_append.mp nd2
  have hlen := O.same (g, cs) (by rw [e]; exact List.mem_append_right _ List.mem_cons_self)
  have hpost : (colsOf post).length = (rowsOf post).length := len_rc fun q hq => O.same q (by rw [e]; exact List.mem_append_right _ (List.mem_cons_of_mem _ hq))
  let yc : Nat → Rat := fun c => y (cs.idxOf c)
  have hn : n ∉ colsOf post := fun z => Nat.lt_irrefl n (O.clt n (by rw [ec]; exact List.mem_append_right _ (List.mem_append_right _ z)))
  obtain ⟨x, ⟨p, hp, hxp⟩, h0⟩ := dim (rowsOf post) (fun r j => if j = n then sm cs (fun c => ent A r c * yc c) else ent A r j) (n :: colsOf post) (List.nodup_cons.mpr ⟨hn, nd4⟩) (by rw [List.length_cons, hpost]; omega)
  let z : Nat → Rat := fun j => if j ∈ cs then x n * yc j else if j ∈ colsOf post then x j else 0
  have zc : ∀ j ∈ cs, z j = x n * yc j := fun j hj => if_pos hj
  have zp : ∀ j ∈ colsOf post, z j = x j := fun j hj => by
    show (if j ∈ cs then _ else _) = _
    rw [if_neg fun h => dj2 j h j hj rfl, if_pos hj]
  have z0 : ∀ j ∈ colsOf pre, z j = 0 := fun j hj => by
    show (if j ∈ cs then _ else _) = _
    rw [if_neg fun h => dj1 j hj j (List.mem_append_left _ h) rfl, if_neg fun h => dj1 j hj j (List.mem_append_right _ h) rfl]
  have split : ∀ r, dot n (row A r) z = sm cs (fun c => ent A r c * z c) + sm (colsOf post) fun j => ent A r j * x j := fun r => by
    unfold dot
    rw [sm_perm (perm_of O), ec, sm_append, sm_append, sm_zero (l := colsOf pre)]
    · rw [sm_congr (l := colsOf post) (g := fun j => ent A r j * x j)]
      · show 0 + _ = _
        have : sm cs (fun j => at0 (row A r) j * z j) = sm cs fun c => ent A r c * z c := rfl
        rw [this]; grind
      · intro j hj
        rw [zp j hj]; rfl
    · intro j hj
      rw [z0 j hj]; grind
  have key : ∀ r, sm cs (fun c => ent A r c * z c) = x n * sm cs fun c => ent A r c * yc c := fun r => by
    rw [← sm_mul]
    exact sm_congr fun c hc => by rw [zc c hc]; grind
  have hz : ∀ i, i < A.length → dot n (row A i) z = 0 := fun i hi => by
    have hin := O.rcov i (by rw [← s.len]; exact hi)
    rw [er] at hin
    rcases List.mem_append.mp hin with hin | hin
    · -- a row of a block before: nothing here
      obtain ⟨q, hq, hiq⟩ : ∃ q ∈ pre, i ∈ q.1 := by
        obtain ⟨l, hl, hil⟩ := List.mem_flatten.mp hin
        obtain ⟨q, hq, rfl⟩ := List.mem_map.mp hl
        exact ⟨q, hq, hil⟩
      obtain ⟨p1, p2, ep⟩ := List.append_of_mem hq
      refine sm_zero fun j hj => ?_
      by_cases h1 : ent A i j = 0
      · have : at0 (row A i) j = 0 := h1
        rw [this]; grind
      · have := O.tri p1 q (p2 ++ (g, cs) :: post) (by rw [e, ep, List.append_assoc]; rfl) i hiq j (List.mem_range.mp hj) h1
        have hjp : j ∈ colsOf pre := by
          rw [ep, colsOf_append, colsOf_cons]
          rcases this with h | h
          · exact List.mem_append_right _ (List.mem_append_left _ h)
          · exact List.mem_append_left _ h
        rw [z0 j hjp]; grind
    · rcases List.mem_append.mp hin with hin | hin
      · obtain ⟨k', hk', ek⟩ := List.getElem_of_mem hin
        have h1 := hy k' (by rw [(inner_sq hlen).len, hlen]; exact hk')
        rw [dot_inner hk' nd3, ek] at h1
        rw [split, key]
        have h2 : sm cs (fun c => ent A i c * yc c) = 0 := h1
        rw [h2, sm_zero (l := colsOf post)]
        · grind
        · intro j hj
          by_cases h3 : ent A i j = 0
          · rw [h3]; grind
          · have hjn : j < n := O.clt j (by rw [ec]; exact List.mem_append_right _ (List.mem_append_right _ hj))
            rcases O.tri pre (g, cs) post e i hin j hjn h3 with h | h
            · exact absurd rfl (dj2 j h j hj)
            · exact absurd rfl (dj1 j h j (List.mem_append_right _ hj))
      · have h1 := h0 i hin
        rw [sm_cons] at h1
        rw [if_pos rfl] at h1
        rw [sm_congr (l := colsOf post) (g := fun j => ent A i j * x j)] at h1
        · rw [split, key]
          grind
        · intro j hj
          have hjn : j < n := O.clt j (by rw [ec]; exact List.mem_append_right _ (List.mem_append_right _ hj))
          rw [if_neg (by omega)]
  have hall := hr z hz
  -- not all of it is 0
  have hkm : cs.getD k 0 ∈ cs := by rw [List.getD_eq_getElem?_getD, List.getElem?_eq_getElem hk]; exact List.getElem_mem hk
  by_cases hxn : x n = 0
  · rcases List.mem_cons.mp hp with rfl | hp
    · exact hxp hxn
    · have := hall p (O.clt p (by rw [ec]; exact List.mem_append_right _ (List.mem_append_right _ hp)))
      rw [zp p hp] at this
      exact hxp this
  · have h1 := hall _ (O.clt (cs.getD k 0) (by rw [ec]; exact List.mem_append_right _ (List.mem_append_left _ hkm)))
    rw [zc _ hkm] at h1
    have h2 : yc (cs.getD k 0) = y k := by
      show y (cs.idxOf (cs.getD k 0)) = y k
      rw [List.getD_eq_getElem?_getD, List.getElem?_eq_getElem hk]
      show y (cs.idxOf cs[k]) = y k
      rw [nd3.idxOf_getElem]
    rw [h2] at h1
    have : y k = 0 := by grind
    exact hne this
/-- a block is solved -/
theorem block_solve {A : Mat} {b xs : Row} {n : Nat} {bl pre post : BL} {g cs : List Nat} (s : Sq A n) (hr : Reg A n) (O : BlocksOk A n bl) (e : bl = pre ++ (g, cs) :: post) (hx : Solves A b n fun j => at0 xs j)
    {known : Nat → Option Rat} (hk : ∀ j, j < n → known j = if j ∈ colsOf pre then some (at0 xs j) else none) :
    solveL (inner A g cs) (g.map fun r => rightOf A b known r n) = .sol (cs.map fun c => at0 xs c) := by
  have ec : colsOf bl = colsOf pre ++ (cs ++ colsOf post) := by rw [e, colsOf_append, colsOf_cons]
  have cnd := O.cnd
  rw [ec] at cnd
  obtain ⟨nd1, nd2, dj1⟩ := List.nodup_append.mp cnd
  obtain ⟨nd3, nd4, dj2⟩ := List.nodup_append.mp nd2
  have hlen := O.same (g, cs) (by rw [e]; exact List.mem_append_right _ List.mem_cons_self)
  have sq := inner_sq (A := A) hlen
  have reg := block_reg s hr O e
  obtain ⟨vs, V⟩ := solveL_reg (b := g.map fun r => rightOf A b known r n) sq (by rw [List.length_map, hlen]) reg
  rw [V.told]
  congr 1
  have hsol : Solves (inner A g cs) (g.map fun r => rightOf A b known r n) cs.length fun k => at0 xs (cs.getD k 0) := fun i hi => by
    have hi' : i < g.length := by rw [sq.len, hlen] at hi; exact hi
    rw [dot_inner hi' nd3]
    have h1 : sm cs (fun c => ent A g[i] c * at0 xs (cs.getD (cs.idxOf c) 0)) = sm cs fun c => ent A g[i] c * at0 xs c := sm_congr fun c hc => by
      have hlt := List.idxOf_lt_length_of_mem hc
      rw [List.getD_eq_getElem?_getD, List.getElem?_eq_getElem hlt]
      show ent A g[i] c * at0 xs (cs[cs.idxOf c]) = _
      rw [List.getElem_idxOf hlt]
    rw [h1, at0_lt (by rw [List.length_map]; exact hi'), List.getElem_map, rightOf_eq]
    have hgi : g[i] ∈ g := List.getElem_mem hi'
    have hgn : g[i] < n := O.rlt _ (by rw [e, rowsOf_append, rowsOf_cons]; exact List.mem_append_right _ (List.mem_append_left _ hgi))
    rw [← hx g[i] (by rw [s.len]; exact hgn)]
    unfold dot
    rw [sm_perm (perm_of O), sm_perm (perm_of O) (fun j => match known j with
      | none => 0
      | some v => ent A g[i] j * v), ec, sm_append, sm_append, sm_append, sm_append]
    have p1 : sm (colsOf pre) (fun j => match known j with
      | none => 0
      | some v => ent A g[i] j * v) = sm (colsOf pre) fun j => at0 (row A g[i]) j * at0 xs j := sm_congr fun j hj => by
      have hjn : j < n := O.clt j (by rw [ec]; exact List.mem_append_left _ hj)
      rw [hk j hjn, if_pos hj]
      rfl
    have p2 : ∀ l, (∀ j ∈ l, j < n ∧ j ∉ colsOf pre) → sm l (fun j => match known j with
      | none => 0
      | some v => ent A g[i] j * v) = 0 := fun l hl => sm_zero fun j hj => by
      rw [hk j (hl j hj).1, if_neg (hl j hj).2]
    have p3 : sm (colsOf post) (fun j => at0 (row A g[i]) j * at0 xs j) = 0 := sm_zero fun j hj => by
      have hjn : j < n := O.clt j (by rw [ec]; exact List.mem_append_right _ (List.mem_append_right _ hj))
      have h0 : ent A g[i] j = 0 := Classical.byContradiction fun h3 => by
        rcases O.tri pre (g, cs) post e _ hgi j hjn h3 with h | h
        · exact absurd rfl (dj2 j h j hj)
        · exact absurd rfl (dj1 j h j (List.mem_append_right _ hj))
      have : at0 (row A g[i]) j = 0 := h0
      rw [this]; grind
    rw [p1, p2 cs (fun j hj => ⟨O.clt j (by rw [ec]; exact List.mem_append_right _ (List.mem_append_left _ hj)), fun h => dj1 j h j (List.mem_append_left _ hj) rfl⟩),
      p2 (colsOf post) (fun j hj => ⟨O.clt j (by rw [ec]; exact List.mem_append_right _ (List.mem_append_right _ hj)), fun h => dj1 j h j (List.mem_append_right _ hj) rfl⟩), p3]
    have : sm cs (fun j => at0 (row A g[i]) j * at0 xs j) = sm cs fun c => ent A g[i] c * at0 xs c := rfl
    rw [this]
    grind
  refine List.ext_getElem (by rw [V.len, List.length_map]) fun k h1 h2 => ?_
  have hk' : k < cs.length := by rw [← V.len]; exact h1
  have := reg.uniq V.sol hsol k hk'
  rw [← at0_lt h1, this, List.getElem_map, List.getD_eq_getElem?_getD, List.getElem?_eq_getElem hk']
  rfl
/-! ### the blocks that the program makes are such -/
def keyOf (ms : List (Nat × Nat)) (i : Nat) : Nat := (ms.lookup i).getD 0
def ownerOf (ms : List (Nat × Nat)) (k : Nat) : Nat := ((ms.map fun p => (p.2, p.1)).lookup k).getD 0
def needsOf (G : Gr) (ms : List (Nat × Nat)) : Gr := G.map fun q => (q.1, (q.2.filter fun k => decide (ownerOf ms k ≠ q.1)).map (ownerOf ms))
theorem lookup_fst {ms : List (Nat × Nat)} {p : Nat × Nat} (hn : (ms.map (·.1)).Nodup) (hp : p ∈ ms) : ms.lookup p.1 = some p.2 := by
  induction ms with
  | nil => simp at hp
  | cons a r ih =>
    obtain ⟨x, y⟩ := a
    rw [List.map_cons, List.nodup_cons] at hn
    rcases List.mem_cons.mp hp with h | h
    · rw [h]; simp [List.lookup]
    · have hne : p.1 ≠ x := fun z => hn.1 (by
        have q := List.mem_map_of_mem (f := fun (q : Nat × Nat) => q.1) h
        rw [← z]; exact q)
      simp only [List.lookup, beq_eq_false_iff_ne.mpr hne]
      exact ih hn.2 h
structure MOk (A : Mat) (n : Nat) (ms : List (Nat × Nat)) : Prop where
  key : ∀ i, i < n → keyOf ms i < n ∧ ownerOf ms (keyOf ms i) = i
  own : ∀ k, k < n → ownerOf ms k < n ∧ keyOf ms (ownerOf ms k) = k
theorem mat1_ok {A : Mat} {n : Nat} {ms : List (Nat × Nat)} (s : Sq A n) (M : Mat1 (graphOf A) (List.range n) ms) : MOk A n ms := by
  have h1 : (ms.map (·.1)).Nodup := by rw [M.names]; exact List.nodup_range
  have h2 : ((ms.map fun p => (p.2, p.1)).map (·.1)).Nodup := by
    rw [List.map_map]
    exact M.nd
  have lt1 : ∀ p ∈ ms, p.1 < n := fun p hp => List.mem_range.mp (by rw [← M.names]; exact List.mem_map_of_mem (f := fun (q : Nat × Nat) => q.1) hp)
  have lt2 : ∀ p ∈ ms, p.2 < n := fun p hp => by
    have := graph_U _ _ (M.ok p hp)
    rw [s.len] at this
    exact List.mem_range.mp this
  have e1 : ∀ p ∈ ms, keyOf ms p.1 = p.2 := fun p hp => by unfold keyOf; rw [lookup_fst h1 hp]; rfl
  have e2 : ∀ p ∈ ms, ownerOf ms p.2 = p.1 := fun p hp => by
    unfold ownerOf
    have := lookup_fst h2 (List.mem_map_of_mem (f := fun (q : Nat × Nat) => (q.2, q.1)) hp)
    dsimp only at this
    rw [this]; rfl
  constructor
  · intro i hi
    obtain ⟨p, hp, e⟩ := List.mem_map.mp (show i ∈ ms.map (·.1) by rw [M.names]; exact List.mem_range.mpr hi)
    subst e
    rw [e1 p hp]
    exact ⟨lt2 p hp, e2 p hp⟩
  · intro k hk
    have hm : k ∈ ms.map (·.2) := by
      refine cover M.nd (fun x hx => ?_) ?_ hk
      · obtain ⟨p, hp, rfl⟩ := List.mem_map.mp hx; exact lt2 p hp
      · have := congrArg List.length M.names
        rw [List.length_map, List.length_range] at this
        rw [List.length_map]; omega
    obtain ⟨p, hp, e⟩ := List.mem_map.mp hm
    subst e
    rw [e2 p hp]
    exact ⟨lt1 p hp, e1 p hp⟩
theorem jn_needs {A : Mat} {n : Nat} {ms : List (Nat × Nat)} (s : Sq A n) (O : MOk A n ms) (i j : Nat) : j ∈ jn (needsOf (graphOf A) ms) i ↔ i < n ∧ ∃ k, k < n ∧ ent A i k ≠ 0 ∧ ownerOf ms k = j ∧ j ≠ i := by
  have hl : ∀ G : Gr, (needsOf G ms).lookup i = (G.lookup i).map fun q => (q.filter fun k => decide (ownerOf ms k ≠ i)).map (ownerOf ms) := by
    intro G
    unfold needsOf
    induction G with
    | nil => rfl
    | cons a r ih =>
      obtain ⟨x, y⟩ := a
      by_cases e : i = x
      · subst e; simp [List.lookup]
      · simp only [List.map_cons, List.lookup, beq_eq_false_iff_ne.mpr e]
        exact ih
  by_cases hi : i < n
  · have hg : (graphOf A).lookup i = some (jn (graphOf A) i) := by
      unfold jn
      cases e : (graphOf A).lookup i with
      | some q => rfl
      | none =>
        exfalso
        have hh := lookup_none' e
        exact hh (by
          unfold graphOf
          rw [List.map_map]
          exact List.mem_map.mpr ⟨i, List.mem_range.mpr (by rw [s.len]; exact hi), rfl⟩)
    unfold jn
    rw [hl, hg]
    show j ∈ ((jn (graphOf A) i).filter _).map _ ↔ _
    rw [List.mem_map]
    constructor
    · rintro ⟨k, hk, rfl⟩
      obtain ⟨h1, h2⟩ := List.mem_filter.mp hk
      rw [jn_graph (by rw [s.len]; exact hi), s.len] at h1
      obtain ⟨h3, h4⟩ := List.mem_filter.mp h1
      exact ⟨hi, k, List.mem_range.mp h3, of_decide_eq_true h4, rfl, of_decide_eq_true h2⟩
    · rintro ⟨_, k, hk, h3, rfl, h4⟩
      refine ⟨k, List.mem_filter.mpr ⟨?_, decide_eq_true h4⟩, rfl⟩
      rw [jn_graph (by rw [s.len]; exact hi), s.len]
      exact List.mem_filter.mpr ⟨List.mem_range.mpr hk, decide_eq_true h3⟩
  · constructor
    · intro h
      unfold jn at h
      rw [hl] at h
      cases e : (graphOf A).lookup i with
      | none => rw [e] at h; simp at h
      | some q =>
        exfalso
        have hm := lookup_mem' e
        unfold graphOf at hm
        obtain ⟨x, hx, ex⟩ := List.mem_map.mp hm
        cases ex
        exact hi (by rw [← s.len]; exact List.mem_range.mp hx)
    · rintro ⟨h, _⟩
      exact absurd h hi
where
  lookup_none' {i : Nat} {G : Gr} (h : G.lookup i = none) : i ∉ G.map (·.1) := by
    induction G with
    | nil => simp
    | cons a r ih =>
      obtain ⟨k', v'⟩ := a
      by_cases e : i = k'
      · subst e; simp [List.lookup] at h
      · simp only [List.lookup, beq_eq_false_iff_ne.mpr e] at h
        rw [List.map_cons, List.mem_cons]
        rintro (z | z)
        · exact e z
        · exact ih h z
  lookup_mem' {i : Nat} {q : List Nat} {G : Gr} (h : G.lookup i = some q) : (i, q) ∈ G := by
    induction G with
    | nil => cases h
    | cons a r ih =>
      obtain ⟨k', v'⟩ := a
      by_cases e : i = k'
      · subst e; simp [List.lookup] at h; subst h; exact List.mem_cons_self
      · simp only [List.lookup, beq_eq_false_iff_ne.mpr e] at h
        exact List.mem_cons_of_mem _ (ih h)
/-- the blocks: for each group its rows, and their keys in any order -/
def groupsOf (A : Mat) (n : Nat) (ms : List (Nat × Nat)) : List (List Nat) := (orderOf (needsOf (graphOf A) ms) (together (needsOf (graphOf A) ms) (List.range n))).map fun i => (together (needsOf (graphOf A) ms) (List.range n)).getD i []
theorem flatten_perm {gs : List (List Nat)} {done : List Nat} (hn : done.Nodup) (hl : ∀ i ∈ done, i < gs.length) (hc : done.length = gs.length) : (done.map fun i => gs.getD i []).flatten.Perm gs.flatten := by
  have hp : done.Perm (List.range gs.length) := (List.perm_ext_iff_of_nodup hn List.nodup_range).mpr fun i => ⟨fun h => List.mem_range.mpr (hl i h), fun h => cover hn hl (by omega) (List.mem_range.mp h)⟩
  have h1 := (hp.map fun i => gs.getD i []).flatten
  have h2 : (List.range gs.length).map (fun i => gs.getD i []) = gs := by
    refine List.ext_getElem (by simp) fun i h1 h2 => ?_
    simp [List.getD_eq_getElem?_getD, h2]
  rw [h2] at h1
  exact h1
theorem blocks_ok {A : Mat} {n : Nat} {ms : List (Nat × Nat)} (s : Sq A n) (hn8 : n < 8) (O : MOk A n ms) {bl : BL} (h1 : bl.map (·.1) = groupsOf A n ms) (h2 : ∀ q ∈ bl, q.2.Perm (q.1.map (keyOf ms))) : BlocksOk A n bl := by
  have S : Sml (needsOf (graphOf A) ms) (List.range n) := ⟨fun nm k hk => by
    obtain ⟨_, k', hk', _, rfl, _⟩ := (jn_needs s O nm k).mp hk
    exact List.mem_range.mpr (O.own k' hk').1, by rw [List.length_range]; exact hn8⟩
  have hN : ∀ x, ∀ y ∈ jn (needsOf (graphOf A) ms) x, y ∈ List.range n := S.sub
  have B := together_ok (names := List.range n) S List.nodup_range
  obtain ⟨Od, ol⟩ := order_ok S hN B
  unfold groupsOf at h1
  generalize hN' : needsOf (graphOf A) ms = N at h1 S hN B Od ol
  generalize together N (List.range n) = gs at h1 B Od ol
  generalize orderOf N gs = done at h1 Od ol
  have hr : rowsOf bl = (done.map fun i => gs.getD i []).flatten := by unfold rowsOf; rw [h1]
  have hp := flatten_perm Od.nd Od.lt ol
  rw [← hr] at hp
  have rnd : (rowsOf bl).Nodup := hp.symm.nodup B.nd
  have rmem : ∀ i, i ∈ rowsOf bl ↔ i < n := fun i => by
    rw [hp.mem_iff]
    constructor
    · intro h
      obtain ⟨g, hg, hi⟩ := List.mem_flatten.mp h
      obtain ⟨x, _, rfl⟩ := B.cls g hg
      exact List.mem_range.mp ((mem_block S).mp hi).1
    · intro h
      exact B.cov i (List.mem_range.mpr h)
  have hc : (colsOf bl).Perm ((rowsOf bl).map (keyOf ms)) := by
    clear hr hp rnd rmem h1
    induction bl with
    | nil => exact .nil
    | cons q r ih =>
      rw [colsOf_cons, rowsOf_cons, List.map_append]
      exact (h2 q List.mem_cons_self).append (ih fun p hp => h2 p (List.mem_cons_of_mem _ hp))
  have kinj : ∀ a ∈ rowsOf bl, ∀ b ∈ rowsOf bl, keyOf ms a = keyOf ms b → a = b := fun a ha b hb e => by
    have h1 := (O.key a ((rmem a).mp ha)).2
    have h2 := (O.key b ((rmem b).mp hb)).2
    rw [e, h2] at h1
    exact h1.symm
  have cmem : ∀ j, j ∈ colsOf bl ↔ j < n := fun j => by
    rw [hc.mem_iff, List.mem_map]
    constructor
    · rintro ⟨i, hi, rfl⟩
      exact (O.key i ((rmem i).mp hi)).1
    · intro h
      exact ⟨ownerOf ms j, (rmem _).mpr (O.own j h).1, (O.own j h).2⟩
  refine ⟨rnd, fun i hi => (rmem i).mp hi, fun i hi => (rmem i).mpr hi, hc.symm.nodup (nodup_map_on rnd kinj), fun j hj => (cmem j).mp hj, fun j hj => (cmem j).mpr hj, fun q hq => by rw [(h2 q hq).length_eq, List.length_map], fun pre q post e r hrq j hj hne => ?_⟩
  -- the key j is of ownerOf j, which r needs or is
  have hrn : r < n := (rmem r).mp (by rw [e, rowsOf_append, rowsOf_cons]; exact List.mem_append_right _ (List.mem_append_left _ hrq))
  obtain ⟨ho, hk⟩ := O.own j hj
  have hq2 : ∀ {p : List Nat × List Nat}, p ∈ bl → ownerOf ms j ∈ p.1 → j ∈ p.2 := fun {p} hp hm => by
    rw [(h2 p hp).mem_iff, List.mem_map]
    exact ⟨_, hm, hk⟩
  have hqb : q ∈ bl := by rw [e]; exact List.mem_append_right _ List.mem_cons_self
  by_cases hor : ownerOf ms j = r
  · exact .inl (hq2 hqb (by rw [hor]; exact hrq))
  · have hneed : ownerOf ms j ∈ jn N r := by
      rw [← hN']
      exact (jn_needs s O r _).mpr ⟨hrn, j, hj, hne, rfl, hor⟩
    -- q is the block at place pre.length
    have hlen : bl.length = done.length := by
      have := congrArg List.length h1
      rwa [List.length_map, List.length_map] at this
    have hplen : pre.length < done.length := by rw [← hlen, e, List.length_append, List.length_cons]; omega
    have hqi : ∀ (i : Nat) (hi : i < bl.length), (bl[i]).1 = gs.getD (done[i]'(by omega)) [] := fun i hi => by
      have : (bl.map (·.1))[i]'(by rw [List.length_map]; exact hi) = (done.map fun i => gs.getD i [])[i]'(by rw [List.length_map]; omega) := by
        simp only [h1]
      rwa [List.getElem_map, List.getElem_map] at this
    have hbq : bl[pre.length]'(by omega) = q := by
      simp only [e]
      rw [List.getElem_append_right (Nat.le_refl _)]
      simp
    have hq1 : q.1 = gs.getD done[pre.length] [] := by rw [← hbq]; exact hqi _ (by omega)
    have hw : numOf gs (ownerOf ms j) ∈ wantedOf N gs (gs.getD done[pre.length] []) := List.mem_map.mpr ⟨_, List.mem_flatMap.mpr ⟨r, by rw [← hq1]; exact hrq, hneed⟩, rfl⟩
    have hd := Od.dep _ hplen _ hw
    obtain ⟨m1, m2⟩ := num_ok (B.cov (ownerOf ms j) (List.mem_range.mpr ho))
    obtain ⟨k, hk1, hk2⟩ := List.getElem_of_mem hd
    rw [List.length_take] at hk1
    rw [List.getElem_take] at hk2
    have hk3 : k < bl.length := by omega
    have hmem : ownerOf ms j ∈ (bl[k]).1 := by
      rw [hqi k hk3, hk2]
      exact m2
    by_cases hkp : k = pre.length
    · subst hkp
      rw [hbq] at hmem
      exact .inl (hq2 hqb hmem)
    · have hkp' : k < pre.length := by omega
      have hbk : bl[k] = pre[k] := by
        simp only [e]
        rw [List.getElem_append_left hkp']
      have := hq2 (List.getElem_mem hk3) hmem
      rw [hbk] at this
      exact .inr (List.mem_flatten.mpr ⟨_, List.mem_map_of_mem (f := fun (q : List Nat × List Nat) => q.2) (List.getElem_mem hkp'), this⟩)
/-- the matching of a regular matrix's graph -/
theorem reg_match {A : Mat} {n : Nat} (s : Sq A n) (hn : n < 7) (hr : Reg A n) : Mat1 (graphOf A) (List.range n) (matchM (graphOf A) (List.range n)) :=
  matchM_ok (U := List.range n) (fun nm k hk => by have := graph_U nm k hk; rwa [s.len] at this) (by rw [List.length_range]; exact hn) List.nodup_range (reg_hall s hr)
end K97
end
section
set_option linter.all false
namespace K97
/-! ## sizes on the way -/
def bb (b : Nat) : Nat → Nat
  | 0 => b
  | k + 1 => 4 * bb b k + 1
def cb (b c : Nat) : Nat → Nat
  | 0 => c
  | k + 1 => 2 * cb b c k + 2 * bb b k + 1
theorem bb_le (b : Nat) {k j : Nat} (h : k ≤ j) : bb b k ≤ bb b j := by
  induction j with
  | zero => have : k = 0 := by omega
            subst this; exact Nat.le_refl _
  | succ j ih =>
    rcases Nat.lt_or_ge j k with h1 | h1
    · have : k = j + 1 := by omega
      subst this; exact Nat.le_refl _
    · have := ih h1
      show bb b k ≤ 4 * bb b j + 1
      omega
theorem cb_le (b c : Nat) {k j : Nat} (h : k ≤ j) : cb b c k ≤ cb b c j := by
  induction j with
  | zero => have : k = 0 := by omega
            subst this; exact Nat.le_refl _
  | succ j ih =>
    rcases Nat.lt_or_ge j k with h1 | h1
    · have : k = j + 1 := by omega
      subst this; exact Nat.le_refl _
    · have := ih h1
      show cb b c k ≤ 2 * cb b c j + 2 * bb b j + 1
      omega
def RowSz (b : Nat) (r : Row) : Prop := ∀ q ∈ r, Sz b q
theorem RowSz.at {b : Nat} {r : Row} (h : RowSz b r) (k : Nat) : Sz b (at0 r k) := by
  by_cases hk : k < r.length
  · rw [at0_lt hk]; exact h _ (List.getElem_mem hk)
  · unfold at0
    rw [List.getD_eq_getElem?_getD, List.getElem?_eq_none (by omega)]
    exact Sz.zero
theorem RowSz.mono {a b : Nat} {r : Row} (h : RowSz a r) (l : a ≤ b) : RowSz b r := fun q hq => (h q hq).mono l
theorem RowSz.rep {b n : Nat} : RowSz b (List.replicate n 0) := fun q hq => by
  rw [List.eq_of_mem_replicate hq]; exact Sz.zero
theorem RowSz.set {b : Nat} {r : Row} {i : Nat} {v : Rat} (h : RowSz b r) (hv : Sz b v) : RowSz b (r.set i v) := fun q hq => by
  rcases List.mem_or_eq_of_mem_set hq with h1 | rfl
  · exact h q h1
  · exact hv
theorem RowSz.subF {a f : Nat} {b c : Nat} {r o : Row} {q : Rat} (h : RowSz a r) (hf : Sz f q) (ho : RowSz b o) (l : a + (f + b) + 1 ≤ c) : RowSz c (subF r q o) := fun x hx => by
  unfold K97.subF at hx
  obtain ⟨k, _, rfl⟩ := List.mem_map.mp hx
  exact ((h.at k).sub (hf.mul (ho.at k))).mono l
theorem subF_zero {r o : Row} {f : Rat} (h : f = 0) : subF r f o = r := by
  subst h
  refine List.ext_getElem (subF_len _ _ _) fun k h1 h2 => ?_
  rw [← at0_lt h1, at_subF h2, ← at0_lt h2]
  grind
/-- a basis by its sizes -/
def BSz (b c : Nat) (B : List BE) : Prop := ∀ i e, B[i]? = some e → RowSz (bb b i) e.2.1 ∧ Sz (cb b c i) e.2.2
theorem BSz.nil {b c : Nat} : BSz b c [] := fun i e h => by simp at h
theorem BSz.snoc {b c : Nat} {B : List BE} {e : BE} (h : BSz b c B) (h1 : RowSz (bb b B.length) e.2.1) (h2 : Sz (cb b c B.length) e.2.2) : BSz b c (B ++ [e]) := fun i f hf => by
  rcases Nat.lt_trichotomy i B.length with l | l | l
  · rw [List.getElem?_append_left l] at hf; exact h i f hf
  · subst l
    rw [List.getElem?_append_right (Nat.le_refl _), Nat.sub_self] at hf
    cases hf
    exact ⟨h1, h2⟩
  · rw [List.getElem?_append_right (by omega), List.getElem?_eq_none (by simp; omega)] at hf
    cases hf
/-- the state of the reducing behind i rows -/
def redAt (B : List BE) (r : Row) (v : Rat) (i : Nat) : Row × Rat × List Rat := (B.take i).foldl redStep (r, v, [])
theorem redAt_zero (B : List BE) (r : Row) (v : Rat) : redAt B r v 0 = (r, v, []) := rfl
theorem redAt_succ {B : List BE} {r : Row} {v : Rat} {i : Nat} {e : BE} (h : B[i]? = some e) : redAt B r v (i + 1) = redStep (redAt B r v i) e := by
  unfold redAt
  obtain ⟨hi, rfl⟩ := List.getElem?_eq_some_iff.mp h
  rw [← List.take_append_getElem hi, List.foldl_append]
  rfl
theorem redAt_all (B : List BE) (r : Row) (v : Rat) : redAt B r v B.length = red B r v := by
  unfold redAt red
  rw [List.take_length]
theorem redAt_len (B : List BE) (r : Row) (v : Rat) (i : Nat) : (redAt B r v i).1.length = r.length := by
  unfold redAt
  have : ∀ (L : List BE) (s : Row × Rat × List Rat), (L.foldl redStep s).1.length = s.1.length := by
    intro L
    induction L with
    | nil => intro s; rfl
    | cons e L ih => intro s; rw [List.foldl_cons, ih]; exact subF_len _ _ _
  exact this _ _
theorem redAt_fs (B : List BE) (r : Row) (v : Rat) (i : Nat) (hi : i ≤ B.length) : (redAt B r v i).2.2.length = i := by
  induction i with
  | zero => rfl
  | succ i ih =>
    rw [redAt_succ (List.getElem?_eq_getElem (show i < B.length by omega))]
    show ((redAt B r v i).2.2 ++ [_]).length = i + 1
    rw [List.length_append, ih (by omega)]
    rfl
theorem red_sz {b c : Nat} {B : List BE} {r : Row} {v : Rat} (hB : BSz b c B) (hr : RowSz b r) (hv : Sz c v) : ∀ i, i ≤ B.length → RowSz (bb b i) (redAt B r v i).1 ∧ Sz (cb b c i) (redAt B r v i).2.1 ∧
    ∀ j q, (redAt B r v i).2.2[j]? = some q → Sz (2 * bb b j) q
  | 0, _ => ⟨hr, hv, fun j q h => by simp [redAt_zero] at h⟩
  | i + 1, hi => by
    obtain ⟨h1, h2, h3⟩ := red_sz hB hr hv i (by omega)
    obtain ⟨k1, k2⟩ := hB i _ (List.getElem?_eq_getElem (show i < B.length by omega))
    rw [redAt_succ (List.getElem?_eq_getElem (show i < B.length by omega))]
    have hf : Sz (bb b i + bb b i) (at0 (redAt B r v i).1 B[i].1 / at0 B[i].2.1 B[i].1) := (h1.at _).div (k1.at _)
    refine ⟨h1.subF hf k1 (by show _ ≤ 4 * bb b i + 1; omega), (h2.sub (hf.mul k2)).mono (by show _ ≤ 2 * cb b c i + 2 * bb b i + 1; omega), fun j q h => ?_⟩
    have h : ((redAt B r v i).2.2 ++ [at0 (redAt B r v i).1 B[i].1 / at0 B[i].2.1 B[i].1])[j]? = some q := h
    have hl := redAt_fs B r v i (by omega)
    rcases Nat.lt_trichotomy j i with l | l | l
    · rw [List.getElem?_append_left (by omega)] at h; exact h3 j q h
    · subst l
      rw [List.getElem?_append_right (by omega), hl, Nat.sub_self] at h
      cases h
      exact hf.mono (by omega)
    · rw [List.getElem?_append_right (by omega), List.getElem?_eq_none (by simp; omega)] at h
      cases h
/-- the vectors of the contradiction -/
def OSz (b : Nat) (M : List Row) : Prop := ∀ i o, M[i]? = some o → RowSz (cb b 0 i) o
def ownAt (m i : Nat) (fs : List Rat) (M : List Row) (k : Nat) : Row := ((fs.zip M).take k).foldl ownStep (unitR m i)
theorem ownAt_succ {m i k : Nat} {fs : List Rat} {M : List Row} {f : Rat} {o : Row} (h1 : fs[k]? = some f) (h2 : M[k]? = some o) : ownAt m i fs M (k + 1) = subF (ownAt m i fs M k) f o := by
  unfold ownAt
  obtain ⟨l1, rfl⟩ := List.getElem?_eq_some_iff.mp h1
  obtain ⟨l2, rfl⟩ := List.getElem?_eq_some_iff.mp h2
  have hk : k < (fs.zip M).length := by rw [List.length_zip]; omega
  rw [← List.take_append_getElem hk, List.foldl_append, List.getElem_zip]
  rfl
theorem ownAt_all {m i : Nat} {fs : List Rat} {M : List Row} (h : fs.length = M.length) : ownAt m i fs M fs.length = ownOf m i fs M := by
  unfold ownAt ownOf
  rw [List.take_of_length_le (by rw [List.length_zip]; omega)]
theorem ownAt_len (m i : Nat) (fs : List Rat) (M : List Row) (k : Nat) : (ownAt m i fs M k).length = m := by
  unfold ownAt
  have : ∀ (L : List (Rat × Row)) (s : Row), (L.foldl ownStep s).length = s.length := by
    intro L
    induction L with
    | nil => intro s; rfl
    | cons e L ih => intro s; rw [List.foldl_cons, ih]; exact subF_len _ _ _
  rw [this, unit_len]
theorem own_sz {b m i : Nat} {fs : List Rat} {M : List Row} (hl : fs.length = M.length) (hf : ∀ j q, fs[j]? = some q → Sz (2 * bb b j) q) (hM : OSz b M) : ∀ k, k ≤ fs.length → RowSz (cb b 0 k) (ownAt m i fs M k)
  | 0, _ => by
    show RowSz _ (unitR m i)
    exact RowSz.rep.set Sz.one
  | k + 1, hk => by
    have h := own_sz (m := m) (i := i) hl hf hM k (by omega)
    have e1 : fs[k]? = some (fs[k]'(by omega)) := List.getElem?_eq_getElem (by omega)
    have e2 : M[k]? = some (M[k]'(by omega)) := List.getElem?_eq_getElem (by omega)
    rw [ownAt_succ e1 e2]
    exact h.subF (hf k _ e1) (hM k _ e2) (by show _ ≤ 2 * cb b 0 k + 2 * bb b k + 1; omega)
/-- back substitution: the constant behind k places -/
theorem backC_succ (e : BE) (found : Row) (k : Nat) : backC e found (k + 1) = if k = e.1 then backC e found k else backC e found k - at0 e.2.1 k * at0 found k := by
  unfold backC
  rw [List.range_succ, List.foldl_append]
  rfl
/-- how many of the first k places are not 0 at found, apart from e's own -/
def cnt (e : BE) (found : Row) (k : Nat) : Nat := ((List.range k).filter fun j => decide (j ≠ e.1) && decide (at0 found j ≠ 0)).length
theorem cnt_succ (e : BE) (found : Row) (k : Nat) : cnt e found (k + 1) = cnt e found k + (if (decide (k ≠ e.1) && decide (at0 found k ≠ 0)) = true then 1 else 0) := by
  unfold cnt
  rw [List.range_succ, List.filter_append, List.length_append, List.filter_cons]
  split <;> rfl
theorem backC_sz {e : BE} {found : Row} {b c S : Nat} (hr : RowSz b e.2.1) (hc : Sz c e.2.2) (hf : RowSz S found) : ∀ k, Sz (c + cnt e found k * (b + S + 1)) (backC e found k)
  | 0 => hc.mono (Nat.le_add_right _ _)
  | k + 1 => by
    have h := backC_sz hr hc hf k
    rw [backC_succ, cnt_succ]
    by_cases h1 : k = e.1
    · rw [if_pos h1, if_neg (by simp [h1])]
      exact h
    · rw [if_neg h1]
      by_cases h2 : at0 found k = 0
      · rw [if_neg (by simp [h2]), h2]
        have e2 : backC e found k - at0 e.2.1 k * 0 = backC e found k := by grind
        rw [e2]
        exact h
      · rw [if_pos (by simp [h1, h2])]
        refine (h.sub ((hr.at k).mul (hf.at k))).mono ?_
        rw [Nat.add_mul, Nat.one_mul]
        omega
/-! ## solve_linear: the partial answers -/
/-- the answer before the i-th row of the basis has been turned to -/
def backAt (B : List BE) (n i : Nat) : Row := (B.drop i).foldr (fun e f => backStep f e) (List.replicate n 0)
theorem backAt_end (B : List BE) (n : Nat) : backAt B n B.length = List.replicate n 0 := by
  unfold backAt
  rw [List.drop_length]
  rfl
theorem backAt_zero (B : List BE) (n : Nat) : backAt B n 0 = back B n := by
  rw [back_eq]
  rfl
theorem backAt_at {B : List BE} {n i : Nat} {e : BE} (h : B[i]? = some e) : backAt B n i = backStep (backAt B n (i + 1)) e := by
  unfold backAt
  obtain ⟨hi, rfl⟩ := List.getElem?_eq_some_iff.mp h
  rw [List.drop_eq_getElem_cons hi]
  rfl
theorem backAt_len (B : List BE) (n i : Nat) : (backAt B n i).length = n := by
  unfold backAt
  generalize B.drop i = L
  induction L with
  | nil => exact List.length_replicate
  | cons e L ih => rw [List.foldr_cons, backStep_len, ih]
/-- where it is not 0 -/
theorem backAt_nz {B : List BE} {n : Nat} (hB : ∀ e ∈ B, e.1 < n) : ∀ (k i : Nat), i + k = B.length → ∀ j, at0 (backAt B n i) j ≠ 0 → j ∈ (B.drop i).map (·.1)
  | 0, i, h, j, hj => by
    have : i = B.length := by omega
    subst this
    rw [backAt_end] at hj
    exfalso
    apply hj
    unfold at0
    rw [List.getD_eq_getElem?_getD, List.getElem?_replicate]
    split <;> rfl
  | k + 1, i, h, j, hj => by
    have hi : i < B.length := by omega
    have e := List.getElem?_eq_getElem hi
    rw [backAt_at e] at hj
    rw [List.drop_eq_getElem_cons hi, List.map_cons]
    by_cases hc : j = B[i].1
    · rw [hc]; exact List.mem_cons_self
    · refine List.mem_cons_of_mem _ (backAt_nz hB k (i + 1) (by omega) j ?_)
      unfold backStep at hj
      rw [at_set (by rw [backAt_len]; exact hB _ (List.getElem_mem hi)), if_neg hc] at hj
      exact hj
/-- what is not 0 yet stands -/
theorem backAt_keep {B : List BE} {n : Nat} (hB : ∀ e ∈ B, e.1 < n) (nd : (B.map (·.1)).Nodup) : ∀ (i : Nat), i ≤ B.length → ∀ j, at0 (backAt B n i) j ≠ 0 → at0 (backAt B n i) j = at0 (back B n) j
  | 0, _, j, _ => by rw [backAt_zero]
  | i + 1, hi, j, hj => by
    have e := List.getElem?_eq_getElem (show i < B.length by omega)
    have hm := backAt_nz hB (B.length - (i + 1)) (i + 1) (by omega) j hj
    have hne : j ≠ (B[i]'(by omega)).1 := fun z => by
      have q := nd
      rw [← List.take_append_drop i B, List.map_append] at q
      have q := (List.nodup_append.mp q).2.1
      rw [List.drop_eq_getElem_cons (show i < B.length by omega), List.map_cons, List.nodup_cons] at q
      rw [z] at hm
      exact q.1 hm
    have e2 : at0 (backAt B n i) j = at0 (backAt B n (i + 1)) j := by
      rw [backAt_at e]
      unfold backStep
      rw [at_set (by rw [backAt_len]; exact hB _ (List.getElem_mem _)), if_neg hne]
    rw [← e2]
    exact backAt_keep hB nd i (by omega) j (by rw [e2]; exact hj)
theorem backAt_sz {B : List BE} {n S i : Nat} (hB : ∀ e ∈ B, e.1 < n) (nd : (B.map (·.1)).Nodup) (hi : i ≤ B.length) (h : RowSz S (back B n)) : RowSz S (backAt B n i) := fun q hq => by
  obtain ⟨j, hj, rfl⟩ := List.mem_iff_getElem.mp hq
  rw [← at0_lt hj]
  by_cases hz : at0 (backAt B n i) j = 0
  · rw [hz]; exact Sz.zero
  · rw [backAt_keep hB nd i hi j hz]
    exact h.at j
theorem nodup_le {l m : List Nat} (hl : l.Nodup) (h : ∀ x ∈ l, x ∈ m) : l.length ≤ m.length := by
  induction l generalizing m with
  | nil => exact Nat.zero_le _
  | cons a r ih =>
    have ha := h a List.mem_cons_self
    have := ih (m := m.erase a) (List.nodup_cons.mp hl).2 fun x hx => (List.mem_erase_of_ne fun e => by subst e; exact (List.nodup_cons.mp hl).1 hx).mpr (h x (List.mem_cons_of_mem _ hx))
    rw [List.length_erase_of_mem ha] at this
    have := List.length_pos_of_mem ha
    rw [List.length_cons]
    omega
theorem cnt_le {B : List BE} {n i k : Nat} (e : BE) (hB : ∀ e ∈ B, e.1 < n) (hi : i ≤ B.length) : cnt e (backAt B n i) k ≤ B.length - i := by
  have h := nodup_le (l := (List.range k).filter fun j => decide (j ≠ e.1) && decide (at0 (backAt B n i) j ≠ 0)) (m := (B.drop i).map (·.1)) (List.nodup_range.filter _) fun x hx => by
    obtain ⟨_, h2⟩ := List.mem_filter.mp hx
    rw [Bool.and_eq_true] at h2
    exact backAt_nz hB (B.length - i) i (by omega) x (of_decide_eq_true h2.2)
  rw [List.length_map, List.length_drop] at h
  exact h
/-- all goes in the numbers that // takes -/
def FitS (b c m S : Nat) : Prop := ∀ i, i < m → cb b c i + (m - 1 - i) * (bb b i + S + 1) + bb b i ≤ 13400
instance {b c m S : Nat} : Decidable (FitS b c m S) := inferInstanceAs (Decidable (∀ i, i < m → _))
theorem back_sz {b c S n i : Nat} {B : List BE} {e : BE} (hB : Bas n B) (hz : BSz b c B) (hS : RowSz S (back B n)) (he : B[i]? = some e) (k : Nat) : Sz (cb b c i + (B.length - 1 - i) * (bb b i + S + 1)) (backC e (backAt B n (i + 1)) k) := by
  obtain ⟨hi, rfl⟩ := List.getElem?_eq_some_iff.mp he
  obtain ⟨h1, h2⟩ := hz i _ he
  refine (backC_sz h1 h2 (backAt_sz hB.col (bas_nodup hB) (by omega) hS) k).mono ?_
  have := cnt_le (k := k) B[i] hB.col (show i + 1 ≤ B.length by omega)
  have h3 : cnt B[i] (backAt B n (i + 1)) k ≤ B.length - 1 - i := by omega
  have := Nat.mul_le_mul_right (bb b i + S + 1) h3
  omega
/-- the rows of a basis as they come -/
theorem fwdStep_sz {b c : Nat} {B B' : List BE} {rc : Row × Rat} (hB : BSz b c B) (hr : RowSz b rc.1) (hc : Sz c rc.2) (h : fwdStep B rc = some B') : BSz b c B' := by
  obtain ⟨h1, h2, _⟩ := red_sz hB hr hc B.length (Nat.le_refl _)
  rw [redAt_all] at h1 h2
  unfold fwdStep at h
  split at h
  · cases h
    exact hB.snoc h1 h2
  · split at h
    · cases h; exact hB
    · cases h
theorem fwdStep_len {B B' : List BE} {rc : Row × Rat} (h : fwdStep B rc = some B') : B'.length ≤ B.length + 1 := by
  unfold fwdStep at h
  split at h
  · cases h
    rw [List.length_append]
    exact Nat.le_refl _
  · split at h
    · cases h; omega
    · cases h
end K97
end
section
set_option Elab.async false
set_option linter.all false
set_option maxRecDepth 100000
namespace KW
open PySem L2

abbrev VP := V → Hp → Prop
/-- what stays true while the heap grows -/
class Mo (P : VP) : Prop where
  mo : ∀ v G G', L2.Same G G' → P v G → P v G'
class MoA (Rs : List VP) : Prop where
  mo : ∀ R ∈ Rs, ∀ v G G', L2.Same G G' → R v G → R v G'
theorem same_t {K : PySem.W.Frag} {H H' : Hp} {a : Addr} {xs : List V} (e : L2.Same H H') (h : SqT K H a xs) : SqT K H' a xs := by
  rcases h with (h | ⟨o, h⟩) | h
  · exact .inl (.inl (e _ _ h))
  · exact .inl (.inr ⟨o, e _ _ h⟩)
  · exact .inr h
theorem same_new {H : Hp} {p : Addr} {o : HO} (h : H p = none) : L2.Same H (upd H p o) := fun a u e => by
  rw [upd_ne (ne_of_none e h)]
  exact e
/-- the ghost G within H grows to G2 within H2; what H had outside of G stays outside -/
structure Gw (G H G2 H2 : Hp) : Prop where
  g : L2.Same G G2
  h : L2.Same H H2
  s : L2.Same G2 H2
  f : ∀ a o, H a = some o → G a = none → G2 a = none
section
variable {G H G1 H1 G2 H2 : Hp} {p : Addr} {o : HO}
theorem Gw.refl (s : L2.Same G H) : Gw G H G H := ⟨.refl _, .refl _, s, fun _ _ _ e => e⟩
theorem Gw.trans (a : Gw G H G1 H1) (b : Gw G1 H1 G2 H2) : Gw G H G2 H2 :=
  ⟨a.g.trans b.g, a.h.trans b.h, b.s, fun x o e1 e2 => b.f x o (a.h x o e1) (a.f x o e1 e2)⟩
theorem Gw.new (s : L2.Same G H) (hp : H p = none) : Gw G H (upd G p o) (upd H p o) := by
  have gp : G p = none := s.free hp
  refine ⟨same_new gp, same_new hp, fun a u e => ?_, fun a u e1 e2 => ?_⟩
  · by_cases h : a = p
    · subst h; rw [upd_same] at e ⊢; exact e
    · rw [upd_ne h] at e ⊢; exact s a u e
  · rw [upd_ne (ne_of_none e1 hp)]; exact e2
/-- an untracked new object -/
theorem Gw.newH (s : L2.Same G H) (hp : H p = none) : Gw G H G (upd H p o) :=
  ⟨.refl _, same_new hp, s.trans (same_new hp), fun a u e1 e2 => e2⟩
def join (G G' : Hp) : Hp := fun a => match G' a with
  | some o => some o
  | none => G a
theorem join_some {a : Addr} {u : HO} (h : G1 a = some u) : join G G1 a = some u := by unfold join; rw [h]
theorem join_none {a : Addr} (h : G1 a = none) : join G G1 a = G a := by unfold join; rw [h]
theorem Gw.up (w : Gw G H G2 H2) (a : L2.Same G G1) (b : L2.Same G1 H) : Gw G1 H (join G2 G1) H2 ∧ L2.Same G2 (join G2 G1) := by
  refine ⟨⟨fun x u e => join_some e, w.h, fun x u e => ?_, fun x u e1 e2 => ?_⟩, fun x u e => ?_⟩
  · cases q : G1 x with
    | some z => rw [join_some q] at e; cases e; exact w.h x _ (b x _ q)
    | none => rw [join_none q] at e; exact w.s x u e
  · rw [join_none e2]
    exact w.f x u e1 (a.free e2)
  · cases q : G1 x with
    | some z =>
      rw [join_some q]
      have h1 := w.h x _ (b x _ q)
      rw [w.s x u e] at h1
      exact h1.symm
    | none => rw [join_none q]; exact e
end
/-- what the cells hold -/
def HC (cs : List (Addr × HO)) (G H : Hp) : Prop := ∀ c ∈ cs, H c.1 = some c.2 ∧ G c.1 = none
theorem HC.nil {G H : Hp} : HC [] G H := fun c h => by simp at h
theorem HC.up {cs : List (Addr × HO)} {G H G2 H2 : Hp} (h : HC cs G H) (w : Gw G H G2 H2) : HC cs G2 H2 := fun c hc => ⟨w.h _ _ (h c hc).1, w.f _ _ (h c hc).1 (h c hc).2⟩
theorem HC.down {cs : List (Addr × HO)} {G G' H : Hp} (h : HC cs G' H) (e : L2.Same G G') : HC cs G H := fun c hc => ⟨(h c hc).1, e.free (h c hc).2⟩
theorem HC.sub {cs cs' : List (Addr × HO)} {G H : Hp} (h : HC cs G H) (e : ∀ c ∈ cs', c ∈ cs) : HC cs' G H := fun c hc => h c (e c hc)
/-! ### what evaluates to what -/
def EvP (te : TE) (σ : L2.St) (G : Hp) (cs : List (Addr × HO)) (P : VP) : Prop := ∀ H, L2.Same G H → HC cs G H → ∀ Q : VK, (∀ v G2 H2, Gw G H G2 H2 → P v G2 → Q v H2) → te σ H Q
def EvA (ta : TA) (σ : L2.St) (G : Hp) (cs : List (Addr × HO)) (P : List V → Hp → Prop) : Prop := ∀ H, L2.Same G H → HC cs G H → ∀ Q : List V → Hp → Prop, (∀ vs G2 H2, Gw G H G2 H2 → P vs G2 → Q vs H2) → ta σ H Q
def EvT (tt : TT) (σ : L2.St) (G : Hp) (cs : List (Addr × HO)) (b : Bool) : Prop := ∀ H, L2.Same G H → HC cs G H → ∀ Q : Bool → Hp → Prop, (∀ G2 H2, Gw G H G2 H2 → Q b H2) → tt σ H Q
/-- item by item -/
def F2 : List VP → List V → Hp → Prop
  | [], [], _ => True
  | R :: Rs, v :: vs, G => R v G ∧ F2 Rs vs G
  | _, _, _ => False
section
variable {G G' H : Hp} {Rs Ss : List VP} {vs ws : List V} {R : VP} {v : V}
theorem F2.nil : F2 [] [] G := trivial
theorem F2.cons (h : R v G) (t : F2 Rs vs G) : F2 (R :: Rs) (v :: vs) G := ⟨h, t⟩
theorem F2.inv_nil (h : F2 [] vs G) : vs = [] := by
  cases vs with
  | nil => rfl
  | cons a r => exact h.elim
theorem F2.inv_cons (h : F2 (R :: Rs) vs G) : ∃ v r, vs = v :: r ∧ R v G ∧ F2 Rs r G := by
  cases vs with
  | nil => exact h.elim
  | cons a r => exact ⟨a, r, rfl, h.1, h.2⟩
theorem F2.len : ∀ {Rs : List VP} {vs : List V}, F2 Rs vs G → Rs.length = vs.length
  | [], [], _ => rfl
  | _ :: _, _ :: _, h => congrArg Nat.succ (F2.len h.2)
  | [], _ :: _, h => h.elim
  | _ :: _, [], h => h.elim
theorem F2.get : ∀ {Rs : List VP} {vs : List V} {i : Nat} {R : VP}, F2 Rs vs G → Rs[i]? = some R → ∃ v, vs[i]? = some v ∧ R v G
  | [], _, _, _, _, e => by simp at e
  | _ :: _, [], _, _, h, _ => h.elim
  | S :: Rs, v :: vs, 0, R, h, e => by
    have e' : S = R := Option.some.inj e
    subst e'
    exact ⟨v, rfl, h.1⟩
  | _ :: Rs, v :: vs, i + 1, R, h, e => F2.get (Rs := Rs) (vs := vs) (i := i) h.2 e
theorem F2.at (h : F2 Rs vs G) {i : Nat} (e : vs[i]? = some v) : ∃ R, Rs[i]? = some R ∧ R v G := by
  have hi : i < Rs.length := by rw [h.len]; exact (List.getElem?_eq_some_iff.mp e).1
  obtain ⟨w, h1, h2⟩ := h.get (List.getElem?_eq_getElem hi)
  rw [e] at h1
  cases h1
  exact ⟨_, List.getElem?_eq_getElem hi, h2⟩
theorem F2.mono (m : ∀ R ∈ Rs, ∀ v G G', L2.Same G G' → R v G → R v G') (e : L2.Same G G') (h : F2 Rs vs G) : F2 Rs vs G' := by
  induction Rs generalizing vs with
  | nil => rw [h.inv_nil]; trivial
  | cons R Rs ih =>
    obtain ⟨v, r, rfl, h1, h2⟩ := h.inv_cons
    exact ⟨m R List.mem_cons_self _ _ _ e h1, ih (fun S hS => m S (List.mem_cons_of_mem _ hS)) h2⟩
theorem F2.append : ∀ {Rs Ss : List VP} {vs ws : List V}, F2 Rs vs G → F2 Ss ws G → F2 (Rs ++ Ss) (vs ++ ws) G
  | [], _, [], _, _, s => s
  | _ :: _, _, _ :: _, _, r, s => ⟨r.1, F2.append r.2 s⟩
  | [], _, _ :: _, _, h, _ => h.elim
  | _ :: _, _, [], _, h, _ => h.elim
theorem F2.snoc (h : F2 Rs vs G) (r : R v G) : F2 (Rs ++ [R]) (vs ++ [v]) G := h.append ⟨r, trivial⟩
theorem F2.set : ∀ {Rs : List VP} {vs : List V} (i : Nat), F2 Rs vs G → R v G → F2 (Rs.set i R) (vs.set i v) G
  | [], [], _, _, _ => trivial
  | _ :: _, _ :: _, 0, h, r => ⟨r, h.2⟩
  | _ :: _, _ :: _, i + 1, h, r => ⟨h.1, F2.set i h.2 r⟩
  | [], _ :: _, _, h, _ => h.elim
  | _ :: _, [], _, h, _ => h.elim
theorem F2.take : ∀ {Rs : List VP} {vs : List V} (n : Nat), F2 Rs vs G → F2 (Rs.take n) (vs.take n) G
  | _, _, 0, _ => trivial
  | [], [], _ + 1, _ => trivial
  | _ :: _, _ :: _, n + 1, h => ⟨h.1, F2.take n h.2⟩
  | [], _ :: _, _ + 1, h => h.elim
  | _ :: _, [], _ + 1, h => h.elim
theorem F2.drop : ∀ {Rs : List VP} {vs : List V} (n : Nat), F2 Rs vs G → F2 (Rs.drop n) (vs.drop n) G
  | _, _, 0, h => h
  | [], [], _ + 1, _ => trivial
  | _ :: _, _ :: _, n + 1, h => F2.drop n h.2
  | [], _ :: _, _ + 1, h => h.elim
  | _ :: _, [], _ + 1, h => h.elim
theorem F2.rev (h : F2 Rs vs G) : F2 Rs.reverse vs.reverse G := by
  induction Rs generalizing vs with
  | nil => rw [h.inv_nil]; trivial
  | cons R Rs ih =>
    obtain ⟨v, r, rfl, h1, h2⟩ := h.inv_cons
    rw [List.reverse_cons, List.reverse_cons]
    exact (ih h2).snoc h1
theorem F2.rep {n : Nat} (h : R v G) : F2 (List.replicate n R) (List.replicate n v) G := by
  induction n with
  | zero => trivial
  | succ n ih => exact ⟨h, ih⟩
end
instance moA_nil : MoA [] := ⟨fun _ h => by simp at h⟩
instance moA_cons {R : VP} {Rs : List VP} [a : Mo R] [b : MoA Rs] : MoA (R :: Rs) := ⟨fun S h => by
  rcases List.mem_cons.mp h with rfl | h
  · exact a.mo
  · exact b.mo S h⟩
instance moA_map {T : Type} {f : T → VP} {l : List T} [a : ∀ x, Mo (f x)] : MoA (l.map f) := ⟨fun S h => by
  obtain ⟨x, _, rfl⟩ := List.mem_map.mp h
  exact (a x).mo⟩
instance moA_append {Rs Ss : List VP} [a : MoA Rs] [b : MoA Ss] : MoA (Rs ++ Ss) := ⟨fun S h => by
  rcases List.mem_append.mp h with h | h
  · exact a.mo S h
  · exact b.mo S h⟩
instance moA_rep {R : VP} {n : Nat} [a : Mo R] : MoA (List.replicate n R) := ⟨fun S h => by
  rw [List.eq_of_mem_replicate h]
  exact a.mo⟩
/-! ### relations -/
def RV (v : V) : VP := fun x _ => x = v
instance {v : V} : Mo (RV v) := ⟨fun _ _ _ _ h => h⟩
/-- a list of such items -/
def RL (Rs : List VP) : VP := fun v G => ∃ a vs, v = .ref a ∧ G a = some (.lst vs) ∧ F2 Rs vs G
def RT (Rs : List VP) : VP := fun v G => ∃ a vs, v = .ref a ∧ G a = some (.tup vs) ∧ F2 Rs vs G
instance {Rs : List VP} [m : MoA Rs] : Mo (RL Rs) := ⟨fun _ _ _ e ⟨a, vs, h1, h2, h3⟩ => ⟨a, vs, h1, e _ _ h2, h3.mono m.mo e⟩⟩
instance {Rs : List VP} [m : MoA Rs] : Mo (RT Rs) := ⟨fun _ _ _ e ⟨a, vs, h1, h2, h3⟩ => ⟨a, vs, h1, e _ _ h2, h3.mono m.mo e⟩⟩
/-- one of two -/
def ROr (P S : VP) : VP := fun v G => P v G ∨ S v G
instance {P S : VP} [a : Mo P] [b : Mo S] : Mo (ROr P S) := ⟨fun v G G' e h => h.elim (fun h => .inl (a.mo v G G' e h)) fun h => .inr (b.mo v G G' e h)⟩
/-- and something apart from the heap -/
def RAnd (P : VP) (p : Prop) : VP := fun v G => P v G ∧ p
instance {P : VP} {p : Prop} [a : Mo P] : Mo (RAnd P p) := ⟨fun v G G' e h => ⟨a.mo v G G' e h.1, h.2⟩⟩
def REx {T : Type} (P : T → VP) : VP := fun v G => ∃ x, P x v G
instance {T : Type} {P : T → VP} [a : ∀ x, Mo (P x)] : Mo (REx P) := ⟨fun v G G' e ⟨x, h⟩ => ⟨x, (a x).mo v G G' e h⟩⟩
/-! ### rules -/
section
variable {K : PySem.W.Frag} {σ : L2.St} {G G' H : Hp} {cs cs' : List (Addr × HO)} {te ta tb : TE} {P P1 P2 P3 : VP} {v : V}
theorem EvP.up [m : Mo P] (h : EvP te σ G cs P) (e : L2.Same G G') : EvP te σ G' cs P := fun H s hc Q q =>
  h H (e.trans s) (hc.down e) Q fun v G2 H2 w p => by
    obtain ⟨w2, s2⟩ := w.up e s
    exact q v _ H2 w2 (m.mo _ _ _ s2 p)
theorem EvP.wk (h : EvP te σ G cs P) (e : ∀ c ∈ cs, c ∈ cs') : EvP te σ G cs' P := fun H s hc Q q => h H s (hc.sub e) Q q
theorem EvT.up {tt : TT} {b : Bool} (h : EvT tt σ G cs b) (e : L2.Same G G') : EvT tt σ G' cs b := fun H s hc Q q =>
  h H (e.trans s) (hc.down e) Q fun G2 H2 w => (w.up e s).1 |> q _ H2
theorem EvT.wk {tt : TT} {b : Bool} (h : EvT tt σ G cs b) (e : ∀ c ∈ cs, c ∈ cs') : EvT tt σ G cs' b := fun H s hc Q q => h H s (hc.sub e) Q q
theorem EvP.imp (h : EvP te σ G cs P) (i : ∀ v G2, L2.Same G G2 → P v G2 → P1 v G2) : EvP te σ G cs P1 := fun H s hc Q q =>
  h H s hc Q fun v G2 H2 w p => q v G2 H2 w (i v G2 w.g p)
theorem ev_var {i : Nat} (h : σ[i]? = some (some v)) (p : P v G) : EvP (tVar i) σ G cs P := fun H s hc Q q => ⟨v, h, q v G H (.refl s) p⟩
theorem ev_c : EvP (tC v) σ G cs (RV v) := fun H s hc Q q => q v G H (.refl s) rfl
/-- an operation on two values -/
def RvP (cs : List (Addr × HO)) (r : R2) (P1 P2 P3 : VP) : Prop := ∀ x y G, P1 x G → P2 y G → ∀ H, L2.Same G H → HC cs G H → ∀ Q : VK, (∀ v G2 H2, Gw G H G2 H2 → P3 v G2 → Q v H2) → r x y H Q
def UnP (cs : List (Addr × HO)) (r : V → Hp → VK → Prop) (P1 P3 : VP) : Prop := ∀ x G, P1 x G → ∀ H, L2.Same G H → HC cs G H → ∀ Q : VK, (∀ v G2 H2, Gw G H G2 H2 → P3 v G2 → Q v H2) → r x H Q
theorem ev_op {r : R2} [m1 : Mo P1] [m2 : Mo P2] (ha : EvP ta σ G cs P1) (hb : EvP tb σ G cs P2) (hr : RvP cs r P1 P2 P3) : EvP (tOp r ta tb) σ G cs P3 := fun H s hc Q q =>
  ha H s hc _ fun x G1 H1 w1 p1 => (hb.up w1.g) H1 w1.s (hc.up w1) _ fun y G2 H2 w2 p2 =>
    hr x y G2 (m1.mo _ _ _ w2.g p1) p2 H2 w2.s ((hc.up w1).up w2) Q fun v G3 H3 w3 p3 => q v G3 H3 ((w1.trans w2).trans w3) p3
theorem ev_un {r : V → Hp → VK → Prop} (ha : EvP ta σ G cs P1) (hr : UnP cs r P1 P3) : EvP (tUn r ta) σ G cs P3 := fun H s hc Q q =>
  ha H s hc _ fun x G1 H1 w1 p1 => hr x G1 p1 H1 w1.s (hc.up w1) Q fun v G3 H3 w3 p3 => q v G3 H3 (w1.trans w3) p3
theorem rv_I0 {g : Int → Int → V} {i j : Int} : RvP cs (rI0 g) (RV (.int i)) (RV (.int j)) (RV (g i j)) := fun x y G p1 p2 H s hc Q q => ⟨i, j, p1, p2, q _ G H (.refl s) rfl⟩
theorem rv_I {C : Int → Int → Prop} {g : Int → Int → V} {i j : Int} (h : C i j) : RvP cs (rI C g) (RV (.int i)) (RV (.int j)) (RV (g i j)) := fun x y G p1 p2 H s hc Q q => ⟨i, j, p1, p2, h, q _ G H (.refl s) rfl⟩
theorem ru_I {g : Int → V} {i : Int} : UnP cs (rU g) (RV (.int i)) (RV (g i)) := fun x G p1 H s hc Q q => ⟨i, p1, q _ G H (.refl s) rfl⟩
theorem rv_eq {a b : V} (h : scal a b = true) : RvP cs rEq (RV a) (RV b) (RV (.bl (decide (a = b)))) := fun x y G p1 p2 H s hc Q q => by
  obtain rfl : x = a := p1
  obtain rfl : y = b := p2
  exact ⟨h, q _ G H (.refl s) rfl⟩
theorem rv_ne {a b : V} (h : scal a b = true) : RvP cs rNe (RV a) (RV b) (RV (.bl (!decide (a = b)))) := fun x y G p1 p2 H s hc Q q => by
  obtain rfl : x = a := p1
  obtain rfl : y = b := p2
  exact ⟨h, q _ G H (.refl s) rfl⟩
theorem rv_ixL {Rs : List VP} {R : VP} {i : Nat} (h : Rs[i]? = some R) : RvP cs (rIxL K) (RL Rs) (RV (.int (i : Int))) R := fun x y G p1 p2 H s hc Q q => by
  obtain ⟨a, vs, rfl, hs, hf⟩ := p1
  obtain rfl : y = .int (i : Int) := p2
  obtain ⟨v, hv, hR⟩ := hf.get h
  exact ⟨a, vs, _, v, rfl, rfl, .inl (.inl (s _ _ hs)), atI_nat hv, q v G H (.refl s) hR⟩
theorem rv_ixT {Rs : List VP} {R : VP} {i : Nat} (h : Rs[i]? = some R) : RvP cs (rIxT K) (RT Rs) (RV (.int (i : Int))) R := fun x y G p1 p2 H s hc Q q => by
  obtain ⟨a, vs, rfl, hs, hf⟩ := p1
  obtain rfl : y = .int (i : Int) := p2
  obtain ⟨v, hv, hR⟩ := hf.get h
  exact ⟨a, vs, _, v, rfl, rfl, .inl (.inl (s _ _ hs)), atI_nat hv, q v G H (.refl s) hR⟩
/-! ### arguments, displays -/
theorem ea_nil : EvA tNil σ G cs (F2 []) := fun H s hc Q q => q [] G H (.refl s) trivial
theorem ea_cons {tr : TA} {Rs : List VP} [m1 : Mo P1] [m2 : MoA Rs] (h : EvP ta σ G cs P1) (hr : EvA tr σ G cs (F2 Rs)) : EvA (tCons ta tr) σ G cs (F2 (P1 :: Rs)) := fun H s hc Q q =>
  h H s hc _ fun x G1 H1 w1 p1 => by
    have hr' : EvA tr σ G1 cs (F2 Rs) := fun H s hc Q q => hr H (w1.g.trans s) (hc.down w1.g) Q fun v G2 H2 w p => by
      obtain ⟨w2, s2⟩ := w.up w1.g s
      exact q v _ H2 w2 (p.mono m2.mo s2)
    exact hr' H1 w1.s (hc.up w1) _ fun xs G2 H2 w2 p2 => q (x :: xs) G2 H2 (w1.trans w2) ⟨m1.mo _ _ _ w2.g p1, p2⟩
theorem ev_tup {t : TA} {Rs : List VP} [m : MoA Rs] (h : EvA t σ G cs (F2 Rs)) (hl : Rs.length ≤ 1000 := by simp) : EvP (tTup t) σ G cs (RT Rs) := fun H s hc Q q =>
  h H s hc _ fun xs G1 H1 w1 p1 => ⟨by rw [← p1.len]; exact Nat.le_trans hl (by decide), fun p hp => q _ _ _ (w1.trans (.new w1.s hp))
    ⟨p, xs, rfl, upd_same, p1.mono m.mo (same_new (w1.s.free hp))⟩⟩
theorem ev_lst {t : TA} {Rs : List VP} [m : MoA Rs] (h : EvA t σ G cs (F2 Rs)) (hl : Rs.length ≤ 1000 := by simp) : EvP (tLst t) σ G cs (RL Rs) := fun H s hc Q q =>
  h H s hc _ fun xs G1 H1 w1 p1 => ⟨by rw [← p1.len]; exact Nat.le_trans hl (by decide), fun p hp => q _ _ _ (w1.trans (.new w1.s hp))
    ⟨p, xs, rfl, upd_same, p1.mono m.mo (same_new (w1.s.free hp))⟩⟩
/-! ### tests -/
theorem et_test {b : Bool} (h : EvP te σ G cs (RV (.bl b))) : EvT (tTest te) σ G cs b := fun H s hc Q q => h H s hc _ fun v G2 H2 w p => ⟨b, p, q G2 H2 w⟩
theorem et_B {b : Bool} (h : EvP te σ G cs (RV (.bl b))) : EvT (tB te) σ G cs b := fun H s hc Q q => h H s hc _ fun v G2 H2 w p => ⟨b, p, q G2 H2 w⟩
theorem et_yes : EvT tYes σ G cs true := fun H s hc Q q => q G H (.refl s)
theorem et_and {t u : TT} {a b : Bool} (h1 : EvT t σ G cs a) (h2 : a = true → EvT u σ G cs b) : EvT (tAnd t u) σ G cs (a && b) := fun H s hc Q q => h1 H s hc _ fun G1 H1 w1 => by
  cases a with
  | true => exact ((h2 rfl).up w1.g) H1 w1.s (hc.up w1) Q fun G2 H2 w2 => q G2 H2 (w1.trans w2)
  | false => exact q G1 H1 w1
theorem et_or {t u : TT} {a b : Bool} (h1 : EvT t σ G cs a) (h2 : a = false → EvT u σ G cs b) : EvT (tOr t u) σ G cs (a || b) := fun H s hc Q q => h1 H s hc _ fun G1 H1 w1 => by
  cases a with
  | false => exact ((h2 rfl).up w1.g) H1 w1.s (hc.up w1) Q fun G2 H2 w2 => q G2 H2 (w1.trans w2)
  | true => exact q G1 H1 w1
theorem et_not {t : TT} {a : Bool} (h1 : EvT t σ G cs a) : EvT (tNot t) σ G cs (!a) := fun H s hc Q q => h1 H s hc _ fun G1 H1 w1 => q G1 H1 w1
theorem EvT.is {t : TT} {a b : Bool} (h : EvT t σ G cs a) (e : a = b) : EvT t σ G cs b := e ▸ h
theorem EvP.is {a b : V} (h : EvP te σ G cs (RV a)) (e : a = b) : EvP te σ G cs (RV b) := e ▸ h
theorem ev_andV {a b : Bool} (h1 : EvP ta σ G cs (RV (.bl a))) (h2 : a = true → EvP tb σ G cs (RV (.bl b))) : EvP (tAndV ta tb) σ G cs (RV (.bl (a && b))) := fun H s hc Q q => h1 H s hc _ fun v G1 H1 w1 p => ⟨a, p, by
  cases a with
  | true => exact ((h2 rfl).up w1.g) H1 w1.s (hc.up w1) Q fun v G2 H2 w2 p2 => q v G2 H2 (w1.trans w2) p2
  | false => exact q _ G1 H1 w1 rfl⟩
theorem ev_orV {a b : Bool} (h1 : EvP ta σ G cs (RV (.bl a))) (h2 : a = false → EvP tb σ G cs (RV (.bl b))) : EvP (tOrV ta tb) σ G cs (RV (.bl (a || b))) := fun H s hc Q q => h1 H s hc _ fun v G1 H1 w1 p => ⟨a, p, by
  cases a with
  | false => exact ((h2 rfl).up w1.g) H1 w1.s (hc.up w1) Q fun v G2 H2 w2 p2 => q v G2 H2 (w1.trans w2) p2
  | true => exact q _ G1 H1 w1 rfl⟩
theorem ev_notV {a : Bool} (h1 : EvP ta σ G cs (RV (.bl a))) : EvP (tNotV ta) σ G cs (RV (.bl (!a))) := fun H s hc Q q => h1 H s hc _ fun v G1 H1 w1 p => ⟨a, p, q _ G1 H1 w1 rfl⟩
theorem ev_if {t : TT} {b : Bool} [m : Mo P] (h : EvT t σ G cs b) (h1 : b = true → EvP ta σ G cs P) (h2 : b = false → EvP tb σ G cs P) : EvP (tIf t ta tb) σ G cs P := fun H s hc Q q => h H s hc _ fun G1 H1 w1 => by
  cases b with
  | true => exact ((h1 rfl).up w1.g) H1 w1.s (hc.up w1) Q fun v G2 H2 w2 p => q v G2 H2 (w1.trans w2) p
  | false => exact ((h2 rfl).up w1.g) H1 w1.s (hc.up w1) Q fun v G2 H2 w2 p => q v G2 H2 (w1.trans w2) p
/-! ### calls by values -/
def RcP (cs : List (Addr × HO)) (r : List V → Hp → VK → Prop) (P : List V → Hp → Prop) (P3 : VP) : Prop := ∀ xs G, P xs G → ∀ H, L2.Same G H → HC cs G H → ∀ Q : VK, (∀ v G2 H2, Gw G H G2 H2 → P3 v G2 → Q v H2) → r xs H Q
theorem ev_CB {r : List V → Hp → VK → Prop} {t : TA} {PA : List V → Hp → Prop} (h : EvA t σ G cs PA) (hr : RcP cs r PA P3) : EvP (tCB r t) σ G cs P3 := fun H s hc Q q =>
  h H s hc _ fun xs G1 H1 w1 p1 => hr xs G1 p1 H1 w1.s (hc.up w1) Q fun v G2 H2 w2 p2 => q v G2 H2 (w1.trans w2) p2
/-- a def's promise of the plain kind: the cells cs stand, arguments as In says; the answer as Out says, all else as it was -/
def SpP (cs : List (Addr × HO)) (In : List V → Hp → Prop) (Out : VP) (sp : Sp) : Prop := ∀ vs G, In vs G → ∀ H, L2.Same G H → HC cs G H → ∀ Q : VK, (∀ v G2 H2, Gw G H G2 H2 → Out v G2 → Q v H2) → sp vs H Q E0
theorem ev_call {sp : Sp} {t : TA} {PA : List V → Hp → Prop} (h : EvA t σ G cs PA) (hr : SpP cs PA P3 sp) : EvP (tCall sp [] E0 t) σ G cs P3 := fun H s hc Q q =>
  h H s hc _ fun xs G1 H1 w1 p1 => by
    rw [List.append_nil]
    exact hr xs G1 p1 H1 w1.s (hc.up w1) Q fun v G2 H2 w2 p2 => q v G2 H2 (w1.trans w2) p2
end
/-! ### the state of a body: its entry, the ghost, the cells -/
structure Cel (G0 H0 G H : Hp) (cs : List (Addr × HO)) : Prop where
  w : Gw G0 H0 G H
  at_ : ∀ c ∈ cs, H c.1 = some c.2 ∧ G c.1 = none ∧ H0 c.1 = none
  nd : (cs.map (·.1)).Nodup
section
variable {G0 H0 G H G2 H2 : Hp} {cs : List (Addr × HO)} {l : Addr} {o o' : HO}
theorem Cel.start (s : L2.Same G0 H0) : Cel G0 H0 G0 H0 [] := ⟨.refl s, fun c h => by simp at h, List.nodup_nil⟩
theorem Cel.s (c : Cel G0 H0 G H cs) : L2.Same G H := c.w.s
theorem Cel.hc (c : Cel G0 H0 G H cs) : HC cs G H := fun x hx => ⟨(c.at_ x hx).1, (c.at_ x hx).2.1⟩
theorem Cel.go (c : Cel G0 H0 G H cs) (w : Gw G H G2 H2) : Cel G0 H0 G2 H2 cs :=
  ⟨c.w.trans w, fun x hx => ⟨w.h _ _ (c.at_ x hx).1, w.f _ _ (c.at_ x hx).1 (c.at_ x hx).2.1, (c.at_ x hx).2.2⟩, c.nd⟩
/-- a new cell -/
theorem Cel.new (c : Cel G0 H0 G H cs) (hp : H l = none) : Cel G0 H0 G (upd H l o) ((l, o) :: cs) := by
  refine ⟨c.w.trans (.newH c.s hp), fun x hx => ?_, ?_⟩
  · rcases List.mem_cons.mp hx with rfl | hx
    · exact ⟨upd_same, c.s.free hp, c.w.h.free hp⟩
    · obtain ⟨h1, h2, h3⟩ := c.at_ x hx
      exact ⟨by rw [upd_ne (ne_of_none h1 hp)]; exact h1, h2, h3⟩
  · rw [List.map_cons, List.nodup_cons]
    refine ⟨fun hm => ?_, c.nd⟩
    obtain ⟨x, hx, e⟩ := List.mem_map.mp hm
    have := (c.at_ x hx).1
    rw [e, hp] at this
    cases this
/-- a cell is written -/
theorem Cel.put (c : Cel G0 H0 G H ((l, o) :: cs)) (o' : HO) : Cel G0 H0 G (upd H l o') ((l, o') :: cs) := by
  obtain ⟨h1, h2, h3⟩ := c.at_ (l, o) List.mem_cons_self
  have hn := (List.nodup_cons.mp c.nd).1
  have ne : ∀ {x u}, G x = some u → x ≠ l := fun {x u} e z => by subst z; rw [h2] at e; cases e
  have ne0 : ∀ {x u}, H0 x = some u → x ≠ l := fun {x u} e z => by subst z; rw [h3] at e; cases e
  refine ⟨⟨c.w.g, fun x u e => by rw [upd_ne (ne0 e)]; exact c.w.h x u e, fun x u e => by rw [upd_ne (ne e)]; exact c.w.s x u e, c.w.f⟩, fun x hx => ?_, c.nd⟩
  rcases List.mem_cons.mp hx with rfl | hx
  · exact ⟨upd_same, h2, h3⟩
  · obtain ⟨k1, k2, k3⟩ := c.at_ x (List.mem_cons_of_mem _ hx)
    refine ⟨?_, k2, k3⟩
    rw [upd_ne fun z => hn (by
      have q := List.mem_map_of_mem (f := fun (p : Addr × HO) => p.1) hx
      rw [← z]
      exact q)]
    exact k1
/-- a cell is no more written -/
theorem Cel.freeze (c : Cel G0 H0 G H ((l, o) :: cs)) : Cel G0 H0 (upd G l o) H cs ∧ L2.Same G (upd G l o) := by
  obtain ⟨h1, h2, h3⟩ := c.at_ (l, o) List.mem_cons_self
  have hn := (List.nodup_cons.mp c.nd).1
  refine ⟨⟨⟨c.w.g.trans (same_new h2), c.w.h, fun x u e => ?_, fun x u e1 e2 => ?_⟩, fun x hx => ?_, (List.nodup_cons.mp c.nd).2⟩, same_new h2⟩
  · by_cases z : x = l
    · subst z; rw [upd_same] at e; cases e; exact h1
    · rw [upd_ne z] at e; exact c.w.s x u e
  · rw [upd_ne fun z => by subst z; rw [h3] at e1; cases e1]
    exact c.w.f x u e1 e2
  · obtain ⟨k1, k2, k3⟩ := c.at_ x (List.mem_cons_of_mem _ hx)
    refine ⟨k1, ?_, k3⟩
    rw [upd_ne fun z => hn (by
      have q := List.mem_map_of_mem (f := fun (p : Addr × HO) => p.1) hx
      rw [← z]
      exact q)]
    exact k2
theorem Cel.drop (c : Cel G0 H0 G H ((l, o) :: cs)) : Cel G0 H0 G H cs := ⟨c.w, fun x hx => c.at_ x (List.mem_cons_of_mem _ hx), (List.nodup_cons.mp c.nd).2⟩
theorem Cel.perm {cs' : List (Addr × HO)} (c : Cel G0 H0 G H cs) (p : cs'.Perm cs) : Cel G0 H0 G H cs' := ⟨c.w, fun x hx => c.at_ x (p.mem_iff.mp hx), (p.map _).symm.nodup c.nd⟩
theorem Cel.swap {c1 c2 : Addr × HO} (c : Cel G0 H0 G H (c1 :: c2 :: cs)) : Cel G0 H0 G H (c2 :: c1 :: cs) := c.perm (.swap _ _ _)
theorem Cel.hd (c : Cel G0 H0 G H ((l, o) :: cs)) : H l = some o := (c.at_ (l, o) List.mem_cons_self).1
theorem Cel.hd2 {c1 : Addr × HO} (c : Cel G0 H0 G H (c1 :: (l, o) :: cs)) : H l = some o := (c.at_ (l, o) (List.mem_cons_of_mem _ List.mem_cons_self)).1
theorem Cel.hd3 {c1 c2 : Addr × HO} (c : Cel G0 H0 G H (c1 :: c2 :: (l, o) :: cs)) : H l = some o := (c.at_ (l, o) (List.mem_cons_of_mem _ (List.mem_cons_of_mem _ List.mem_cons_self))).1
/-! ### cells of the caller -/
/-- the heap without these cells -/
def mask (H : Hp) (cs : List (Addr × HO)) : Hp := fun a => if a ∈ cs.map (·.1) then none else H a
theorem mask_in {c : Addr × HO} (h : c ∈ cs) : mask H cs c.1 = none := if_pos (List.mem_map_of_mem h)
theorem mask_out {a : Addr} (h : a ∉ cs.map (·.1)) : mask H cs a = H a := if_neg h
theorem mask_some {a : Addr} {u : HO} (h : mask H cs a = some u) : H a = some u ∧ a ∉ cs.map (·.1) := by
  by_cases q : a ∈ cs.map (·.1)
  · unfold mask at h; rw [if_pos q] at h; cases h
  · rw [mask_out q] at h; exact ⟨h, q⟩
/-- a body's start with the caller's cells -/
theorem Cel.given (s : L2.Same G H) (hc : HC cs G H) (nd : (cs.map (·.1)).Nodup) : Cel G (mask H cs) G H cs :=
  ⟨⟨.refl _, fun a u e => (mask_some e).1, s, fun _ _ _ e => e⟩, fun c h => ⟨(hc c h).1, (hc c h).2, mask_in h⟩, nd⟩
/-- the caller's cells were only read -/
theorem Cel.read {cs0 : List (Addr × HO)} (c : Cel G0 (mask H0 cs0) G H cs) (hc : HC cs0 G0 H0) (hs : ∀ x ∈ cs0, x ∈ cs) : Gw G0 H0 G H := by
  have hin : ∀ {a u}, H0 a = some u → a ∈ cs0.map (·.1) → H a = some u ∧ G a = none := fun {a u} e q => by
    obtain ⟨x, hx, rfl⟩ := List.mem_map.mp q
    have h1 := (hc x hx).1
    rw [e] at h1
    cases h1
    exact ⟨(c.at_ x (hs x hx)).1, (c.at_ x (hs x hx)).2.1⟩
  refine ⟨c.w.g, fun a u e => ?_, c.w.s, fun a u e1 e2 => ?_⟩
  · by_cases q : a ∈ cs0.map (·.1)
    · exact (hin e q).1
    · exact c.w.h a u (by rw [mask_out q]; exact e)
  · by_cases q : a ∈ cs0.map (·.1)
    · exact (hin e1 q).2
    · exact c.w.f a u (by rw [mask_out q]; exact e1) e2
/-- a call that has written the caller's first cell -/
theorem Cel.wrote (c : Cel G0 H0 G H ((l, o) :: cs)) (w : Gw G (mask H [(l, o)]) G2 H2) (h : H2 l = some o') (g : G2 l = none) : Cel G0 H0 G2 H2 ((l, o') :: cs) := by
  obtain ⟨h1, h2, h3⟩ := c.at_ (l, o) List.mem_cons_self
  have hn := (List.nodup_cons.mp c.nd).1
  have ne : ∀ {x : Addr}, x ≠ l → mask H [(l, o)] x = H x := fun {x} z => mask_out (by simpa using z)
  refine ⟨⟨c.w.g.trans w.g, fun x u e => ?_, w.s, fun x u e1 e2 => ?_⟩, fun x hx => ?_, c.nd⟩
  · have z : x ≠ l := fun z => by subst z; rw [h3] at e; cases e
    exact w.h x u (by rw [ne z]; exact c.w.h x u e)
  · have z : x ≠ l := fun z => by subst z; rw [h3] at e1; cases e1
    exact w.f x u (by rw [ne z]; exact c.w.h x u e1) (c.w.f x u e1 e2)
  · rcases List.mem_cons.mp hx with rfl | hx
    · exact ⟨h, g, h3⟩
    · obtain ⟨k1, k2, k3⟩ := c.at_ x (List.mem_cons_of_mem _ hx)
      have z : x.1 ≠ l := fun z => hn (by
        have q := List.mem_map_of_mem (f := fun (p : Addr × HO) => p.1) hx
        rw [← z]
        exact q)
      exact ⟨w.h _ _ (by rw [ne z]; exact k1), w.f _ _ (by rw [ne z]; exact k1) k2, k3⟩
end
end KW
end
section
set_option Elab.async false
set_option linter.all false
set_option maxRecDepth 100000
namespace KW
open PySem L2
/-! ### new cells -/
def EvN (te : TE) (σ : L2.St) (G : Hp) (cs : List (Addr × HO)) (P : HO → Hp → Prop) : Prop := ∀ H, L2.Same G H → HC cs G H → ∀ Q : VK,
  (∀ D o G2 H2, H D = none → Gw G H G2 H2 → G2 D = none → H2 D = some o → P o G2 → Q (.ref D) H2) → te σ H Q
section
variable {K : PySem.W.Frag} {σ : L2.St} {G0 H0 G H : Hp} {cs : List (Addr × HO)} {te ta tb : TE} {P P1 P2 : VP} {D : Ends} {u tu tw tb' : TS} {i : Nat}
/-! ### statements -/
theorem q_set (c : Cel G0 H0 G H cs) (h : EvP te σ G cs P) (k : ∀ v G2 H2, Cel G0 H0 G2 H2 cs → L2.Same G G2 → P v G2 → u D (σ.set i (some v)) H2) : tSeq (tAsg te (gName i)) u D σ H :=
  h H c.s c.hc _ fun v G2 H2 w p => k v G2 H2 (c.go w) w.g p
theorem s_set (c : Cel G0 H0 G H cs) (h : EvP te σ G cs P) (k : ∀ v G2 H2, Cel G0 H0 G2 H2 cs → L2.Same G G2 → P v G2 → D.nx (σ.set i (some v)) H2) : tAsg te (gName i) D σ H :=
  h H c.s c.hc _ fun v G2 H2 w p => k v G2 H2 (c.go w) w.g p
theorem Cel.made {G2 H2 : Hp} {l : Addr} {o : HO} (c : Cel G0 H0 G H cs) (hl : H l = none) (w : Gw G H G2 H2) (hg : G2 l = none) (ho : H2 l = some o) : Cel G0 H0 G2 H2 ((l, o) :: cs) := by
  have c2 := c.go w
  refine ⟨c2.w, fun x hx => ?_, ?_⟩
  · rcases List.mem_cons.mp hx with rfl | hx
    · exact ⟨ho, hg, c.w.h.free hl⟩
    · exact c2.at_ x hx
  · rw [List.map_cons, List.nodup_cons]
    refine ⟨fun hm => ?_, c.nd⟩
    obtain ⟨x, hx, e⟩ := List.mem_map.mp hm
    have := (c.at_ x hx).1
    rw [e, hl] at this
    cases this
theorem q_setN {P : HO → Hp → Prop} (c : Cel G0 H0 G H cs) (h : EvN te σ G cs P) (k : ∀ l o G2 H2, Cel G0 H0 G2 H2 ((l, o) :: cs) → L2.Same G G2 → P o G2 → u D (σ.set i (some (.ref l))) H2) : tSeq (tAsg te (gName i)) u D σ H :=
  h H c.s c.hc _ fun l o G2 H2 hl w hg ho p => k l o G2 H2 (c.made hl w hg ho) w.g p
theorem s_setN {P : HO → Hp → Prop} (c : Cel G0 H0 G H cs) (h : EvN te σ G cs P) (k : ∀ l o G2 H2, Cel G0 H0 G2 H2 ((l, o) :: cs) → L2.Same G G2 → P o G2 → D.nx (σ.set i (some (.ref l))) H2) : tAsg te (gName i) D σ H :=
  h H c.s c.hc _ fun l o G2 H2 hl w hg ho p => k l o G2 H2 (c.made hl w hg ho) w.g p
theorem en_nil : EvN (tLst tNil) σ G cs (fun o _ => o = .lst []) := fun H s hc Q q => ⟨Nat.zero_le _, fun p hp => q p _ G _ hp (.newH s hp) (s.free hp) upd_same rfl⟩
theorem en_dK : EvN tDNewK σ G cs (fun o _ => o = .dK []) := fun H s hc Q q => fun p hp => q p _ G _ hp (.newH s hp) (s.free hp) upd_same rfl
theorem en_dT : EvN tDNewT σ G cs (fun o _ => o = .dT []) := fun H s hc Q q => fun p hp => q p _ G _ hp (.newH s hp) (s.free hp) upd_same rfl
/-- a new list as a cell that need not be written -/
theorem EvN.frz {Rs : List VP} [m : MoA Rs] (h : EvN te σ G cs (fun o G2 => ∃ vs, o = .lst vs ∧ F2 Rs vs G2)) : EvP te σ G cs (RL Rs) := fun H s hc Q q =>
  h H s hc Q fun l o G2 H2 hl w hg ho p => by
    obtain ⟨vs, rfl, hf⟩ := p
    obtain ⟨c, s2⟩ := ((Cel.start s).made hl w hg ho).freeze
    exact q _ _ H2 c.w ⟨l, vs, rfl, upd_same, hf.mono m.mo s2⟩
theorem q_if {t : TT} {b : Bool} (c : Cel G0 H0 G H cs) (h : EvT t σ G cs b) (h1 : b = true → ∀ G2 H2, Cel G0 H0 G2 H2 cs → L2.Same G G2 → tu { D with nx := u D } σ H2) (h2 : b = false → ∀ G2 H2, Cel G0 H0 G2 H2 cs → L2.Same G G2 → tw { D with nx := u D } σ H2) :
    tSeq (tIfS t tu tw) u D σ H := h H c.s c.hc _ fun G2 H2 w => by
  cases b with
  | true => exact h1 rfl G2 H2 (c.go w) w.g
  | false => exact h2 rfl G2 H2 (c.go w) w.g
theorem s_if {t : TT} {b : Bool} (c : Cel G0 H0 G H cs) (h : EvT t σ G cs b) (h1 : b = true → ∀ G2 H2, Cel G0 H0 G2 H2 cs → L2.Same G G2 → tu D σ H2) (h2 : b = false → ∀ G2 H2, Cel G0 H0 G2 H2 cs → L2.Same G G2 → tw D σ H2) :
    tIfS t tu tw D σ H := h H c.s c.hc _ fun G2 H2 w => by
  cases b with
  | true => exact h1 rfl G2 H2 (c.go w) w.g
  | false => exact h2 rfl G2 H2 (c.go w) w.g
theorem s_ret (c : Cel G0 H0 G H cs) (h : EvP te σ G cs P) (k : ∀ v G2 H2, Cel G0 H0 G2 H2 cs → L2.Same G G2 → P v G2 → D.rt v H2) : tRet te D σ H :=
  h H c.s c.hc _ fun v G2 H2 w p => k v G2 H2 (c.go w) w.g p
theorem s_drop (c : Cel G0 H0 G H cs) (h : EvP te σ G cs P) (k : ∀ v G2 H2, Cel G0 H0 G2 H2 cs → L2.Same G G2 → P v G2 → D.nx σ H2) : tDrop te D σ H :=
  h H c.s c.hc _ fun v G2 H2 w p => k v G2 H2 (c.go w) w.g p
theorem q_drop (c : Cel G0 H0 G H cs) (h : EvP te σ G cs P) (k : ∀ v G2 H2, Cel G0 H0 G2 H2 cs → L2.Same G G2 → P v G2 → u D σ H2) : tSeq (tDrop te) u D σ H :=
  h H c.s c.hc _ fun v G2 H2 w p => k v G2 H2 (c.go w) w.g p
/-- a list in a cell grows -/
theorem s_app {l : Addr} {xs : List V} (c : Cel G0 H0 G H ((l, .lst xs) :: cs)) (hl : σ[i]? = some (some (.ref l))) (h : EvP te σ G ((l, .lst xs) :: cs) P) (hz : xs.length ≤ 1000)
    (k : ∀ v G2 H2, Cel G0 H0 G2 H2 ((l, .lst (xs ++ [v])) :: cs) → L2.Same G G2 → P v G2 → D.nx σ H2) : tDrop (tBM K "list" rAppend (tVar i) (tCons te tNil)) D σ H :=
  ⟨.ref l, hl, .inl ⟨rfl, _, .inl (.inl c.hd)⟩, h H c.s c.hc _ fun v G2 H2 w p => ⟨l, xs, v, rfl, rfl, (c.go w).hd, small1000 hz, k v G2 _ ((c.go w).put _) w.g p⟩⟩
theorem q_app {l : Addr} {xs : List V} (c : Cel G0 H0 G H ((l, .lst xs) :: cs)) (hl : σ[i]? = some (some (.ref l))) (h : EvP te σ G ((l, .lst xs) :: cs) P) (hz : xs.length ≤ 1000)
    (k : ∀ v G2 H2, Cel G0 H0 G2 H2 ((l, .lst (xs ++ [v])) :: cs) → L2.Same G G2 → P v G2 → u D σ H2) : tSeq (tDrop (tBM K "list" rAppend (tVar i) (tCons te tNil))) u D σ H :=
  s_app (D := { D with nx := u D }) c hl h hz k
/-- xs[j] = e of a list in a cell -/
theorem s_setL {l : Addr} {xs : List V} {j : Nat} (c : Cel G0 H0 G H ((l, .lst xs) :: cs)) (h : EvP te σ G ((l, .lst xs) :: cs) P) (hl : σ[i]? = some (some (.ref l))) (hi : EvP tb σ G ((l, .lst xs) :: cs) (RV (.int (j : Int)))) (hj : j < xs.length) [m : Mo P]
    (k : ∀ v G2 H2, Cel G0 H0 G2 H2 ((l, .lst (xs.set j v)) :: cs) → L2.Same G G2 → P v G2 → D.nx σ H2) : tAsg te (gSub (tVar i) tb rSetL) D σ H :=
  h H c.s c.hc _ fun v G2 H2 w p => ⟨.ref l, hl, (hi.up w.g) H2 w.s (c.go w).hc _ fun x G3 H3 w3 p3 => by
    obtain rfl : x = .int (j : Int) := p3
    have c3 := (c.go w).go w3
    refine ⟨l, xs, _, j, rfl, rfl, c3.hd, ?_, k v G3 _ (c3.put _) (w.g.trans w3.g) (m.mo _ _ _ w3.g p)⟩
    unfold ixN
    rw [if_pos (Int.natCast_nonneg j), if_pos (by omega)]
    rfl⟩
theorem q_setL {l : Addr} {xs : List V} {j : Nat} (c : Cel G0 H0 G H ((l, .lst xs) :: cs)) (h : EvP te σ G ((l, .lst xs) :: cs) P) (hl : σ[i]? = some (some (.ref l))) (hi : EvP tb σ G ((l, .lst xs) :: cs) (RV (.int (j : Int)))) (hj : j < xs.length) [m : Mo P]
    (k : ∀ v G2 H2, Cel G0 H0 G2 H2 ((l, .lst (xs.set j v)) :: cs) → L2.Same G G2 → P v G2 → u D σ H2) : tSeq (tAsg te (gSub (tVar i) tb rSetL)) u D σ H :=
  s_setL (D := { D with nx := u D }) c h hl hi hj k
/-! ### what is walked -/
def Wk (J : It) (cs : List (Addr × HO)) (G0 : Hp) (n : Nat) (Y : Nat → VP) : Prop :=
  (∀ i G H, i < n → L2.Same G0 G → L2.Same G H → HC cs G H → J.go i H ∧ ∀ x H', J.yld i H x H' → ∃ G', Gw G H G' H' ∧ Y i x G') ∧ ∀ G H, L2.Same G0 G → L2.Same G H → HC cs G H → J.stop n H
def EvW (wi : TI) (σ : L2.St) (G : Hp) (cs : List (Addr × HO)) (n : Nat) (Y : Nat → VP) : Prop := ∀ H, L2.Same G H → HC cs G H → ∀ R : It → Hp → Prop, (∀ J G2 H2, Gw G H G2 H2 → Wk J cs G2 n Y → R J H2) → wi σ H R
/-- the i-th of some relations -/
def Ith (Rs : List VP) (i : Nat) : VP := fun v G => ∃ R, Rs[i]? = some R ∧ R v G
theorem Ith.of {Rs : List VP} {i : Nat} {R : VP} {v : V} {G : Hp} (h : Ith Rs i v G) (e : Rs[i]? = some R) : R v G := by
  obtain ⟨S, h1, h2⟩ := h
  rw [e] at h1
  cases h1
  exact h2
theorem Ith.map {T : Type} {l : List T} {f : T → VP} {i : Nat} {x : T} {v : V} {G : Hp} (h : Ith (l.map f) i v G) (e : l[i]? = some x) : f x v G := h.of (by rw [List.getElem?_map, e]; rfl)
theorem wk_list {a : Addr} {vs : List V} {Rs : List VP} [m : MoA Rs] (hs : SqL K G a vs) (hf : F2 Rs vs G) : Wk (Itl K a) cs G Rs.length (Ith Rs) := by
  refine ⟨fun i G1 H1 hi s1 s2 _ => ?_, fun G1 H1 s1 s2 _ => ⟨vs, s2.seq (s1.seq hs), by rw [hf.len]; exact Nat.le_refl _⟩⟩
  obtain ⟨v, hv, hR⟩ := hf.get (List.getElem?_eq_getElem hi)
  refine ⟨⟨vs, v, s2.seq (s1.seq hs), hv⟩, fun x H' y => ?_⟩
  obtain ⟨rfl, y⟩ := y
  have e := y vs (s2.seq (s1.seq hs))
  rw [hv] at e
  cases e
  exact ⟨G1, .refl s2, _, List.getElem?_eq_getElem hi, m.mo _ (List.getElem_mem hi) _ _ _ s1 hR⟩
theorem ew_list {Rs : List VP} [m : MoA Rs] (h : EvP ta σ G cs (RL Rs)) : EvW (iList K ta) σ G cs Rs.length (Ith Rs) := fun H s hc R q =>
  h H s hc _ fun v G2 H2 w p => by
    obtain ⟨a, vs, rfl, hs, hf⟩ := p
    exact ⟨a, rfl, ⟨vs, .inl (.inl (w.s _ _ hs))⟩, q _ G2 H2 w (wk_list (.inl (.inl hs)) hf)⟩
/-- a list in a cell that stays -/
theorem ew_cell {a : Addr} {vs : List V} {Rs : List VP} [m : MoA Rs] (h : EvP ta σ G cs (RV (.ref a))) (hm : (a, .lst vs) ∈ cs) (hf : F2 Rs vs G) : EvW (iList K ta) σ G cs Rs.length (Ith Rs) := fun H s hc R q =>
  h H s hc _ fun v G2 H2 w p => by
    obtain rfl : v = .ref a := p
    have hH : ∀ {G' H'}, HC cs G' H' → SqL K H' a vs := fun {G' H'} h' => .inl (.inl (h' _ hm).1)
    refine ⟨a, rfl, ⟨vs, hH (hc.up w)⟩, q _ G2 H2 w ⟨fun i G1 H1 hi s1 s2 hc1 => ?_, fun G1 H1 s1 s2 hc1 => ⟨vs, hH hc1, by rw [hf.len]; exact Nat.le_refl _⟩⟩⟩
    obtain ⟨v, hv, hR⟩ := hf.get (List.getElem?_eq_getElem hi)
    refine ⟨⟨vs, v, hH hc1, hv⟩, fun x H' y => ?_⟩
    obtain ⟨rfl, y⟩ := y
    have e := y vs (hH hc1)
    rw [hv] at e
    cases e
    exact ⟨G1, .refl s2, _, List.getElem?_eq_getElem hi, m.mo _ (List.getElem_mem hi) _ _ _ (w.g.trans s1) hR⟩
theorem wk_range {lo : Int} {n : Nat} : Wk (Itr lo n) cs G n (fun i => RV (.int (lo + i))) := by
  refine ⟨fun i G1 H1 hi s1 s2 _ => ⟨hi, fun x H' y => ?_⟩, fun G1 H1 s1 s2 _ => Nat.le_refl _⟩
  obtain ⟨rfl, y⟩ := y
  exact ⟨G1, .refl s2, y⟩
theorem ew_range {tA : TA} {n : Nat} (h : EvA tA σ G cs (F2 [RV (.int (n : Int))])) (hn : n ≤ 1000) : EvW (iRng1 tA) σ G cs n (fun i => RV (.int (i : Int))) := fun H s hc R q =>
  h H s hc _ fun vs G2 H2 w p => by
    obtain ⟨v, r, rfl, p1, p2⟩ := p.inv_cons
    obtain rfl := p2.inv_nil
    obtain rfl : v = .int (n : Int) := p1
    refine ⟨(n : Int), rfl, by omega, by omega, q _ G2 H2 w ?_⟩
    have e := wk_range (cs := cs) (G := G2) (lo := 0) (n := ((n : Int)).toNat)
    rw [Int.toNat_natCast] at e
    simp only [Int.zero_add] at e
    rw [Int.toNat_natCast]
    exact e
theorem ew_range2 {tA : TA} {lo n : Nat} (h : EvA tA σ G cs (F2 [RV (.int (lo : Int)), RV (.int (n : Int))])) (hl : lo ≤ 1000) (hn : n ≤ 1000) : EvW (iRng2 tA) σ G cs (n - lo) (fun i => RV (.int ((lo + i : Nat) : Int))) := fun H s hc R q =>
  h H s hc _ fun vs G2 H2 w p => by
    obtain ⟨v, r, rfl, p1, p2⟩ := p.inv_cons
    obtain ⟨v2, r2, rfl, p3, p4⟩ := p2.inv_cons
    obtain rfl := p4.inv_nil
    obtain rfl : v = .int (lo : Int) := p1
    obtain rfl : v2 = .int (n : Int) := p3
    refine ⟨(lo : Int), (n : Int), rfl, ⟨by omega, by omega, by omega, by omega⟩, q _ G2 H2 w ?_⟩
    have e := wk_range (cs := cs) (G := G2) (lo := (lo : Int)) (n := ((n : Int) - (lo : Int)).toNat)
    have e1 : ((n : Int) - (lo : Int)).toNat = n - lo := by omega
    rw [e1] at e ⊢
    simp only [Int.natCast_add]
    exact e
theorem ew_enum {tA : TA} {Rs : List VP} [m : MoA Rs] (h : EvA tA σ G cs (F2 [RL Rs])) : EvW (iEnum K tA) σ G cs Rs.length (fun i => RT [RV (.int (i : Int)), Ith Rs i]) := fun H s hc R q =>
  h H s hc _ fun vs G2 H2 w p => by
    obtain ⟨v, r, rfl, p1, p2⟩ := p.inv_cons
    obtain rfl := p2.inv_nil
    obtain ⟨a, xs, rfl, hs, hf⟩ := p1
    have hs : SqL K G2 a xs := .inl (.inl hs)
    refine ⟨a, xs, rfl, w.s.seq hs, q _ G2 H2 w ⟨fun i G1 H1 hi s1 s2 _ => ?_, fun G1 H1 s1 s2 _ => ⟨xs, s2.seq (s1.seq hs), by rw [hf.len]; exact Nat.le_refl _⟩⟩⟩
    obtain ⟨v, hv, hR⟩ := hf.get (List.getElem?_eq_getElem hi)
    refine ⟨⟨xs, v, s2.seq (s1.seq hs), hv⟩, fun x H' y => ?_⟩
    obtain ⟨T, z, rfl, hT, rfl, y⟩ := y
    have e := y xs (s2.seq (s1.seq hs))
    rw [hv] at e
    cases e
    refine ⟨_, .new s2 hT, T, _, rfl, upd_same, rfl, ⟨_, List.getElem?_eq_getElem hi, ?_⟩, trivial⟩
    exact m.mo _ (List.getElem_mem hi) _ _ _ (s1.trans (same_new (s2.free hT))) hR
theorem ew_zip {tA : TA} {Rs Ss : List VP} [m1 : MoA Rs] [m2 : MoA Ss] (h : EvA tA σ G cs (F2 [RL Rs, RL Ss])) (hl : Rs.length = Ss.length) : EvW (iZip K tA) σ G cs Rs.length (fun i => RT [Ith Rs i, Ith Ss i]) := fun H s hc R q =>
  h H s hc _ fun vs G2 H2 w p => by
    obtain ⟨v, r, rfl, p1, p2⟩ := p.inv_cons
    obtain ⟨v2, r2, rfl, p3, p4⟩ := p2.inv_cons
    obtain rfl := p4.inv_nil
    obtain ⟨a, xs, rfl, hs, hf⟩ := p1
    obtain ⟨b, ys, rfl, hs2, hf2⟩ := p3
    have hs : SqL K G2 a xs := .inl (.inl hs)
    have hs2 : SqL K G2 b ys := .inl (.inl hs2)
    refine ⟨a, b, xs, ys, rfl, w.s.seq hs, w.s.seq hs2, q _ G2 H2 w ⟨fun i G1 H1 hi s1 s2 _ => ?_, fun G1 H1 s1 s2 _ => ⟨xs, ys, s2.seq (s1.seq hs), s2.seq (s1.seq hs2), .inl (by rw [hf.len]; exact Nat.le_refl _)⟩⟩⟩
    have hi2 : i < Ss.length := by rw [← hl]; exact hi
    obtain ⟨v, hv, hR⟩ := hf.get (List.getElem?_eq_getElem hi)
    obtain ⟨v2, hv2, hR2⟩ := hf2.get (List.getElem?_eq_getElem hi2)
    refine ⟨⟨xs, ys, v, v2, s2.seq (s1.seq hs), s2.seq (s1.seq hs2), hv, hv2⟩, fun x H' y => ?_⟩
    obtain ⟨T, z, z2, rfl, hT, rfl, y1, y2⟩ := y
    have e := y1 xs (s2.seq (s1.seq hs))
    rw [hv] at e
    cases e
    have e := y2 ys (s2.seq (s1.seq hs2))
    rw [hv2] at e
    cases e
    have st := s1.trans (same_new (o := HO.tup [v, v2]) (s2.free hT))
    exact ⟨_, .new s2 hT, T, _, rfl, upd_same, ⟨_, List.getElem?_eq_getElem hi, m1.mo _ (List.getElem_mem hi) _ _ _ st hR⟩, ⟨_, List.getElem?_eq_getElem hi2, m2.mo _ (List.getElem_mem hi2) _ _ _ st hR2⟩, trivial⟩
theorem g_tup2 {x : V} {a b : Nat} {k : L2.St → Hp → Prop} (h : RT [P1, P2] x G) (s : L2.Same G H) (q : ∀ y z, P1 y G → P2 z G → k ((σ.set a (some y)).set b (some z)) H) : gTup K 2 (gCons (gName a) (gCons (gName b) gNil)) x σ H k := by
  obtain ⟨t, vs, rfl, hs, hf⟩ := h
  obtain ⟨v, r, rfl, p1, p2⟩ := hf.inv_cons
  obtain ⟨v2, r2, rfl, p3, p4⟩ := p2.inv_cons
  obtain rfl := p4.inv_nil
  exact ⟨t, [v, v2], rfl, .inl (.inl (s _ _ hs)), rfl, v, [v2], rfl, v2, [], rfl, rfl, q v v2 p1 p3⟩
theorem g_tup3 {P3 : VP} {x : V} {a b d : Nat} {k : L2.St → Hp → Prop} (h : RT [P1, P2, P3] x G) (s : L2.Same G H) (q : ∀ y z w, P1 y G → P2 z G → P3 w G → k (((σ.set a (some y)).set b (some z)).set d (some w)) H) : gTup K 3 (gCons (gName a) (gCons (gName b) (gCons (gName d) gNil))) x σ H k := by
  obtain ⟨t, vs, rfl, hs, hf⟩ := h
  obtain ⟨v, r, rfl, p1, p2⟩ := hf.inv_cons
  obtain ⟨v2, r2, rfl, p3, p4⟩ := p2.inv_cons
  obtain ⟨v3, r3, rfl, p5, p6⟩ := p4.inv_cons
  obtain rfl := p6.inv_nil
  exact ⟨t, [v, v2, v3], rfl, .inl (.inl (s _ _ hs)), rfl, v, [v2, v3], rfl, v2, [v3], rfl, v3, [], rfl, rfl, q v v2 v3 p1 p3 p5⟩
/-- a, b = e -/
theorem q_tup2 {a b : Nat} (c : Cel G0 H0 G H cs) (h : EvP te σ G cs (RT [P1, P2])) (k : ∀ y z G2 H2, Cel G0 H0 G2 H2 cs → L2.Same G G2 → P1 y G2 → P2 z G2 → u D ((σ.set a (some y)).set b (some z)) H2) :
    tSeq (tAsg te (gTup K 2 (gCons (gName a) (gCons (gName b) gNil)))) u D σ H :=
  h H c.s c.hc _ fun v G2 H2 w p => g_tup2 p w.s fun y z p1 p2 => k y z G2 H2 (c.go w) w.g p1 p2
theorem q_tup3 {P3 : VP} {a b d : Nat} (c : Cel G0 H0 G H cs) (h : EvP te σ G cs (RT [P1, P2, P3])) (k : ∀ y z x G2 H2, Cel G0 H0 G2 H2 cs → L2.Same G G2 → P1 y G2 → P2 z G2 → P3 x G2 → u D (((σ.set a (some y)).set b (some z)).set d (some x)) H2) :
    tSeq (tAsg te (gTup K 3 (gCons (gName a) (gCons (gName b) (gCons (gName d) gNil))))) u D σ H :=
  h H c.s c.hc _ fun v G2 H2 w p => g_tup3 p w.s fun y z x p1 p2 p3 => k y z x G2 H2 (c.go w) w.g p1 p2 p3
/-! ### for -/
theorem s_for {cs' : List (Addr × HO)} {wi : TI} {g : TG} {n : Nat} {Y : Nat → VP} (c : Cel G0 H0 G H cs) (hw : EvW wi σ G cs' n Y) (I : Nat → L2.St → Hp → Hp → Prop) (hS : ∀ i s' g' h', I i s' g' h' → L2.Same g' h' ∧ HC cs' g' h')
    (h0 : ∀ G1 H1, Cel G0 H0 G1 H1 cs → L2.Same G G1 → I 0 σ G1 H1)
    (hs : ∀ i s' g' h' x, i < n → L2.Same G g' → I i s' g' h' → ∀ g2 h2, Gw g' h' g2 h2 → Y i x g2 → g x s' h2 fun s3 h3 => tb' { D with nx := fun s h => ∃ g4, L2.Same g' g4 ∧ I (i + 1) s g4 h, ct := fun s h => ∃ g4, L2.Same g' g4 ∧ I (i + 1) s g4 h, bk := D.nx } s3 h3)
    (hd : ∀ s' g' h', L2.Same G g' → I n s' g' h' → D.nx s' h') (hsub : ∀ x ∈ cs', x ∈ cs := by simp) : tFor wi g tb' D σ H :=
  hw H c.s (c.hc.sub hsub) _ fun J G1 H1 w wk => by
    refine ⟨fun i m s' h' => m = n - i ∧ i ≤ n ∧ ∃ g', L2.Same G1 g' ∧ I i s' g' h', ⟨n, by simp, Nat.zero_le _, G1, .refl _, h0 G1 H1 (c.go w) w.g⟩, ?_⟩
    rintro i m s' h' ⟨rfl, hi, g', sg, hI⟩
    obtain ⟨k1, k2⟩ := hS i s' g' h' hI
    by_cases hlt : i < n
    · obtain ⟨hgo, hy⟩ := wk.1 i g' h' hlt sg k1 k2
      refine .inr ⟨hgo, fun s h => ∃ g4, L2.Same g' g4 ∧ I (i + 1) s g4 h, fun s h ⟨g4, a, b⟩ => ⟨n - (i + 1), by omega, rfl, hlt, g4, sg.trans a, b⟩, fun x h2 y => ?_⟩
      obtain ⟨g2, w2, hY⟩ := hy x h2 y
      exact hs i s' g' h' x hlt (w.g.trans sg) hI g2 h2 w2 hY
    · have e : i = n := by omega
      subst e
      exact .inl ⟨wk.2 g' h' sg k1 k2, hd s' g' h' (w.g.trans sg) hI⟩
theorem q_for {cs' : List (Addr × HO)} {wi : TI} {g : TG} {n : Nat} {Y : Nat → VP} (c : Cel G0 H0 G H cs) (hw : EvW wi σ G cs' n Y) (I : Nat → L2.St → Hp → Hp → Prop) (hS : ∀ i s' g' h', I i s' g' h' → L2.Same g' h' ∧ HC cs' g' h')
    (h0 : ∀ G1 H1, Cel G0 H0 G1 H1 cs → L2.Same G G1 → I 0 σ G1 H1)
    (hs : ∀ i s' g' h' x, i < n → L2.Same G g' → I i s' g' h' → ∀ g2 h2, Gw g' h' g2 h2 → Y i x g2 → g x s' h2 fun s3 h3 => tb' { D with nx := fun s h => ∃ g4, L2.Same g' g4 ∧ I (i + 1) s g4 h, ct := fun s h => ∃ g4, L2.Same g' g4 ∧ I (i + 1) s g4 h, bk := u D } s3 h3)
    (hd : ∀ s' g' h', L2.Same G g' → I n s' g' h' → u D s' h') (hsub : ∀ x ∈ cs', x ∈ cs := by simp) : tSeq (tFor wi g tb') u D σ H :=
  s_for (D := { D with nx := u D }) c hw I hS h0 hs hd hsub
/-! ### list comprehensions -/
theorem en_lc {wi : TI} {g : TG} {tt : TT} {vs : List Nat} {n : Nat} {Y : Nat → VP} (hw : EvW wi σ G cs n Y) (hn : n ≤ 1000) (f : Nat → Bool) (R : Nat → VP) [m : ∀ i, Mo (R i)]
    (hb : ∀ i x g', i < n → L2.Same G g' → Y i x g' → ∀ h', L2.Same g' h' → ∀ k : L2.St → Hp → Prop, (∀ s2, wipe s2 vs = wipe σ vs → EvT tt s2 g' cs (f i) → (f i = true → EvP te s2 g' cs (R i)) → k s2 h') → g x (wipe σ vs) h' k) :
    EvN (tLc wi g tt te vs) σ G cs (fun o G2 => ∃ xs, o = .lst xs ∧ F2 (((List.range n).filter f).map R) xs G2) := fun H s hc Q q =>
  hw H s hc _ fun J G1 H1 w1 wk L hL => by
    have c1 := ((Cel.start s).go w1).new (l := L) (o := .lst []) hL
    refine ⟨fun i m h' => m = n - i ∧ i ≤ n ∧ ∃ g' acc, L2.Same G1 g' ∧ Cel G H g' h' [(L, .lst acc)] ∧ F2 (((List.range i).filter f).map R) acc g', ⟨n, by simp, Nat.zero_le _, G1, [], .refl _, c1, trivial⟩, ?_⟩
    rintro i m' h' ⟨rfl, hi, g', acc, sg, c, hf⟩
    have hc' : HC cs g' h' := hc.up c.w
    by_cases hlt : i < n
    · obtain ⟨hgo, hy⟩ := wk.1 i g' h' hlt sg c.s hc'
      refine .inr ⟨hgo, fun h => ∃ g4 acc', L2.Same g' g4 ∧ Cel G H g4 h [(L, .lst acc')] ∧ F2 (((List.range (i + 1)).filter f).map R) acc' g4, fun h ⟨g4, acc', a, b, d⟩ => ⟨n - (i + 1), by omega, rfl, hlt, g4, acc', sg.trans a, b, d⟩, fun x h2 y => ?_⟩
      obtain ⟨g2, w2, hY⟩ := hy x h2 y
      have c2 := c.go w2
      refine hb i x g2 hlt ((w1.g.trans sg).trans w2.g) hY h2 c2.s _ fun s2 hw2 ht he => ⟨hw2, ht h2 c2.s (hc.up c2.w) _ fun g3 h3 w3 => ?_⟩
      have c3 := c2.go w3
      cases hfi : f i with
      | false =>
        refine ⟨g3, acc, w2.g.trans w3.g, c3, ?_⟩
        rw [List.range_succ, List.filter_append, List.filter_cons, if_neg (by rw [hfi]; decide), List.filter_nil, List.append_nil]
        exact hf.mono (moA_map (f := R)).mo (w2.g.trans w3.g)
      | true =>
        show te s2 h3 _
        refine ((he hfi).up w3.g) h3 c3.s (hc.up c3.w) _ fun v g4 h4 w4 p => ?_
        have c4 := c3.go w4
        have hlen : acc.length ≤ 1000 := by
          have e1 := hf.len
          rw [List.length_map] at e1
          have := List.length_filter_le f (List.range i)
          rw [List.length_range] at this
          omega
        refine ⟨acc, c4.hd, small1000 hlen, g4, acc ++ [v], (w2.g.trans w3.g).trans w4.g, c4.put _, ?_⟩
        rw [List.range_succ, List.filter_append, List.filter_cons, if_pos hfi, List.filter_nil, List.map_append]
        exact (hf.mono (moA_map (f := R)).mo ((w2.g.trans w3.g).trans w4.g)).snoc p
    · have e : i = n := by omega
      subst e
      obtain ⟨k1, k2, k3⟩ := c.at_ _ List.mem_cons_self
      exact .inl ⟨wk.2 g' h' sg c.s hc', q L _ g' h' k3 c.w k2 k1 ⟨acc, rfl, hf⟩⟩
theorem ev_lc {wi : TI} {g : TG} {tt : TT} {vs : List Nat} {n : Nat} {Y : Nat → VP} (hw : EvW wi σ G cs n Y) (hn : n ≤ 1000) (f : Nat → Bool) (R : Nat → VP) [m : ∀ i, Mo (R i)]
    (hb : ∀ i x g', i < n → L2.Same G g' → Y i x g' → ∀ h', L2.Same g' h' → ∀ k : L2.St → Hp → Prop, (∀ s2, wipe s2 vs = wipe σ vs → EvT tt s2 g' cs (f i) → (f i = true → EvP te s2 g' cs (R i)) → k s2 h') → g x (wipe σ vs) h' k) :
    EvP (tLc wi g tt te vs) σ G cs (RL (((List.range n).filter f).map R)) := (en_lc hw hn f R hb).frz
/-- without a test -/
theorem filter_all (l : List Nat) : l.filter (fun _ => true) = l := List.filter_eq_self.mpr fun _ _ => rfl
theorem en_lcA {wi : TI} {g : TG} {vs : List Nat} {n : Nat} {Y : Nat → VP} (hw : EvW wi σ G cs n Y) (hn : n ≤ 1000) (R : Nat → VP) [m : ∀ i, Mo (R i)]
    (hb : ∀ i x g', i < n → L2.Same G g' → Y i x g' → ∀ h', L2.Same g' h' → ∀ k : L2.St → Hp → Prop, (∀ s2, wipe s2 vs = wipe σ vs → EvP te s2 g' cs (R i) → k s2 h') → g x (wipe σ vs) h' k) :
    EvN (tLc wi g tYes te vs) σ G cs (fun o G2 => ∃ xs, o = .lst xs ∧ F2 ((List.range n).map R) xs G2) := by
  have h := en_lc (tt := tYes) hw hn (fun _ => true) R fun i x g' hi s hY h' s' k q => hb i x g' hi s hY h' s' k fun s2 e he => q s2 e et_yes fun _ => he
  rw [filter_all] at h
  exact h
theorem ev_lcA {wi : TI} {g : TG} {vs : List Nat} {n : Nat} {Y : Nat → VP} (hw : EvW wi σ G cs n Y) (hn : n ≤ 1000) (R : Nat → VP) [m : ∀ i, Mo (R i)]
    (hb : ∀ i x g', i < n → L2.Same G g' → Y i x g' → ∀ h', L2.Same g' h' → ∀ k : L2.St → Hp → Prop, (∀ s2, wipe s2 vs = wipe σ vs → EvP te s2 g' cs (R i) → k s2 h') → g x (wipe σ vs) h' k) :
    EvP (tLc wi g tYes te vs) σ G cs (RL ((List.range n).map R)) := (en_lcA hw hn R hb).frz
end
end KW
end
section
set_option Elab.async false
set_option linter.all false
set_option maxRecDepth 100000
namespace KW
open PySem PySem.Spec PyProof.Rows L2
/-! ### operators of a class of the text -/
section
variable {X : Cx} {C f : Addr} {fd : FuncData} {ps : List Str} {sp : Sp} {k : Nat}
/-- an own def at two values -/
def rOwn2 (C : Addr) (sp : Sp) : R2 := fun x y H Q => (∃ a dx fs, x = .ref a ∧ H a = some (.ins C dx fs)) ∧ (∃ b dy gs, y = .ref b ∧ H b = some (.ins C dy gs)) ∧ sp [x, y] H Q E0
def rOwn1 (C : Addr) (sp : Sp) : V → Hp → VK → Prop := fun x H Q => (∃ a dx fs, x = .ref a ∧ H a = some (.ins C dx fs)) ∧ sp [x] H Q E0
theorem back_of {pins : List (Addr × Obj)} {σ : L2.St} {Q : VK} {u : Value} {s' : Shared} (h : EP X pins σ Q u s') : PySem.W.CmpBack (EP X pins σ Q) u s' := by
  obtain ⟨v, H', I, r, q⟩ := id h
  cases v with
  | non => cases r; exact h
  | bl b => cases r; exact h
  | int i => obtain ⟨t, rfl⟩ := r; exact h
  | str i => obtain ⟨t, rfl⟩ := r; exact h
  | byt i => obtain ⟨t, rfl⟩ := r; exact h
  | flt i => obtain ⟨t, rfl⟩ := r; exact h
  | ref a => cases r; exact h
  | ty n => cases r; exact h
theorem op_own {op : Operator} (F : FnOk X.prog X.w X.K X.mg X.base CX0 k f fd ps sp) (hr : Room k X.A) (hb : Binds X.K fd ps []) (hc : PySem.W.selfFirst X.K C = true)
    (hs : PySem.W.findIn X.K (.ref C) (PySem.dunder op.info.2) = some (some (.ref f))) (hf : PySem.W.isFn X.K (.ref f) = true) : OpR X (binaryOp op) (rOwn2 C sp) := by
  intro pins s σ H x y v u Q I rx ry h
  obtain ⟨⟨a, dx, fs, rfl, ha⟩, ⟨b, dy, gs, rfl, hb'⟩, q⟩ := h
  cases rx
  cases ry
  obtain ⟨mA, J, _⟩ := ins_get I.hok ha
  obtain ⟨mB, J', _⟩ := ins_get I.hok hb'
  obtain ⟨od, J, _⟩ := J.look
  obtain ⟨od', J', _⟩ := J'.look
  obtain ⟨m, hF⟩ := I.fr
  refine PySem.W.binop_K hF I.ok.mod.kin J J'.type hc hs hf ?_
  exact thn (run_fn F hr hb .nil pass0 I (show Vals [V.ref a, V.ref b] [Value.ref a, Value.ref b] from .cons rfl (.cons rfl .nil)) (by rw [List.append_nil]; exact q)) fun u s' h => back_of h
theorem un_own (F : FnOk X.prog X.w X.K X.mg X.base CX0 k f fd ps sp) (hr : Room k X.A) (hb : Binds X.K fd ps [])
    (hs : PySem.W.findIn X.K (.ref C) "__neg__" = some (some (.ref f))) (hf : PySem.W.isFn X.K (.ref f) = true) : UnR X (unaryOp .USub) (rOwn1 C sp) := by
  intro pins s σ H x v Q I rx h
  obtain ⟨⟨a, dx, fs, rfl, ha⟩, q⟩ := h
  cases rx
  obtain ⟨mA, J, _⟩ := ins_get I.hok ha
  obtain ⟨od, J, _⟩ := J.look
  obtain ⟨m, hF⟩ := I.fr
  refine PySem.W.ksp_neg hF I.ok.mod.kin J hs hf ?_
  exact run_fn F hr hb .nil pass0 I (show Vals [V.ref a] [Value.ref a] from .cons rfl .nil) (by rw [List.append_nil]; exact q)
theorem cmp_own {op : CmpOp} (F : FnOk X.prog X.w X.K X.mg X.base CX0 k f fd ps sp) (hr : Room k X.A) (hb : Binds X.K fd ps [])
    (hs : PySem.W.findIn X.K (.ref C) (cmpInfo op).2.1 = some (some (.ref f))) (hf : PySem.W.isFn X.K (.ref f) = true) (ho : ∀ u v, compareOp op u v = richCompare op u v) : OpR X (compareOp op) (rOwn2 C sp) := by
  intro pins s σ H x y v u Q I rx ry h
  obtain ⟨⟨a, dx, fs, rfl, ha⟩, ⟨b, dy, gs, rfl, hb'⟩, q⟩ := h
  cases rx
  cases ry
  obtain ⟨mA, J, _⟩ := ins_get I.hok ha
  obtain ⟨mB, J', _⟩ := ins_get I.hok hb'
  obtain ⟨od, J, _⟩ := J.look
  obtain ⟨od', J', _⟩ := J'.look
  obtain ⟨m, hF⟩ := I.fr
  rw [ho]
  refine PySem.W.cmp_K (tb := .ref C) hr.units0 hF I.ok.mod.kin J J'.type (by simp [PySem.W.notFirst]) hs hf ?_
  exact thn (run_fn F hr hb .nil pass0 I (show Vals [V.ref a, V.ref b] [Value.ref a, Value.ref b] from .cons rfl (.cons rfl .nil)) (by rw [List.append_nil]; exact q)) fun u s' h => back_of h
end
/-! ### // of great numbers: the numerator below 2 ^ 13500 -/
def CDivB (i j : Int) : Prop := j ≠ 0 ∧ i.natAbs < 2 ^ 13500
theorem noPylong_big {x y : Int} (h : x.natAbs < 2 ^ 13500) : Builtin.divisionGoesByPylong x y = false := by
  by_cases hy : y.natAbs.log2 < 9000
  · exact PyProof.noPylong_of_log2 hy
  · unfold Builtin.divisionGoesByPylong
    dsimp only
    have hx : x.natAbs.log2 < 13500 := by
      by_cases h0 : x.natAbs = 0
      · rw [h0]; decide
      · exact (Nat.log2_lt h0).mpr h
    have hyn : ¬ (y == 0) = true := fun z => hy (by rw [beq_iff_eq.mp z]; decide)
    rw [Bool.and_eq_false_iff]
    right
    refine decide_eq_false ?_
    rw [if_neg hyn]
    split <;> omega
theorem op_fdivB {X : Cx} : OpR X (binaryOp .FloorDiv) (rI CDivB fun i j => .int (i.fdiv j)) := opI fun i j _ _ _ _ _ hc q => PyProof.Rows.floordiv_int hc.1 q (.inl (noPylong_big hc.2))
/-! ### defs by name -/
/-- the text's def x stands under its own name -/
def Df (K : PySem.W.Frag) (mg : Str → Option Value) (x : Str) (st : Stmt) : Prop := ∃ f fd, mg x = some (.ref f) ∧ Fun K x x st f fd
/-- x keeps a promise, at most k calls deep -/
def Dn (P : Program) (w : World) (K : PySem.W.Frag) (mg : Str → Option Value) (base : Heap) (x : Str) (k : Nat) (ps : List Str) (sp : Sp) : Prop :=
  ∃ f fd, mg x = some (.ref f) ∧ PySem.W.keepIn K (.ref f) = true ∧ Binds K fd ps [] ∧ FnOk P w K mg base CX0 k f fd ps sp
theorem pe_dn {X : Cx} {x : Str} {j : Nat} {ps : List Str} {sp : Sp} {e : Expr} {es : List Expr} {t : TA} {p pos : Pos} (Dd : Dn X.prog X.w X.K X.mg X.base x j ps sp) (hr : Room j X.A) (hg : Gl X x) (ha : PA X (e :: es) t)
    (hdb : (x == ("__debug__" : Str)) = false := by decide) (he : starEach (e :: es) X.env = (false, eval e X.env) :: starEach es X.env := by rfl) (hpl : (backTo pos (starEach es X.env)).any (·.1) = false := by rfl) :
    PE X (.Call (.Name x p) (e :: es) [] pos) (tCall sp [] E0 t) := by
  obtain ⟨f, fd, hm, hk, hb, F⟩ := Dd
  exact pe_call F hr hg hm hk hb .nil pass0 ha hdb he hpl
section
variable {P : Program} {w : World} {K : PySem.W.Frag} {mg : Str → Option Value} {base : Heap}
theorem dn_of {x : Str} {st : Stmt} {N ps : List Str} {k : Nat} {sp : Sp} (Dd : Df K mg x st) (S : FnScope N ps (defScope st))
    (hb : ∀ (kV doc pm : Value) (an : Option Addr) (cdv ct : Value) (us : List Value), us.length = ps.length → bindArgs (PySem.W.fnOf x x (defArgs st) (defBody st) (defScope st) .none kV doc pm an cdv ct) ⟨us, []⟩ = pure (ps.zip us))
    (len : ∀ vs H Q E, sp vs H Q E → vs.length = ps.length)
    (hbody : ∀ (f : Addr) (cdv : Value) (A : Around) (outer : List Env) (s : Shared) (H : Hp) (vs : List V) (Q : VK) (E : XK), Room k (A.deeper (envOfC x (defScope st) s.heap.objs.size f cdv)) → sp vs H Q E →
      ∃ t, PSs (cxOf CX0 P w K mg base N x (defScope st) f cdv A outer s H E).nox (defBody st) t ∧ t { nx := fun _ H' => Q .non H', rt := Q } (start N vs) H) : Dn P w K mg base x (k + 1) ps sp := by
  obtain ⟨f, fd, hm, F⟩ := Dd
  exact ⟨f, fd, hm, F.kp, F.binds hb, F.ok S len (hbody f)⟩
theorem Dn.mono {x : Str} {j k : Nat} {ps : List Str} {sp : Sp} (d : Dn P w K mg base x j ps sp) (h : j ≤ k) : Dn P w K mg base x k ps sp := by
  obtain ⟨f, fd, a, b, c, F⟩ := d
  exact ⟨f, fd, a, b, c, F.mono h⟩
/-- a promise of the plain kind -/
def spF {T : Type} (In : T → List V → Hp → Prop) (Out : T → VP) (n : Nat) : Sp := fun vs H Q _ => vs.length = n ∧ ∃ G x, L2.Same G H ∧ In x vs G ∧ ∀ v G2 H2, Gw G H G2 H2 → Out x v G2 → Q v H2
theorem SpP.of {T : Type} {In : T → List V → Hp → Prop} {Out : T → VP} {n : Nat} {cs : List (Addr × HO)} {PA : List V → Hp → Prop} (x : T) (h : ∀ vs G, PA vs G → vs.length = n ∧ In x vs G) : SpP cs PA (Out x) (spF In Out n) :=
  fun vs G p H s _ Q q => ⟨(h vs G p).1, G, x, s, (h vs G p).2, q⟩
end
/-! ### the text by places -/
def top (i : Nat) : Stmt := PySem.Challenge.pw_linkwork_k97_whole_blocks_and_tears.main.body.getD i (.Pass ⟨0, 0, 0, 0⟩)
end KW
end
section
set_option Elab.async false
set_option linter.all false
set_option maxRecDepth 100000
set_option maxHeartbeats 1000000
namespace KW
open PySem PySem.Spec PyProof.Rows L2
/-! ### whole numbers -/
theorem gcd_step (a b : Int) : Int.gcd b (a.fmod b) = Int.gcd a b := by
  rw [Int.fmod_def, Int.gcd_sub_mul_left_right, Int.gcd_comm]
theorem fmod_small (a : Int) {b : Int} (hb : b ≠ 0) : (a.fmod b).natAbs < b.natAbs := by
  rcases Int.lt_or_lt_of_ne hb with h | h
  · have h1 : a.fmod b = -((-a).fmod (-b)) := by rw [Int.neg_fmod_neg]; omega
    have h2 := Int.fmod_nonneg_of_pos (-a) (show (0 : Int) < -b by omega)
    have h3 := Int.fmod_lt_of_pos (-a) (show (0 : Int) < -b by omega)
    omega
  · have h2 := Int.fmod_nonneg_of_pos a h
    have h3 := Int.fmod_lt_of_pos a h
    omega
/-- the fields of a fraction -/
def qf (q : Rat) : List (Str × V) := [("top", .int q.num), ("bottom", .int q.den)]
def dvr (n d : Int) : Int := if d < 0 then -((Int.gcd n d : Nat) : Int) else ((Int.gcd n d : Nat) : Int)
theorem dvr_top {n d : Int} (hd : d ≠ 0) : n.fdiv (dvr n d) = (Rat.divInt n d).num := by
  rw [Rat.num_divInt, Int.gcd_comm d n]
  have hg : ((Int.gcd n d : Nat) : Int) ∣ n := Int.gcd_dvd_left n d
  have hp : (0 : Int) < ((Int.gcd n d : Nat) : Int) := by
    have : 0 < Int.gcd n d := Int.gcd_pos_iff.mpr (.inr hd)
    omega
  unfold dvr
  by_cases h : d < 0
  · rw [if_pos h, Int.fdiv_eq_ediv_of_dvd (Int.neg_dvd.mpr hg), Int.ediv_neg, Int.sign_eq_neg_one_of_neg h, Int.neg_mul, Int.one_mul, Int.neg_ediv_of_dvd hg]
  · rw [if_neg h, Int.fdiv_eq_ediv_of_dvd hg, Int.sign_eq_one_of_pos (by omega), Int.one_mul]
theorem dvr_bot {n d : Int} (hd : d ≠ 0) : d.fdiv (dvr n d) = ((Rat.divInt n d).den : Int) := by
  rw [Rat.den_divInt, if_neg hd, Int.gcd_comm d n]
  have hg : ((Int.gcd n d : Nat) : Int) ∣ d := Int.gcd_dvd_right n d
  unfold dvr
  by_cases h : d < 0
  · rw [if_pos h, Int.fdiv_eq_ediv_of_dvd (Int.neg_dvd.mpr hg), Int.ediv_neg, ← Int.neg_ediv_of_dvd hg, Int.natCast_ediv]
    congr 1
    omega
  · rw [if_neg h, Int.fdiv_eq_ediv_of_dvd hg, Int.natCast_ediv]
    congr 1
    omega
theorem dvr_ne {n d : Int} (hd : d ≠ 0) : dvr n d ≠ 0 := by
  have : 0 < Int.gcd n d := Int.gcd_pos_iff.mpr (.inr hd)
  unfold dvr
  split <;> omega
/-! ### greatest_divisor -/
abbrev sGd : Stmt := top 7
theorem scGd : FnScope ["a", "b"] ["a", "b"] (defScope sGd) := ⟨rfl, rfl, rfl, by decide +kernel, rfl, by decide +kernel, by decide +kernel⟩
def spGd : Sp := fun vs H Q _ => ∃ a b : Int, vs = [.int a, .int b] ∧ Q (.int ((Int.gcd a b : Nat) : Int)) H
section
variable {P : Program} {w : World} {K : PySem.W.Frag} {mg : Str → Option Value} {base : Heap}
theorem while_le {c : TT} {tb : TS} {D : Ends} {σ : L2.St} {H : Hp} (W : Nat → L2.St → Hp → Prop) (m0 : Nat) (h0 : W m0 σ H) (h : ∀ m σ H, W m σ H → c σ H fun b H1 => if b = true then ∃ N : L2.St → Hp → Prop, (∀ σ' H', N σ' H' → ∃ m', m' < m ∧ W m' σ' H') ∧ tb { D with nx := N, ct := N, bk := D.nx } σ H1 else D.nx σ H1) : tWhile c tb D σ H :=
  ⟨W, ⟨m0, h0⟩, h⟩
theorem dn_gd (Dd : Df K mg "greatest_divisor" sGd) (ma : mg "abs" = none) : Dn P w K mg base "greatest_divisor" 1 ["a", "b"] spGd := by
  refine dn_of Dd scGd (fun _ _ _ _ _ _ us hl => match us, hl with | [_, _], _ => rfl) (fun vs H Q E h => ?_) (fun f cdv A outer s H vs Q E hr h => ?_)
  · obtain ⟨a, b, rfl, _⟩ := h
    rfl
  obtain ⟨a, b, rfl, q⟩ := h
  refine ⟨_, pss_cons (ps_while PassesOwn.never (pt_cmpR op_ne (pv 1) pe_int (nomark _)) (pss_one (ps_par (i := 0) (j := 1) rfl scGd.nd rfl rfl (by decide) rfl rfl (pa_cons (pv 1) (pa_cons (pe_op op_modN (pv 0) (pv 1)) pa_nil)) (by rfl))))
    (pss_one (ps_ret (pe_callB call_abs (by rfl) ma (by decide +kernel) (pa_cons (pv 0) pa_nil)))), ?_⟩
  refine while_le (fun m σ H' => ∃ x y : Int, σ = [some (.int x), some (.int y)] ∧ m = y.natAbs ∧ Int.gcd x y = Int.gcd a b ∧ H' = H) b.natAbs ⟨a, b, rfl, rfl, rfl, rfl⟩ ?_
  rintro m σ H' ⟨x, y, rfl, rfl, e, rfl⟩
  refine ⟨_, rfl, rfl, _, rfl, ?_⟩
  by_cases hy : y = 0
  · subst hy
    rw [show (!decide (V.int 0 = V.int 0)) = false by simp]
    refine ⟨_, rfl, x, rfl, ?_⟩
    have e2 : (if x < 0 then -x else x) = ((Int.gcd a b : Nat) : Int) := by
      rw [← e, Int.gcd_zero_right]
      split <;> omega
    rw [e2]
    exact q
  · rw [show (!decide (V.int y = V.int 0)) = true by simp [hy]]
    refine ⟨fun σ' H'' => σ' = [some (.int y), some (.int (x.fmod y))] ∧ H'' = H', fun σ' H'' hh => ?_, ?_⟩
    · obtain ⟨rfl, rfl⟩ := hh
      exact ⟨(x.fmod y).natAbs, fmod_small x hy, y, x.fmod y, rfl, rfl, (gcd_step x y).trans e, rfl⟩
    · exact ⟨_, rfl, _, rfl, _, rfl, x, y, rfl, rfl, hy, _, _, rfl, rfl, rfl⟩
end
/-! ### the class Ratio -/
abbrev cRatio : Stmt := top 8
abbrev sRI : Stmt := inClass cRatio 0
abbrev sREq : Stmt := inClass cRatio 1
abbrev sRNe : Stmt := inClass cRatio 2
abbrev sRNeg : Stmt := inClass cRatio 3
abbrev sRAdd : Stmt := inClass cRatio 4
abbrev sRSub : Stmt := inClass cRatio 5
abbrev sRMul : Stmt := inClass cRatio 6
/-- a method of the text -/
def Mf (K : PySem.W.Frag) (C : Addr) (m q : Str) (st : Stmt) : Prop := ∃ f fd, PySem.W.findIn K (.ref C) m = some (some (.ref f)) ∧ PySem.W.isFn K (.ref f) = true ∧ Fun K m q st f fd
/-- what the top has written of the class -/
structure RatX (K : PySem.W.Frag) (mg : Str → Option Value) (C : Addr) : Prop where
  cl : Cls K C
  nT : NoAttr K C "top"
  nB : NoAttr K C "bottom"
  gC : mg "Ratio" = some (.ref C)
  sf : PySem.W.selfFirst K C = true
  mks : PySem.W.makesIn K C = true
  kp : PySem.W.keepIn K (.ref C) = true
  init : ∃ f fd, PySem.W.findIn K (.ref C) "__init__" = some (some (.ref f)) ∧ PySem.W.isFn K (.ref f) = true ∧ FunD K "__init__" "Ratio.__init__" (defArgs sRI) (defBody sRI) (defScope sRI) [.int 1] [] f fd
  eq : Mf K C "__eq__" "Ratio.__eq__" sREq
  ne : Mf K C "__ne__" "Ratio.__ne__" sRNe
  neg : Mf K C "__neg__" "Ratio.__neg__" sRNeg
  add : Mf K C "__add__" "Ratio.__add__" sRAdd
  sub : Mf K C "__sub__" "Ratio.__sub__" sRSub
  mul : Mf K C "__mul__" "Ratio.__mul__" sRMul
  cls : PySem.W.findIn K (.ref C) "__class__" = some (some (.builtin "object.__class__"))
  clg : PySem.W.specialIn K (.builtin "object.__class__") "__get__" = some (some (.builtin "getset_descriptor.__get__"))
  clt : PySem.W.takesIn K (.builtin "object.__class__") = some true
  mro : PySem.W.mroIn K C (.type "object") = some true
  bool : PySem.W.kitOne K (.ref C) (.type "bool") = some false
/-- sizes of what a fraction is made of -/
def Big (n d : Int) : Prop := n.natAbs < 2 ^ 13500 ∧ d.natAbs < 2 ^ 13500
/-- __init__ -/
def spRI (C : Addr) : Sp := fun vs H Q _ => ∃ (x dx : Addr) (n d : Int), vs = [.ref x, .int n, .int d] ∧ H x = some (.ins C dx []) ∧ d ≠ 0 ∧ Big n d ∧
  ∀ H', (∀ b o, H b = some o → b ≠ x → H' b = some o) → H' x = some (.ins C dx (qf (Rat.divInt n d))) → Q .non H'
theorem scRI : FnScope ["self", "numerator", "denominator", "divisor"] ["self", "numerator", "denominator"] (defScope sRI) := ⟨rfl, rfl, rfl, by decide +kernel, rfl, by decide +kernel, by decide +kernel⟩
section
variable {P : Program} {w : World} {K : PySem.W.Frag} {mg : Str → Option Value} {base : Heap} {C : Addr}
theorem putq1 (a : V) : putF "top" a [] = [(("top" : Str), a)] := rfl
theorem putq2 (a b : V) : putF "bottom" b [(("top" : Str), a)] = [(("top" : Str), a), (("bottom" : Str), b)] := by
  show (if (("top" : Str) = ("bottom" : Str)) then [(("top" : Str), b)] else (("top" : Str), a) :: putF "bottom" b []) = _
  rw [if_neg (by decide)]
  rfl
theorem ok_rinit (T : RatX K mg C) (Dg : Dn P w K mg base "greatest_divisor" 1 ["a", "b"] spGd) {f : Addr} {fd : FuncData} (F : FunD K "__init__" "Ratio.__init__" (defArgs sRI) (defBody sRI) (defScope sRI) [.int 1] [] f fd) :
    FnOk P w K mg base CX0 2 f fd ["self", "numerator", "denominator"] (spRI C) := by
  refine F.ok scRI (fun vs H Q E h => ?_) (fun cdv A outer s H vs Q E hr h => ?_)
  · obtain ⟨x, dx, n, d, rfl, _⟩ := h
    rfl
  obtain ⟨x, dx, n, d, rfl, hx, hd, hB, q⟩ := h
  refine ⟨_, PSs.nox (pss_cons (ps_if (pt_cmpR op_eq (pv 2) pe_int (nomark _)) (pss_one ps_never) pss_nil)
    (pss_cons (ps_set (i := 3) scRI.nd rfl (.inl rfl) (pe_dn Dg hr (by rfl) (pa_cons (pv 1) (pa_cons (pv 2) pa_nil))))
    (pss_cons (ps_if (pt_cmpR op_lt (pv 2) pe_int (nomark _)) (pss_one (ps_set (i := 3) scRI.nd rfl (.inl rfl) (pe_un un_neg (pv 3)))) pss_nil)
    (pss_cons (ps_fld (pv 0) (pe_op op_fdivB (pv 1) (pv 3)) rfl)
    (pss_one (ps_fld (pv 0) (pe_op op_fdivB (pv 2) (pv 3)) rfl)))))), ?_⟩
  refine ⟨_, rfl, rfl, _, rfl, ?_⟩
  rw [show decide (V.int d = V.int 0) = false by simp [hd]]
  refine iteF ?_
  refine ⟨_, rfl, _, rfl, n, d, rfl, ?_⟩
  have fin : ∀ σ : L2.St, σ = [some (.ref x), some (.int n), some (.int d), some (.int (dvr n d))] →
      tSeq (sFld K (tVar 0) (tOp (rI CDivB fun i j => .int (i.fdiv j)) (tVar 1) (tVar 3)) "top") (sFld K (tVar 0) (tOp (rI CDivB fun i j => .int (i.fdiv j)) (tVar 2) (tVar 3)) "bottom") { nx := fun _ H' => Q .non H', rt := Q } σ H := by
    rintro σ rfl
    refine ⟨_, rfl, _, rfl, n, dvr n d, rfl, rfl, ⟨dvr_ne hd, hB.1⟩, _, rfl, x, C, dx, _, rfl, hx, T.cl, T.nT, by decide, ?_⟩
    refine ⟨_, rfl, _, rfl, d, dvr n d, rfl, rfl, ⟨dvr_ne hd, hB.2⟩, _, rfl, x, C, dx, _, rfl, upd_same, T.cl, T.nB, (by rw [putq1]; show 1 < 1000; decide), ?_⟩
    rw [putq1, putq2, upd_upd]
    show Q .non (upd H x (.ins C dx [(("top" : Str), .int (n.fdiv (dvr n d))), (("bottom" : Str), .int (d.fdiv (dvr n d)))]))
    rw [dvr_top hd, dvr_bot hd]
    refine q _ (fun b o e hb => ?_) upd_same
    rw [upd_ne hb]
    exact e
  refine ⟨_, rfl, _, _, rfl, rfl, _, rfl, ?_⟩
  by_cases hn : d < 0
  · rw [decide_eq_true hn]
    refine iteT ?_
    refine ⟨_, rfl, _, rfl, fin _ ?_⟩
    unfold dvr
    rw [if_pos hn]
    rfl
  · rw [decide_eq_false hn]
    refine iteF (fin _ ?_)
    unfold dvr
    rw [if_neg hn]
    rfl
end
end KW
end
section
set_option Elab.async false
set_option linter.all false
set_option maxRecDepth 100000
set_option maxHeartbeats 1000000
set_option exponentiation.threshold 20000
namespace KW
open PySem PySem.Spec PyProof.Rows L2
open K97 (Sz Raw)
theorem up {P : VP} [m : Mo P] {v : V} {G G' : Hp} (e : L2.Same G G') (h : P v G) : P v G' := m.mo _ _ _ e h
/-- a fraction of the program -/
def RQ (C : Addr) (q : Rat) : VP := fun v G => ∃ a dx, v = .ref a ∧ G a = some (.ins C dx (qf q))
instance {C : Addr} {q : Rat} : Mo (RQ C q) := ⟨fun _ _ _ e ⟨a, dx, h1, h2⟩ => ⟨a, dx, h1, e _ _ h2⟩⟩
def Fit (p q : Rat) : Prop := ∃ a b, Sz a p ∧ Sz b q ∧ a + b + 1 < 13500
theorem Fit.of {p q : Rat} {a b : Nat} (h1 : Sz a p) (h2 : Sz b q) (h : a + b + 1 < 13500) : Fit p q := ⟨a, b, h1, h2, h⟩
theorem raw_big {k : Nat} {n d : Int} (h : Raw k n d) (hk : k < 13500) : Big n d := ⟨Nat.lt_of_le_of_lt h.top (Nat.pow_lt_pow_right (by decide) hk), Nat.lt_of_le_of_lt h.bot (Nat.pow_lt_pow_right (by decide) hk)⟩
theorem log_le {x k : Nat} (h : x ≤ 2 ^ k) : x.log2 ≤ k := by
  by_cases h0 : x = 0
  · subst h0; exact Nat.le_trans (by decide) (Nat.zero_le k)
  · have : x.log2 < k + 1 := (Nat.log2_lt h0).mpr (Nat.lt_of_le_of_lt h (Nat.pow_lt_pow_right (by decide) (Nat.lt_succ_self k)))
    omega
theorem mulW_of {i j : Int} {a b : Nat} (h1 : i.natAbs ≤ 2 ^ a) (h2 : j.natAbs ≤ 2 ^ b) (h : a + b < 1000000) : CMulW i j := by
  have x := log_le h1
  have y := log_le h2
  unfold CMulW
  omega
theorem den_abs (q : Rat) : ((q.den : Nat) : Int).natAbs = q.den := Int.natAbs_natCast _
theorem rv_mulW {cs : List (Addr × HO)} {i j : Int} {a b : Nat} (h1 : i.natAbs ≤ 2 ^ a) (h2 : j.natAbs ≤ 2 ^ b) (h : a + b < 1000000) : RvP cs (rI CMulW fun i j => .int (i * j)) (RV (.int i)) (RV (.int j)) (RV (.int (i * j))) := rv_I (mulW_of h1 h2 h)
section
variable {K : PySem.W.Frag} {σ : L2.St} {G : Hp} {cs : List (Addr × HO)} {te : TE} {C : Addr} {q : Rat} {mg : Str → Option Value}
theorem qf_top (q : Rat) : (qf q).lookup ("top" : Str) = some (.int q.num) := rfl
theorem qf_bot (q : Rat) : (qf q).lookup ("bottom" : Str) = some (.int q.den) := by
  have e : (("bottom" : Str) == ("top" : Str)) = false := by decide
  unfold qf
  simp only [List.lookup, e]
  rfl
theorem ev_top (T : RatX K mg C) (h : EvP te σ G cs (RQ C q)) : EvP (tFld K te "top") σ G cs (RV (.int q.num)) := fun H s hc Q k => h H s hc _ fun v G2 H2 w p => by
  obtain ⟨a, dx, rfl, ha⟩ := p
  exact ⟨a, C, dx, _, _, rfl, w.s _ _ ha, T.cl, T.nT, qf_top q, k _ G2 H2 w rfl⟩
theorem ev_bot (T : RatX K mg C) (h : EvP te σ G cs (RQ C q)) : EvP (tFld K te "bottom") σ G cs (RV (.int q.den)) := fun H s hc Q k => h H s hc _ fun v G2 H2 w p => by
  obtain ⟨a, dx, rfl, ha⟩ := p
  exact ⟨a, C, dx, _, _, rfl, w.s _ _ ha, T.cl, T.nB, qf_bot q, k _ G2 H2 w rfl⟩
theorem sp_make {sv : List V → Prop} {n d : Int} {H1 : Hp} {Q : VK} {G1 : Hp} (s : L2.Same G1 H1) (hd : d ≠ 0) (hB : Big n d) (q : ∀ v G2 H2, Gw G1 H1 G2 H2 → RQ C (Rat.divInt n d) v G2 → Q v H2) (x dx : Addr) (hx : H1 x = none) (hdx : H1 dx = none) (ne : dx ≠ x) :
    spRI C [.ref x, .int n, .int d] (upd (upd H1 dx (.own x)) x (.ins C dx [])) (fun v H2 => v = .non ∧ Q (.ref x) H2) E0 := by
  refine ⟨x, dx, n, d, rfl, upd_same, hd, hB, fun H' keep hH' => ⟨rfl, q (.ref x) (upd (upd G1 dx (.own x)) x (.ins C dx (qf (Rat.divInt n d)))) H' ?_ ⟨x, dx, rfl, upd_same⟩⟩⟩
  have gx : G1 x = none := s.free hx
  have gd : G1 dx = none := s.free hdx
  refine ⟨fun b o e => ?_, fun b o e => ?_, fun b o e => ?_, fun b o e1 e2 => ?_⟩
  · rw [upd_ne (ne_of_none e gx), upd_ne (ne_of_none e gd)]; exact e
  · refine keep b o ?_ (ne_of_none e hx)
    rw [upd_ne (ne_of_none e hx), upd_ne (ne_of_none e hdx)]; exact e
  · by_cases h1 : b = x
    · subst h1; rw [upd_same] at e; cases e; exact hH'
    · rw [upd_ne h1] at e
      by_cases h2 : b = dx
      · subst h2
        rw [upd_same] at e
        cases e
        refine keep b _ ?_ h1
        rw [upd_ne h1, upd_same]
      · rw [upd_ne h2] at e
        refine keep b o ?_ h1
        rw [upd_ne h1, upd_ne h2]
        exact s b o e
  · rw [upd_ne (ne_of_none e1 hx), upd_ne (ne_of_none e1 hdx)]; exact e2
theorem ev_make2 {t : TA} {n d : Int} (h : EvA t σ G cs (F2 [RV (.int n), RV (.int d)])) (hd : d ≠ 0) (hB : Big n d) : EvP (tMake C (spRI C) [] E0 t) σ G cs (RQ C (Rat.divInt n d)) := fun H s hc Q q =>
  h H s hc _ fun vs G1 H1 w p x dx hx hdx ne => by
    obtain ⟨v, r, rfl, p1, p2⟩ := p.inv_cons
    obtain ⟨v2, r2, rfl, p3, p4⟩ := p2.inv_cons
    obtain rfl := p4.inv_nil
    obtain rfl : v = .int n := p1
    obtain rfl : v2 = .int d := p3
    exact sp_make (sv := fun _ => True) w.s hd hB (fun v G2 H2 w2 p => q v G2 H2 (w.trans w2) p) x dx hx hdx ne
theorem ev_make1 {t : TA} {n : Int} (h : EvA t σ G cs (F2 [RV (.int n)])) (hB : n.natAbs < 2 ^ 13500) : EvP (tMake C (spRI C) [.int 1] E0 t) σ G cs (RQ C (Rat.divInt n 1)) := fun H s hc Q q =>
  h H s hc _ fun vs G1 H1 w p x dx hx hdx ne => by
    obtain ⟨v, r, rfl, p1, p2⟩ := p.inv_cons
    obtain rfl := p2.inv_nil
    obtain rfl : v = .int n := p1
    exact sp_make (sv := fun _ => True) w.s (by decide) ⟨hB, by show (1 : Nat) < 2 ^ 13500; exact Nat.one_lt_two_pow (by decide)⟩ (fun v G2 H2 w2 p => q v G2 H2 (w.trans w2) p) x dx hx hdx ne
end
/-! ### the methods -/
def spBin (C : Addr) (f : Rat → Rat → Rat) (pre : Rat → Rat → Prop) : Sp := spF (fun (x : Rat × Rat) vs G => F2 [RQ C x.1, RQ C x.2] vs G ∧ pre x.1 x.2) (fun x => RQ C (f x.1 x.2)) 2
section
variable {P : Program} {w : World} {K : PySem.W.Frag} {mg : Str → Option Value} {base : Heap} {C : Addr}
theorem scRAdd : FnScope ["self", "other", "top"] ["self", "other"] (defScope sRAdd) := ⟨rfl, rfl, rfl, by decide +kernel, rfl, by decide +kernel, by decide +kernel⟩
theorem scRSub : FnScope ["self", "other", "top"] ["self", "other"] (defScope sRSub) := ⟨rfl, rfl, rfl, by decide +kernel, rfl, by decide +kernel, by decide +kernel⟩
theorem scRMul : FnScope ["self", "other"] ["self", "other"] (defScope sRMul) := ⟨rfl, rfl, rfl, by decide +kernel, rfl, by decide +kernel, by decide +kernel⟩
theorem scRNeg : FnScope ["self"] ["self"] (defScope sRNeg) := ⟨rfl, rfl, rfl, by decide +kernel, rfl, by decide +kernel, by decide +kernel⟩
/-- Ratio(n, d) -/
theorem pe_ratio2 {X : Cx} {e : Expr} {es : List Expr} {t : TA} {p pos : Pos} (T : RatX X.K X.mg C) (Dg : Dn X.prog X.w X.K X.mg X.base "greatest_divisor" 1 ["a", "b"] spGd) (hr : Room 3 X.A) (hg : Gl X "Ratio") (ha : PA X (e :: es) t)
    (he : starEach (e :: es) X.env = (false, eval e X.env) :: starEach es X.env := by rfl) (hpl : (backTo pos (starEach es X.env)).any (·.1) = false := by rfl) :
    PE X (.Call (.Name "Ratio" p) (e :: es) [] pos) (tMake C (spRI C) [] E0 t) := by
  obtain ⟨f, fd, h1, h2, F⟩ := T.init
  obtain ⟨ds, hv, hb⟩ := F.binds1 (ps := ["self", "numerator", "denominator"]) 3 1 (by simp) rfl (fun T kV doc pm an cdv ct us its hl hi => by
    match us, hl, its, hi with
    | [_, _, _], _, [_], _ => exact ⟨_, rfl, rfl⟩)
  cases hv
  exact pe_make ⟨T.mks, h1, h2, T.kp⟩ (ok_rinit T Dg F) hr hg T.gC hb .nil pass0 ha (by decide) he hpl
/-- Ratio(n) -/
theorem pe_ratio1 {X : Cx} {e : Expr} {es : List Expr} {t : TA} {p pos : Pos} (T : RatX X.K X.mg C) (Dg : Dn X.prog X.w X.K X.mg X.base "greatest_divisor" 1 ["a", "b"] spGd) (hr : Room 3 X.A) (hg : Gl X "Ratio") (ha : PA X (e :: es) t)
    (he : starEach (e :: es) X.env = (false, eval e X.env) :: starEach es X.env := by rfl) (hpl : (backTo pos (starEach es X.env)).any (·.1) = false := by rfl) :
    PE X (.Call (.Name "Ratio" p) (e :: es) [] pos) (tMake C (spRI C) [.int 1] E0 t) := by
  obtain ⟨f, fd, h1, h2, F⟩ := T.init
  obtain ⟨ds, hv, hb⟩ := F.binds1 (ps := ["self", "numerator", "denominator"]) 2 0 (by simp) rfl (fun T kV doc pm an cdv ct us its hl hi => by
    match us, hl, its, hi with
    | [_, _], _, [_], _ => exact ⟨_, rfl, rfl⟩)
  exact pe_make ⟨T.mks, h1, h2, T.kp⟩ (ok_rinit T Dg F) hr hg T.gC hb hv pass0 ha (by decide) he hpl
theorem two_of {P1 P2 : VP} {vs : List V} {G : Hp} (h : F2 [P1, P2] vs G) : ∃ a b, vs = [a, b] ∧ P1 a G ∧ P2 b G := by
  obtain ⟨v, r, rfl, p1, p2⟩ := h.inv_cons
  obtain ⟨v2, r2, rfl, p3, p4⟩ := p2.inv_cons
  obtain rfl := p4.inv_nil
  exact ⟨v, v2, rfl, p1, p3⟩
theorem one_of {P1 : VP} {vs : List V} {G : Hp} (h : F2 [P1] vs G) : ∃ a, vs = [a] ∧ P1 a G := by
  obtain ⟨v, r, rfl, p1, p2⟩ := h.inv_cons
  obtain rfl := p2.inv_nil
  exact ⟨v, rfl, p1⟩
theorem three_of {P1 P2 P3 : VP} {vs : List V} {G : Hp} (h : F2 [P1, P2, P3] vs G) : ∃ a b c, vs = [a, b, c] ∧ P1 a G ∧ P2 b G ∧ P3 c G := by
  obtain ⟨v, r, rfl, p1, p2⟩ := h.inv_cons
  obtain ⟨x, y, rfl, p3, p4⟩ := two_of p2
  exact ⟨v, x, y, rfl, p1, p3, p4⟩
theorem ok_radd (T : RatX K mg C) (Dg : Dn P w K mg base "greatest_divisor" 1 ["a", "b"] spGd) {f : Addr} {fd : FuncData} (F : Fun K "__add__" "Ratio.__add__" sRAdd f fd) :
    FnOk P w K mg base CX0 4 f fd ["self", "other"] (spBin C (fun p q => p + q) Fit) := by
  refine F.ok scRAdd (fun vs H Q E h => h.1) (fun cdv A outer s H vs Q E hr h => ?_)
  obtain ⟨_, G, ⟨p, q⟩, sg, ⟨hF, a, b, hp, hq, hab⟩, k⟩ := h
  obtain ⟨v1, v2, rfl, h1, h2⟩ := two_of hF
  dsimp only at h1 h2 hp hq k
  refine ⟨_, pss_cons (ps_set (i := 2) scRAdd.nd rfl (.inl rfl) (pe_op op_add (pe_op op_mulW (pe_fld (pv 0) rfl) (pe_fld (pv 1) rfl)) (pe_op op_mulW (pe_fld (pv 1) rfl) (pe_fld (pv 0) rfl))))
    (pss_one (ps_ret (pe_ratio2 T Dg hr (by rfl) (pa_cons (pv 2) (pa_cons (pe_op op_mulW (pe_fld (pv 0) rfl) (pe_fld (pv 1) rfl)) pa_nil))))), ?_⟩
  have c : Cel G H G H [] := .start sg
  refine q_set c (P := RV (.int (p.num * q.den + q.num * p.den))) (ev_op (ev_op (ev_top T (ev_var rfl h1)) (ev_bot T (ev_var rfl h2)) (rv_mulW hp.1 (by rw [den_abs]; exact hq.2) (by omega))) (ev_op (ev_top T (ev_var rfl h2)) (ev_bot T (ev_var rfl h1)) (rv_mulW hq.1 (by rw [den_abs]; exact hp.2) (by omega))) rv_I0) fun v G2 H2 c2 s2 hv => ?_
  have h1' := up s2 h1
  have h2' := up s2 h2
  refine s_ret c2 (ev_make2 (ea_cons (ev_var rfl hv) (ea_cons (ev_op (ev_bot T (ev_var rfl h1')) (ev_bot T (ev_var rfl h2')) (rv_mulW (by rw [den_abs]; exact hp.2) (by rw [den_abs]; exact hq.2) (by omega))) ea_nil)) (Int.mul_ne_zero (K97.den_ne p) (K97.den_ne q)) (raw_big (K97.raw_add hp hq) (by omega))) fun v G3 H3 c3 s3 h3 => ?_
  exact k v G3 H3 c3.w (by rw [K97.add_divInt]; exact h3)
theorem ok_rsub (T : RatX K mg C) (Dg : Dn P w K mg base "greatest_divisor" 1 ["a", "b"] spGd) {f : Addr} {fd : FuncData} (F : Fun K "__sub__" "Ratio.__sub__" sRSub f fd) :
    FnOk P w K mg base CX0 4 f fd ["self", "other"] (spBin C (fun p q => p - q) Fit) := by
  refine F.ok scRSub (fun vs H Q E h => h.1) (fun cdv A outer s H vs Q E hr h => ?_)
  obtain ⟨_, G, ⟨p, q⟩, sg, ⟨hF, a, b, hp, hq, hab⟩, k⟩ := h
  obtain ⟨v1, v2, rfl, h1, h2⟩ := two_of hF
  dsimp only at h1 h2 hp hq k
  refine ⟨_, pss_cons (ps_set (i := 2) scRSub.nd rfl (.inl rfl) (pe_op op_sub (pe_op op_mulW (pe_fld (pv 0) rfl) (pe_fld (pv 1) rfl)) (pe_op op_mulW (pe_fld (pv 1) rfl) (pe_fld (pv 0) rfl))))
    (pss_one (ps_ret (pe_ratio2 T Dg hr (by rfl) (pa_cons (pv 2) (pa_cons (pe_op op_mulW (pe_fld (pv 0) rfl) (pe_fld (pv 1) rfl)) pa_nil))))), ?_⟩
  have c : Cel G H G H [] := .start sg
  refine q_set c (P := RV (.int (p.num * q.den - q.num * p.den))) (ev_op (ev_op (ev_top T (ev_var rfl h1)) (ev_bot T (ev_var rfl h2)) (rv_mulW hp.1 (by rw [den_abs]; exact hq.2) (by omega))) (ev_op (ev_top T (ev_var rfl h2)) (ev_bot T (ev_var rfl h1)) (rv_mulW hq.1 (by rw [den_abs]; exact hp.2) (by omega))) rv_I0) fun v G2 H2 c2 s2 hv => ?_
  have h1' := up s2 h1
  have h2' := up s2 h2
  refine s_ret c2 (ev_make2 (ea_cons (ev_var rfl hv) (ea_cons (ev_op (ev_bot T (ev_var rfl h1')) (ev_bot T (ev_var rfl h2')) (rv_mulW (by rw [den_abs]; exact hp.2) (by rw [den_abs]; exact hq.2) (by omega))) ea_nil)) (Int.mul_ne_zero (K97.den_ne p) (K97.den_ne q)) (raw_big (K97.raw_sub hp hq) (by omega))) fun v G3 H3 c3 s3 h3 => ?_
  exact k v G3 H3 c3.w (by rw [K97.sub_divInt]; exact h3)
theorem ok_rmul (T : RatX K mg C) (Dg : Dn P w K mg base "greatest_divisor" 1 ["a", "b"] spGd) {f : Addr} {fd : FuncData} (F : Fun K "__mul__" "Ratio.__mul__" sRMul f fd) :
    FnOk P w K mg base CX0 4 f fd ["self", "other"] (spBin C (fun p q => p * q) Fit) := by
  refine F.ok scRMul (fun vs H Q E h => h.1) (fun cdv A outer s H vs Q E hr h => ?_)
  obtain ⟨_, G, ⟨p, q⟩, sg, ⟨hF, a, b, hp, hq, hab⟩, k⟩ := h
  obtain ⟨v1, v2, rfl, h1, h2⟩ := two_of hF
  dsimp only at h1 h2 hp hq k
  refine ⟨_, pss_one (ps_ret (pe_ratio2 T Dg hr (by rfl) (pa_cons (pe_op op_mulW (pe_fld (pv 0) rfl) (pe_fld (pv 1) rfl)) (pa_cons (pe_op op_mulW (pe_fld (pv 0) rfl) (pe_fld (pv 1) rfl)) pa_nil)))), ?_⟩
  have c : Cel G H G H [] := .start sg
  refine s_ret c (ev_make2 (ea_cons (ev_op (ev_top T (ev_var rfl h1)) (ev_top T (ev_var rfl h2)) (rv_mulW hp.1 hq.1 (by omega))) (ea_cons (ev_op (ev_bot T (ev_var rfl h1)) (ev_bot T (ev_var rfl h2)) (rv_mulW (by rw [den_abs]; exact hp.2) (by rw [den_abs]; exact hq.2) (by omega))) ea_nil)) (Int.mul_ne_zero (K97.den_ne p) (K97.den_ne q)) (raw_big (K97.raw_mul hp hq) (by omega))) fun v G3 H3 c3 s3 h3 => ?_
  exact k v G3 H3 c3.w (by rw [K97.mul_divInt]; exact h3)
def spNeg (C : Addr) : Sp := spF (fun (x : Rat) vs G => F2 [RQ C x] vs G ∧ Sz 13000 x) (fun x => RQ C (-x)) 1
theorem ok_rneg (T : RatX K mg C) (Dg : Dn P w K mg base "greatest_divisor" 1 ["a", "b"] spGd) {f : Addr} {fd : FuncData} (F : Fun K "__neg__" "Ratio.__neg__" sRNeg f fd) :
    FnOk P w K mg base CX0 4 f fd ["self"] (spNeg C) := by
  refine F.ok scRNeg (fun vs H Q E h => h.1) (fun cdv A outer s H vs Q E hr h => ?_)
  obtain ⟨_, G, p, sg, ⟨hF, hp⟩, k⟩ := h
  obtain ⟨v1, rfl, h1⟩ := one_of hF
  refine ⟨_, pss_one (ps_ret (pe_ratio2 T Dg hr (by rfl) (pa_cons (pe_un un_neg (pe_fld (pv 0) rfl)) (pa_cons (pe_fld (pv 0) rfl) pa_nil)))), ?_⟩
  have c : Cel G H G H [] := .start sg
  refine s_ret c (ev_make2 (ea_cons (ev_un (ev_top T (ev_var rfl h1)) ru_I) (ea_cons (ev_bot T (ev_var rfl h1)) ea_nil)) (K97.den_ne p) (raw_big ⟨by rw [Int.natAbs_neg]; exact hp.1, by rw [den_abs]; exact hp.2⟩ (by decide))) fun v G3 H3 c3 s3 h3 => ?_
  refine k v G3 H3 c3.w ?_
  have e : Rat.divInt (-p.num) p.den = -p := by rw [← Rat.neg_divInt, Rat.num_divInt_den]
  rw [e] at h3
  exact h3
/-! ### quotient, is_zero -/
abbrev sQuo : Stmt := top 9
abbrev sIsz : Stmt := top 10
theorem scQuo : FnScope ["first", "second"] ["first", "second"] (defScope sQuo) := ⟨rfl, rfl, rfl, by decide +kernel, rfl, by decide +kernel, by decide +kernel⟩
theorem scIsz : FnScope ["value"] ["value"] (defScope sIsz) := ⟨rfl, rfl, rfl, by decide +kernel, rfl, by decide +kernel, by decide +kernel⟩
def spQuo (C : Addr) : Sp := spBin C (fun p q => p / q) fun p q => Fit p q ∧ q ≠ 0
def spIsz (C : Addr) : Sp := spF (fun (x : Rat) vs G => F2 [RQ C x] vs G) (fun x => RV (.bl (decide (x = 0)))) 1
theorem num_ne {q : Rat} (h : q ≠ 0) : q.num ≠ 0 := fun e => h (Rat.num_eq_zero.mp e)
theorem dn_quo (Dd : Df K mg "quotient" sQuo) (T : RatX K mg C) (Dg : Dn P w K mg base "greatest_divisor" 1 ["a", "b"] spGd) : Dn P w K mg base "quotient" 4 ["first", "second"] (spQuo C) := by
  refine dn_of Dd scQuo (fun _ _ _ _ _ _ us hl => match us, hl with | [_, _], _ => rfl) (fun vs H Q E h => h.1) (fun f cdv A outer s H vs Q E hr h => ?_)
  obtain ⟨_, G, ⟨p, q⟩, sg, ⟨hF, ⟨a, b, hp, hq, hab⟩, hne⟩, k⟩ := h
  obtain ⟨v1, v2, rfl, h1, h2⟩ := two_of hF
  dsimp only at h1 h2 hp hq hne k
  refine ⟨_, pss_one (ps_ret (pe_ratio2 T Dg hr (by rfl) (pa_cons (pe_op op_mulW (pe_fld (pv 0) rfl) (pe_fld (pv 1) rfl)) (pa_cons (pe_op op_mulW (pe_fld (pv 0) rfl) (pe_fld (pv 1) rfl)) pa_nil)))), ?_⟩
  have c : Cel G H G H [] := .start sg
  refine s_ret c (ev_make2 (ea_cons (ev_op (ev_top T (ev_var rfl h1)) (ev_bot T (ev_var rfl h2)) (rv_mulW hp.1 (by rw [den_abs]; exact hq.2) (by omega))) (ea_cons (ev_op (ev_bot T (ev_var rfl h1)) (ev_top T (ev_var rfl h2)) (rv_mulW (by rw [den_abs]; exact hp.2) hq.1 (by omega))) ea_nil)) (Int.mul_ne_zero (K97.den_ne p) (num_ne hne)) (raw_big (K97.raw_div hp hq) (by omega))) fun v G3 H3 c3 s3 h3 => ?_
  exact k v G3 H3 c3.w (by rw [K97.div_divInt]; exact h3)
theorem dn_isz (Dd : Df K mg "is_zero" sIsz) (T : RatX K mg C) : Dn P w K mg base "is_zero" 1 ["value"] (spIsz C) := by
  refine dn_of Dd scIsz (fun _ _ _ _ _ _ us hl => match us, hl with | [_], _ => rfl) (fun vs H Q E h => h.1) (fun f cdv A outer s H vs Q E hr h => ?_)
  obtain ⟨_, G, p, sg, hF, k⟩ := h
  obtain ⟨v1, rfl, h1⟩ := one_of hF
  refine ⟨_, pss_one (ps_ret (pe_cmpR op_eq (pe_fld (pv 0) rfl) pe_int (nomark _))), ?_⟩
  have c : Cel G H G H [] := .start sg
  refine s_ret c (ev_op (ev_top T (ev_var rfl h1)) ev_c (rv_eq rfl)) fun v G3 H3 c3 s3 h3 => ?_
  refine k v G3 H3 c3.w ?_
  have e : decide (V.int p.num = V.int 0) = decide (p = 0) := by
    by_cases hp : p = 0
    · subst hp; rfl
    · rw [decide_eq_false hp]
      exact decide_eq_false fun z => num_ne hp (V.int.inj z)
  rw [e] at h3
  exact h3
end
end KW
end
section
set_option Elab.async false
set_option linter.all false
set_option maxRecDepth 100000
set_option maxHeartbeats 1000000
namespace KW
open PySem PySem.Spec PyProof.Rows L2
open K97 (Sz Raw)
section
variable {K : PySem.W.Frag} {σ : L2.St} {G0 H0 G H : Hp} {cs : List (Addr × HO)} {te ta tb : TE} {P P1 P2 : VP}
/-! ### lists -/
theorem rv_cat {Rs Ss : List VP} [m1 : MoA Rs] [m2 : MoA Ss] (h : Rs.length + Ss.length ≤ 1000) : RvP cs rCat (RL Rs) (RL Ss) (RL (Rs ++ Ss)) := fun x y G p1 p2 H s hc Q q => by
  obtain ⟨a, vs, rfl, ha, fa⟩ := p1
  obtain ⟨b, ws, rfl, hb, fb⟩ := p2
  refine ⟨a, b, vs, ws, rfl, rfl, s _ _ ha, s _ _ hb, ?_, fun p hp => q _ _ _ (.new s hp) ⟨p, _, rfl, upd_same, (fa.mono m1.mo (same_new (s.free hp))).append (fb.mono m2.mo (same_new (s.free hp)))⟩⟩
  rw [← fa.len, ← fb.len]
  exact Nat.le_trans h (by decide)
theorem flat_rep (n : Nat) (v : V) : (List.replicate n [v]).flatten = List.replicate n v := by
  induction n with
  | zero => rfl
  | succ n ih => rw [List.replicate_succ, List.replicate_succ, List.flatten_cons, ih]; rfl
theorem rv_rep {R : VP} [m : Mo R] {n : Nat} (h : n ≤ 1000) : RvP cs rRep (RL [R]) (RV (.int (n : Int))) (RL (List.replicate n R)) := fun x y G p1 p2 H s hc Q q => by
  obtain ⟨a, vs, rfl, ha, fa⟩ := p1
  obtain rfl : y = .int (n : Int) := p2
  obtain ⟨v, rfl, hv⟩ := one_of fa
  refine ⟨a, _, [v], rfl, rfl, s _ _ ha, by omega, by omega, ?_, fun p hp => q _ _ _ (.new s hp) ⟨p, _, rfl, upd_same, ?_⟩⟩
  · have : sizeLine ≥ 1000 := by decide
    simp only [List.length_cons, List.length_nil, Int.toNat_natCast]
    omega
  · rw [Int.toNat_natCast]
    rw [flat_rep]
    exact (F2.rep hv).mono moA_rep.mo (same_new (s.free hp))
theorem en_rep {R : VP} [m : Mo R] {n : Nat} (ha : EvP ta σ G cs (RL [R])) (hb : EvP tb σ G cs (RV (.int (n : Int)))) (h : n ≤ 1000) : EvN (tOp rRep ta tb) σ G cs (fun o G2 => ∃ vs, o = .lst vs ∧ F2 (List.replicate n R) vs G2) := fun H s hc Q q =>
  ha H s hc _ fun x G1 H1 w1 p1 => (hb.up w1.g) H1 w1.s (hc.up w1) _ fun y G2 H2 w2 p2 => by
    obtain ⟨a, vs, rfl, ha, fa⟩ := p1
    obtain rfl : y = .int (n : Int) := p2
    obtain ⟨v, rfl, hv⟩ := one_of fa
    refine ⟨a, _, [v], rfl, rfl, w2.h _ _ (w1.s _ _ ha), by omega, by omega, ?_, fun p hp => q p _ G2 _ ?_ ((w1.trans w2).trans (.newH w2.s hp)) (w2.s.free hp) upd_same ⟨_, rfl, ?_⟩⟩
    · have : sizeLine ≥ 1000 := by decide
      simp only [List.length_cons, List.length_nil, Int.toNat_natCast]
      omega
    · exact (w1.h.trans w2.h).free hp
    · rw [Int.toNat_natCast]
      rw [flat_rep]
      exact F2.rep (m.mo _ _ _ w2.g hv)
theorem sIx_nat {n d i : Nat} (h : i ≤ n) : HT.sIx n d (some (i : Int)) = i := by
  unfold HT.sIx
  simp only [Option.getD]
  split <;> omega
theorem ev_from {Rs : List VP} {i : Nat} [m : MoA (Rs.drop i)] (h : EvP te σ G cs (RL Rs)) (hl : EvP ta σ G cs (RV (.int (i : Int)))) (hi : i ≤ Rs.length) : EvP (tSl (rSlL K) te (tPart ta) tNoPart) σ G cs (RL (Rs.drop i)) := fun H s hc Q q =>
  h H s hc _ fun x G1 H1 w1 p1 => (hl.up w1.g) H1 w1.s (hc.up w1) _ fun y G2 H2 w2 p2 => by
    obtain ⟨a, vs, rfl, ha, fa⟩ := p1
    refine ⟨_, p2, a, vs, rfl, .inl (.inl (w2.h _ _ (w1.s _ _ ha))), fun p hp => q _ _ _ ((w1.trans w2).trans (.new w2.s hp)) ⟨p, _, rfl, upd_same, ?_⟩⟩
    have e : cutV vs (some (i : Int)) none = vs.drop i := by
      have l := fa.len
      unfold cutV
      rw [sIx_nat (by omega)]
      have e2 : HT.sIx vs.length vs.length none = vs.length := rfl
      rw [e2, List.take_of_length_le (by rw [List.length_drop]; omega)]
    rw [e]
    exact (fa.drop i).mono m.mo (w2.g.trans (same_new (w2.s.free hp)))
theorem ev_till {Rs : List VP} {i : Nat} [m : MoA (Rs.take i)] (h : EvP te σ G cs (RL Rs)) (hl : EvP ta σ G cs (RV (.int (i : Int)))) (hi : i ≤ Rs.length) : EvP (tSl (rSlL K) te tNoPart (tPart ta)) σ G cs (RL (Rs.take i)) := fun H s hc Q q =>
  h H s hc _ fun x G1 H1 w1 p1 => (hl.up w1.g) H1 w1.s (hc.up w1) _ fun y G2 H2 w2 p2 => by
    obtain ⟨a, vs, rfl, ha, fa⟩ := p1
    refine ⟨_, p2, a, vs, rfl, .inl (.inl (w2.h _ _ (w1.s _ _ ha))), fun p hp => q _ _ _ ((w1.trans w2).trans (.new w2.s hp)) ⟨p, _, rfl, upd_same, ?_⟩⟩
    have e : cutV vs none (some (i : Int)) = vs.take i := by
      have l := fa.len
      unfold cutV
      rw [sIx_nat (by omega)]
      have e2 : HT.sIx vs.length 0 none = 0 := rfl
      rw [e2, List.drop_zero, Nat.sub_zero]
    rw [e]
    exact (fa.take i).mono m.mo (w2.g.trans (same_new (w2.s.free hp)))
theorem ev_rev {Rs : List VP} [m : MoA Rs.reverse] (h : EvP te σ G cs (RL Rs)) : EvP (tRevL K te) σ G cs (RL Rs.reverse) := fun H s hc Q q =>
  h H s hc _ fun x G1 H1 w1 p1 => by
    obtain ⟨a, vs, rfl, ha, fa⟩ := p1
    exact ⟨a, vs, rfl, .inl (.inl (w1.s _ _ ha)), fun p hp => q _ _ _ (w1.trans (.new w1.s hp)) ⟨p, _, rfl, upd_same, fa.rev.mono m.mo (same_new (w1.s.free hp))⟩⟩
abbrev rLen (K : PySem.W.Frag) : List V → Hp → VK → Prop := fun xs H Q => ∃ p ys, xs = [.ref p] ∧ (SqL K H p ys ∨ SqT K H p ys) ∧ Q (.int ys.length) H
theorem ev_len {Rs : List VP} (h : EvP te σ G cs (RL Rs)) : EvP (tCB (rLen K) (tCons te tNil)) σ G cs (RV (.int (Rs.length : Int))) := fun H s hc Q q =>
  h H s hc _ fun x G1 H1 w1 p1 => by
    obtain ⟨a, vs, rfl, ha, fa⟩ := p1
    refine ⟨a, vs, rfl, .inl (.inl (.inl (w1.s _ _ ha))), ?_⟩
    rw [← fa.len]
    exact q _ _ _ w1 rfl
/-- of a list in a cell -/
theorem ev_lenC {a : Addr} {vs : List V} (h : EvP te σ G cs (RV (.ref a))) (hm : (a, .lst vs) ∈ cs) : EvP (tCB (rLen K) (tCons te tNil)) σ G cs (RV (.int (vs.length : Int))) := fun H s hc Q q =>
  h H s hc _ fun x G1 H1 w1 p1 => by
    obtain rfl : x = .ref a := p1
    exact ⟨a, vs, rfl, .inl (.inl (.inl ((hc.up w1) _ hm).1)), q _ _ _ w1 rfl⟩
theorem en_list {Rs : List VP} [m : MoA Rs] (h : EvP te σ G cs (RL Rs)) : EvN (tCB (fun xs H Q => ∃ p ys, xs = [.ref p] ∧ (SqL K H p ys ∨ SqT K H p ys) ∧ ∀ l, H l = none → Q (.ref l) (upd H l (.lst ys))) (tCons te tNil)) σ G cs (fun o G2 => ∃ vs, o = .lst vs ∧ F2 Rs vs G2) := fun H s hc Q q =>
  h H s hc _ fun x G1 H1 w1 p1 => by
    obtain ⟨a, vs, rfl, ha, fa⟩ := p1
    exact ⟨a, vs, rfl, .inl (.inl (.inl (w1.s _ _ ha))), fun p hp => q p _ G1 _ (w1.h.free hp) (w1.trans (.newH w1.s hp)) (w1.s.free hp) upd_same ⟨_, rfl, fa⟩⟩
/-- an item of a list in a cell -/
theorem rv_ixC {a : Addr} {vs : List V} {v : V} {i : Nat} [m : Mo P] (hm : (a, .lst vs) ∈ cs) (hv : vs[i]? = some v) (hp : P v G) (h1 : EvP ta σ G cs (RV (.ref a))) (h2 : EvP tb σ G cs (RV (.int (i : Int)))) : EvP (tOp (rIxL K) ta tb) σ G cs P := fun H s hc Q q =>
  h1 H s hc _ fun x G1 H1 w1 p1 => (h2.up w1.g) H1 w1.s (hc.up w1) _ fun y G2 H2 w2 p2 => by
    obtain rfl : x = .ref a := p1
    obtain rfl : y = .int (i : Int) := p2
    exact ⟨a, vs, _, v, rfl, rfl, .inl (.inl (((hc.up w1).up w2) _ hm).1), atI_nat hv, q v G2 H2 (w1.trans w2) (m.mo _ _ _ (w1.g.trans w2.g) hp)⟩
theorem ev_sub {i j : Int} (h1 : EvP ta σ G cs (RV (.int i))) (h2 : EvP tb σ G cs (RV (.int j))) : EvP (tOp (rI0 fun i j => .int (i - j)) ta tb) σ G cs (RV (.int (i - j))) := ev_op h1 h2 rv_I0
theorem ev_add {i j : Int} (h1 : EvP ta σ G cs (RV (.int i))) (h2 : EvP tb σ G cs (RV (.int j))) : EvP (tOp (rI0 fun i j => .int (i + j)) ta tb) σ G cs (RV (.int (i + j))) := ev_op h1 h2 rv_I0
/-! ### dicts in cells -/
/-- a dict with keys of numbers and texts, walked just now or not -/
def IsK (o : HO) (kvs : List (L2.Key × V)) : Prop := o = .dK kvs ∨ ∃ od, o = .frz od (.dK kvs)
def IsT (o : HO) (kvs : List (List L2.Key × V)) : Prop := o = .dT kvs ∨ ∃ od, o = .frz od (.dT kvs)
theorem IsK.rd {o : HO} {kvs : List (L2.Key × V)} {d : Addr} (h : IsK o kvs) (e : H d = some o) : Rd H d (.dK kvs) := by
  rcases h with rfl | ⟨od, rfl⟩
  · exact .inl e
  · exact .inr ⟨od, e⟩
theorem IsT.rd {o : HO} {kvs : List (List L2.Key × V)} {d : Addr} (h : IsT o kvs) (e : H d = some o) : Rd H d (.dT kvs) := by
  rcases h with rfl | ⟨od, rfl⟩
  · exact .inl e
  · exact .inr ⟨od, e⟩
/-- a tuple that is a key -/
def RK (ks : List L2.Key) : VP := fun v G => ∃ b, v = .ref b ∧ G b = some (.tup (ks.map kV))
instance {ks : List L2.Key} : Mo (RK ks) := ⟨fun _ _ _ e ⟨b, h1, h2⟩ => ⟨b, h1, e _ _ h2⟩⟩
variable {d : Addr} {o : HO} {kvs : List (L2.Key × V)} {kvt : List (List L2.Key × V)} {k : L2.Key} {kt : List L2.Key} {v : V}
theorem ev_dgetK (hm : (d, o) ∈ cs) (ho : IsK o kvs) (h1 : EvP ta σ G cs (RV (.ref d))) (h2 : EvP tb σ G cs (RV (kV k))) (hv : valV kvs k = some v) [m : Mo P] (hp : P v G) : EvP (tDGet ta tb) σ G cs P := fun H s hc Q q =>
  h1 H s hc _ fun x G1 H1 w1 p1 => (h2.up w1.g) H1 w1.s (hc.up w1) _ fun y G2 H2 w2 p2 => by
    obtain rfl : x = .ref d := p1
    obtain rfl : y = kV k := p2
    exact ⟨d, v, rfl, .inl ⟨kvs, k, ho.rd (((hc.up w1).up w2) _ hm).1, rfl, hv.symm⟩, q v G2 H2 (w1.trans w2) (m.mo _ _ _ (w1.g.trans w2.g) hp)⟩
theorem ev_dgetT (hm : (d, o) ∈ cs) (ho : IsT o kvt) (h1 : EvP ta σ G cs (RV (.ref d))) (h2 : EvP tb σ G cs (RK kt)) (hv : valV kvt kt = some v) [m : Mo P] (hp : P v G) : EvP (tDGet ta tb) σ G cs P := fun H s hc Q q =>
  h1 H s hc _ fun x G1 H1 w1 p1 => (h2.up w1.g) H1 w1.s (hc.up w1) _ fun y G2 H2 w2 p2 => by
    obtain rfl : x = .ref d := p1
    obtain ⟨b, rfl, hb⟩ := p2
    exact ⟨d, v, rfl, .inr ⟨kvt, kt, b, ho.rd (((hc.up w1).up w2) _ hm).1, rfl, w2.s _ _ hb, hv.symm⟩, q v G2 H2 (w1.trans w2) (m.mo _ _ _ (w1.g.trans w2.g) hp)⟩
theorem ev_dinK (hm : (d, o) ∈ cs) (ho : IsK o kvs) (h2 : EvP tb σ G cs (RV (kV k))) (h1 : EvP ta σ G cs (RV (.ref d))) : EvP (tDIn tb ta) σ G cs (RV (.bl (valV kvs k).isSome)) := fun H s hc Q q =>
  h2 H s hc _ fun y G1 H1 w1 p1 => (h1.up w1.g) H1 w1.s (hc.up w1) _ fun x G2 H2 w2 p2 => by
    obtain rfl : y = kV k := p1
    obtain rfl : x = .ref d := p2
    exact ⟨d, _, rfl, .inl ⟨kvs, k, ho.rd (((hc.up w1).up w2) _ hm).1, rfl, rfl⟩, q _ G2 H2 (w1.trans w2) rfl⟩
theorem ev_dninK (hm : (d, o) ∈ cs) (ho : IsK o kvs) (h2 : EvP tb σ G cs (RV (kV k))) (h1 : EvP ta σ G cs (RV (.ref d))) : EvP (tDNotIn tb ta) σ G cs (RV (.bl (!(valV kvs k).isSome))) := fun H s hc Q q =>
  h2 H s hc _ fun y G1 H1 w1 p1 => (h1.up w1.g) H1 w1.s (hc.up w1) _ fun x G2 H2 w2 p2 => by
    obtain rfl : y = kV k := p1
    obtain rfl : x = .ref d := p2
    exact ⟨d, _, rfl, .inl ⟨kvs, k, ho.rd (((hc.up w1).up w2) _ hm).1, rfl, rfl⟩, q _ G2 H2 (w1.trans w2) rfl⟩
theorem ev_dninT (hm : (d, o) ∈ cs) (ho : IsT o kvt) (h2 : EvP tb σ G cs (RK kt)) (h1 : EvP ta σ G cs (RV (.ref d))) : EvP (tDNotIn tb ta) σ G cs (RV (.bl (!(valV kvt kt).isSome))) := fun H s hc Q q =>
  h2 H s hc _ fun y G1 H1 w1 p1 => (h1.up w1.g) H1 w1.s (hc.up w1) _ fun x G2 H2 w2 p2 => by
    obtain ⟨b, rfl, hb⟩ := p1
    obtain rfl : x = .ref d := p2
    exact ⟨d, _, rfl, .inr ⟨kvt, kt, b, ho.rd (((hc.up w1).up w2) _ hm).1, rfl, w2.s _ _ (w2.g _ _ hb), rfl⟩, q _ G2 H2 (w1.trans w2) rfl⟩
variable {D : Ends} {u t : TS} {i : Nat}
/-- d[k] = e -/
theorem s_dputK (c : Cel G0 H0 G H ((d, .dK kvs) :: cs)) (h : EvP te σ G ((d, .dK kvs) :: cs) P) (h1 : EvP ta σ G ((d, .dK kvs) :: cs) (RV (.ref d))) (h2 : EvP tb σ G ((d, .dK kvs) :: cs) (RV (kV k))) (hz : kvs.length ≤ 1000) [m : Mo P]
    (q : ∀ v G2 H2, Cel G0 H0 G2 H2 ((d, .dK (putK kvs k v)) :: cs) → L2.Same G G2 → P v G2 → D.nx σ H2) : sDPut ta tb te D σ H :=
  h H c.s c.hc _ fun v G1 H1 w1 p1 => (h1.up w1.g) H1 w1.s (c.go w1).hc _ fun x G2 H2 w2 p2 => (h2.up (w1.g.trans w2.g)) H2 w2.s ((c.go w1).go w2).hc _ fun y G3 H3 w3 p3 => by
    obtain rfl : x = .ref d := p2
    obtain rfl : y = kV k := p3
    have c3 := ((c.go w1).go w2).go w3
    exact ⟨d, _, rfl, DPut.k c3.hd (small1000 hz), q v G3 _ (c3.put _) ((w1.g.trans w2.g).trans w3.g) (m.mo _ _ _ (w2.g.trans w3.g) p1)⟩
theorem q_dputK (c : Cel G0 H0 G H ((d, .dK kvs) :: cs)) (h : EvP te σ G ((d, .dK kvs) :: cs) P) (h1 : EvP ta σ G ((d, .dK kvs) :: cs) (RV (.ref d))) (h2 : EvP tb σ G ((d, .dK kvs) :: cs) (RV (kV k))) (hz : kvs.length ≤ 1000) [m : Mo P]
    (q : ∀ v G2 H2, Cel G0 H0 G2 H2 ((d, .dK (putK kvs k v)) :: cs) → L2.Same G G2 → P v G2 → u D σ H2) : tSeq (sDPut ta tb te) u D σ H := s_dputK (D := { D with nx := u D }) c h h1 h2 hz q
theorem s_dputT (c : Cel G0 H0 G H ((d, .dT kvt) :: cs)) (h : EvP te σ G ((d, .dT kvt) :: cs) P) (h1 : EvP ta σ G ((d, .dT kvt) :: cs) (RV (.ref d))) (h2 : EvP tb σ G ((d, .dT kvt) :: cs) (RK kt)) (hz : kvt.length ≤ 1000) [m : Mo P]
    (q : ∀ v G2 H2, Cel G0 H0 G2 H2 ((d, .dT (putK kvt kt v)) :: cs) → L2.Same G G2 → P v G2 → D.nx σ H2) : sDPut ta tb te D σ H :=
  h H c.s c.hc _ fun v G1 H1 w1 p1 => (h1.up w1.g) H1 w1.s (c.go w1).hc _ fun x G2 H2 w2 p2 => (h2.up (w1.g.trans w2.g)) H2 w2.s ((c.go w1).go w2).hc _ fun y G3 H3 w3 p3 => by
    obtain rfl : x = .ref d := p2
    obtain ⟨b, rfl, hb⟩ := p3
    have c3 := ((c.go w1).go w2).go w3
    exact ⟨d, _, rfl, DPut.t c3.hd (w3.s _ _ hb) (small1000 hz), q v G3 _ (c3.put _) ((w1.g.trans w2.g).trans w3.g) (m.mo _ _ _ (w2.g.trans w3.g) p1)⟩
theorem q_dputT (c : Cel G0 H0 G H ((d, .dT kvt) :: cs)) (h : EvP te σ G ((d, .dT kvt) :: cs) P) (h1 : EvP ta σ G ((d, .dT kvt) :: cs) (RV (.ref d))) (h2 : EvP tb σ G ((d, .dT kvt) :: cs) (RK kt)) (hz : kvt.length ≤ 1000) [m : Mo P]
    (q : ∀ v G2 H2, Cel G0 H0 G2 H2 ((d, .dT (putK kvt kt v)) :: cs) → L2.Same G G2 → P v G2 → u D σ H2) : tSeq (sDPut ta tb te) u D σ H := s_dputT (D := { D with nx := u D }) c h h1 h2 hz q
theorem ev_lenK (h1 : EvP ta σ G cs (RV (.ref d))) (hm : (d, .dK kvs) ∈ cs) : EvP (tCB (fun xs H Q => ∃ a kvs, xs = [V.ref a] ∧ H a = some (.dK kvs) ∧ Q (.int kvs.length) H) (tCons ta tNil)) σ G cs (RV (.int (kvs.length : Int))) := fun H s hc Q q =>
  h1 H s hc _ fun x G1 H1 w1 p1 => by
    obtain rfl : x = .ref d := p1
    exact ⟨d, kvs, rfl, ((hc.up w1) _ hm).1, q _ _ _ w1 rfl⟩
theorem ev_lenT (h1 : EvP ta σ G cs (RV (.ref d))) (hm : (d, .dT kvt) ∈ cs) : EvP (tCB rLenT (tCons ta tNil)) σ G cs (RV (.int (kvt.length : Int))) := fun H s hc Q q =>
  h1 H s hc _ fun x G1 H1 w1 p1 => by
    obtain rfl : x = .ref d := p1
    exact ⟨d, kvt, rfl, ((hc.up w1) _ hm).1, q _ _ _ w1 rfl⟩
/-! ### dicts that are walked -/
theorem lock_same {od : Obj} (s : L2.Same G H) (hg : G d = none) : L2.Same G (upd H d (.frz od o)) := fun a z e => by
  rw [upd_ne (ne_of_none e hg)]
  exact s a z e
theorem HC.lock {od : Obj} (h : HC ((d, o) :: cs) G H) (hn : ∀ c ∈ cs, c.1 ≠ d) : HC ((d, .frz od o) :: cs) G (upd H d (.frz od o)) := fun c hc => by
  rcases List.mem_cons.mp hc with rfl | hc
  · exact ⟨upd_same, (h (d, o) List.mem_cons_self).2⟩
  · exact ⟨by rw [upd_ne (hn c hc)]; exact (h c (List.mem_cons_of_mem _ hc)).1, (h c (List.mem_cons_of_mem _ hc)).2⟩
theorem Gw.unlock {od : Obj} {G2 H2 : Hp} (hd : H d = some o) (hg : G d = none) (w : Gw G (upd H d (.frz od o)) G2 H2) : Gw G H G2 (upd H2 d o) ∧ H2 d = some (.frz od o) := by
  have g2 : G2 d = none := w.f d _ upd_same hg
  refine ⟨⟨w.g, fun a z e => ?_, fun a z e => ?_, fun a z e1 e2 => ?_⟩, w.h d _ upd_same⟩
  · by_cases h : a = d
    · subst h; rw [upd_same]; rw [hd] at e; exact e
    · rw [upd_ne h]; exact w.h a z (by rw [upd_ne h]; exact e)
  · rw [upd_ne (ne_of_none e g2)]; exact w.s a z e
  · by_cases h : a = d
    · subst h; exact g2
    · exact w.f a z (by rw [upd_ne h]; exact e1) e2
theorem ev_lock {t : TE} (mu : Mut (some o)) (hm : (d, o) ∈ cs) {cs2 : List (Addr × HO)} (h2 : ∀ c ∈ cs2, c ∈ cs) (hn : ∀ c ∈ cs2, c.1 ≠ d) (h : ∀ od, EvP t σ G ((d, .frz od o) :: cs2) P) : EvP (tLockE t) σ G cs P := fun H s hc Q q => by
  obtain ⟨k1, k2⟩ := hc _ hm
  refine ⟨d, o, k1, mu, fun od => ?_⟩
  have hc2 : HC ((d, o) :: cs2) G H := fun c h => by
    rcases List.mem_cons.mp h with rfl | h
    · exact ⟨k1, k2⟩
    · exact hc c (h2 c h)
  refine h od _ (lock_same s k2) (hc2.lock hn) _ fun v G2 H2 w p => ?_
  obtain ⟨w2, e⟩ := Gw.unlock k1 k2 w
  exact ⟨e, q v G2 _ w2 p⟩
/-- the keys of a dict that is locked -/
theorem ew_keys {od : Obj} (h : EvP ta σ G cs (RV (.ref d))) (hm : (d, .frz od (.dK kvs)) ∈ cs) : EvW (iKeys ta) σ G cs kvs.length (fun i x _ => ∃ k v, kvs[i]? = some (k, v) ∧ x = kV k) := fun H s hc R q =>
  h H s hc _ fun v G2 H2 w p => by
    obtain rfl : v = .ref d := p
    refine ⟨d, od, rfl, .inl ⟨kvs, ((hc.up w) _ hm).1, q _ G2 H2 w ⟨fun i G1 H1 hi s1 s2 hc1 => ⟨⟨(hc1 _ hm).1, hi⟩, fun x H' y => ?_⟩, fun G1 H1 s1 s2 hc1 => ⟨(hc1 _ hm).1, Nat.le_refl _⟩⟩⟩⟩
    obtain ⟨rfl, k, v, e, rfl⟩ := y
    exact ⟨G1, .refl s2, k, v, e, rfl⟩
end
end KW
end
section
set_option Elab.async false
set_option linter.all false
set_option maxRecDepth 100000
set_option maxHeartbeats 1000000
namespace KW
open PySem PySem.Spec PyProof.Rows L2
open K97 (Sz Raw)
/-- all that the walks lean on below the def at hand -/
structure Kit (P : Program) (w : World) (K : PySem.W.Frag) (mg : Str → Option Value) (base : Heap) (C : Addr) : Prop where
  T : RatX K mg C
  gd : Dn P w K mg base "greatest_divisor" 1 ["a", "b"] spGd
  quo : Dn P w K mg base "quotient" 4 ["first", "second"] (spQuo C)
  isz : Dn P w K mg base "is_zero" 1 ["value"] (spIsz C)
  len : mg "len" = none
  range : mg "range" = none
  enum : mg "enumerate" = none
  zip : mg "zip" = none
  list : mg "list" = none
  sorted : mg "sorted" = none
  all : mg "all" = none
  abs : mg "abs" = none
  str : mg "str" = none
  int : mg "int" = none
  isi : mg "isinstance" = none
  bool : mg "bool" = none
section
variable {P : Program} {w : World} {K : PySem.W.Frag} {mg : Str → Option Value} {base : Heap} {C : Addr} {σ : L2.St} {G : Hp} {cs : List (Addr × HO)} {ta tb : TE}
theorem binds2 {a b : Str} {x qual : Str} {st : Stmt} {f : Addr} {fd : FuncData} (F : Fun K x qual st f fd)
    (h : ∀ (kV doc pm : Value) (an : Option Addr) (cdv ct : Value) (us : List Value), us.length = [a, b].length → bindArgs (PySem.W.fnOf x qual (defArgs st) (defBody st) (defScope st) .none kV doc pm an cdv ct) ⟨us, []⟩ = pure ([a, b].zip us)) : Binds K fd [a, b] [] := F.binds h
theorem op_qadd {X : Cx} (B : Kit X.prog X.w X.K X.mg X.base C) (hr : Room 4 X.A) : OpR X (binaryOp .Add) (rOwn2 C (spBin C (fun p q => p + q) Fit)) := by
  obtain ⟨f, fd, h1, h2, F⟩ := B.T.add
  exact op_own (op := .Add) (ok_radd B.T B.gd F) hr (F.binds fun _ _ _ _ _ _ us hl => match us, hl with | [_, _], _ => rfl) B.T.sf h1 h2
theorem op_qsub {X : Cx} (B : Kit X.prog X.w X.K X.mg X.base C) (hr : Room 4 X.A) : OpR X (binaryOp .Sub) (rOwn2 C (spBin C (fun p q => p - q) Fit)) := by
  obtain ⟨f, fd, h1, h2, F⟩ := B.T.sub
  exact op_own (op := .Sub) (ok_rsub B.T B.gd F) hr (F.binds fun _ _ _ _ _ _ us hl => match us, hl with | [_, _], _ => rfl) B.T.sf h1 h2
theorem op_qmul {X : Cx} (B : Kit X.prog X.w X.K X.mg X.base C) (hr : Room 4 X.A) : OpR X (binaryOp .Mult) (rOwn2 C (spBin C (fun p q => p * q) Fit)) := by
  obtain ⟨f, fd, h1, h2, F⟩ := B.T.mul
  exact op_own (op := .Mult) (ok_rmul B.T B.gd F) hr (F.binds fun _ _ _ _ _ _ us hl => match us, hl with | [_, _], _ => rfl) B.T.sf h1 h2
theorem un_q {X : Cx} (B : Kit X.prog X.w X.K X.mg X.base C) (hr : Room 4 X.A) : UnR X (unaryOp .USub) (rOwn1 C (spNeg C)) := by
  obtain ⟨f, fd, h1, h2, F⟩ := B.T.neg
  exact un_own (ok_rneg B.T B.gd F) hr (F.binds fun _ _ _ _ _ _ us hl => match us, hl with | [_], _ => rfl) h1 h2
/-! ### how they are read -/
theorem rv_q {f : Rat → Rat → Rat} {pre : Rat → Rat → Prop} {p q : Rat} (h : pre p q) : RvP cs (rOwn2 C (spBin C f pre)) (RQ C p) (RQ C q) (RQ C (f p q)) := fun x y G p1 p2 H s hc Q k => by
  obtain ⟨a, dx, rfl, ha⟩ := p1
  obtain ⟨b, dy, rfl, hb⟩ := p2
  exact ⟨⟨a, dx, _, rfl, s _ _ ha⟩, ⟨b, dy, _, rfl, s _ _ hb⟩, rfl, G, (p, q), s, ⟨⟨⟨a, dx, rfl, ha⟩, ⟨b, dy, rfl, hb⟩, trivial⟩, h⟩, fun v G2 H2 w o => k v G2 H2 w o⟩
theorem ev_qop {f : Rat → Rat → Rat} {pre : Rat → Rat → Prop} {p q : Rat} (h1 : EvP ta σ G cs (RQ C p)) (h2 : EvP tb σ G cs (RQ C q)) (h : pre p q) : EvP (tOp (rOwn2 C (spBin C f pre)) ta tb) σ G cs (RQ C (f p q)) := ev_op h1 h2 (rv_q h)
theorem ev_qneg {p : Rat} (h1 : EvP ta σ G cs (RQ C p)) (h : Sz 13000 p) : EvP (tUn (rOwn1 C (spNeg C)) ta) σ G cs (RQ C (-p)) := ev_un h1 fun x G p1 H s hc Q k => by
  obtain ⟨a, dx, rfl, ha⟩ := p1
  exact ⟨⟨a, dx, _, rfl, s _ _ ha⟩, rfl, G, p, s, ⟨⟨⟨a, dx, rfl, ha⟩, trivial⟩, h⟩, fun v G2 H2 w o => k v G2 H2 w o⟩
theorem ev_quo {p q : Rat} (h1 : EvP ta σ G cs (RQ C p)) (h2 : EvP tb σ G cs (RQ C q)) (h : Fit p q) (hn : q ≠ 0) : EvP (tCall (spQuo C) [] E0 (tCons ta (tCons tb tNil))) σ G cs (RQ C (p / q)) :=
  ev_call (ea_cons h1 (ea_cons h2 ea_nil)) (fun vs G hF H s hc Q k => ⟨hF.len.symm, G, (p, q), s, ⟨hF, h, hn⟩, fun v G2 H2 w o => k v G2 H2 w o⟩)
theorem ev_isz {p : Rat} (h1 : EvP ta σ G cs (RQ C p)) : EvP (tCall (spIsz C) [] E0 (tCons ta tNil)) σ G cs (RV (.bl (decide (p = 0)))) :=
  ev_call (ea_cons h1 ea_nil) (fun vs G hF H s hc Q k => ⟨hF.len.symm, G, p, s, hF, fun v G2 H2 w o => k v G2 H2 w o⟩)
theorem div_one (n : Int) : Rat.divInt n 1 = (n : Rat) := by
  rw [Rat.divInt_eq_div]
  grind
set_option exponentiation.threshold 20000
theorem one_big : (1 : Nat) ≤ 2 ^ 13500 := Nat.one_le_two_pow
theorem ev_qint {n : Int} (h : EvP ta σ G cs (RV (.int n))) (hn : n.natAbs < 2 ^ 13500) : EvP (tMake C (spRI C) [.int 1] E0 (tCons ta tNil)) σ G cs (RQ C (n : Rat)) := by
  have := ev_make1 (C := C) (ea_cons h ea_nil) hn
  rw [div_one] at this
  exact this
theorem ev_q0 (h : EvP ta σ G cs (RV (.int 0))) : EvP (tMake C (spRI C) [.int 1] E0 (tCons ta tNil)) σ G cs (RQ C 0) := ev_qint h (Nat.lt_of_lt_of_le (by decide) one_big)
theorem ev_q1 (h : EvP ta σ G cs (RV (.int 1))) : EvP (tMake C (spRI C) [.int 1] E0 (tCons ta tNil)) σ G cs (RQ C 1) := ev_qint h (Nat.one_lt_two_pow (by decide))
/-! ### == and != -/
def spEq (C : Addr) (g : Bool → Bool) : Sp := spF (fun (x : Rat × Rat) vs G => F2 [RQ C x.1, RQ C x.2] vs G) (fun x => RV (.bl (g (decide (x.1 = x.2))))) 2
theorem scREq : FnScope ["self", "other"] ["self", "other"] (defScope sREq) := ⟨rfl, rfl, rfl, by decide +kernel, rfl, by decide +kernel, by decide +kernel⟩
theorem scRNe : FnScope ["self", "other"] ["self", "other"] (defScope sRNe) := ⟨rfl, rfl, rfl, by decide +kernel, rfl, by decide +kernel, by decide +kernel⟩
theorem rat_eq (p q : Rat) : (decide (V.int p.num = V.int q.num) && decide (V.int p.den = V.int q.den)) = decide (p = q) := by
  by_cases h : p = q
  · subst h; simp
  · rw [decide_eq_false h, Bool.and_eq_false_iff]
    by_cases h1 : p.num = q.num
    · refine .inr (decide_eq_false fun z => h (Rat.ext h1 ?_))
      have := V.int.inj z
      omega
    · exact .inl (decide_eq_false fun z => h1 (V.int.inj z))
theorem ok_req (B : Kit P w K mg base C) {f : Addr} {fd : FuncData} (F : Fun K "__eq__" "Ratio.__eq__" sREq f fd) :
    FnOk P w K mg base CX0 1 f fd ["self", "other"] (spEq C id) := by
  refine F.ok scREq (fun vs H Q E h => h.1) (fun cdv A outer s H vs Q E hr h => ?_)
  obtain ⟨_, G, ⟨p, q⟩, sg, hF, k⟩ := h
  obtain ⟨v1, v2, rfl, h1, h2⟩ := two_of hF
  dsimp only at h1 h2 k
  refine ⟨_, pss_cons (ps_if (pt_not (pt_val (pe_callB call_isi (by rfl) B.isi boot_isinstance (pa_cons (pv 1) (pa_cons (pe_glob (v := .ref C) (by rfl) B.T.gC rfl) pa_nil))))) (pss_one (ps_ret pe_bl)) pss_nil)
    (pss_one (ps_ret (pe_and (pe_cmpR op_eq (pe_fld (pv 0) rfl) (pe_fld (pv 1) rfl) (nomark _)) (pe_one (pe_cmpR op_eq (pe_fld (pv 0) rfl) (pe_fld (pv 1) rfl) (nomark _)))))), ?_⟩
  have c : Cel G H G H [] := .start sg
  have isi : EvP (tCB (rIsi K) (tCons (tVar 1) (tCons (tC (.ref C)) tNil))) (start ["self", "other"] [v1, v2]) G [] (RV (.bl true)) := ev_CB (ea_cons (ev_var rfl h2) (ea_cons ev_c ea_nil)) fun xs G pa H s hc Q q => by
    obtain ⟨a, b, rfl, ⟨a', dx, rfl, ha⟩, rfl⟩ := two_of pa
    refine ⟨_, _, _, _, true, rfl, .own C, .base (.ins (s _ _ ha) B.T.cl B.T.cls B.T.clg B.T.clt B.T.mro), ?_, q _ G H (.refl s) rfl⟩
    unfold PySem.W.kitOne
    rw [if_pos (by simp)]
  refine q_if c (et_not (et_B isi)) (fun hf => by cases hf) fun _ G2 H2 c2 s2 => ?_
  have h1' := up s2 h1
  have h2' := up s2 h2
  refine s_ret c2 (ev_andV (ev_op (ev_top B.T (ev_var rfl h1')) (ev_top B.T (ev_var rfl h2')) (rv_eq rfl)) fun _ => ev_op (ev_bot B.T (ev_var rfl h1')) (ev_bot B.T (ev_var rfl h2')) (rv_eq rfl)) fun v G3 H3 c3 s3 h3 => ?_
  rw [rat_eq] at h3
  exact k v G3 H3 c3.w h3
theorem ok_rne (B : Kit P w K mg base C) {f : Addr} {fd : FuncData} (F : Fun K "__ne__" "Ratio.__ne__" sRNe f fd) :
    FnOk P w K mg base CX0 2 f fd ["self", "other"] (spEq C not) := by
  refine F.ok scRNe (fun vs H Q E h => h.1) (fun cdv A outer s H vs Q E hr h => ?_)
  obtain ⟨_, G, ⟨p, q⟩, sg, hF, k⟩ := h
  obtain ⟨v1, v2, rfl, h1, h2⟩ := two_of hF
  dsimp only at h1 h2 k
  obtain ⟨f2, fd2, g1, g2, F2'⟩ := B.T.eq
  refine ⟨_, pss_one (ps_ret (pe_not (pe_cmpR (op := .Eq) (cmp_own (C := C) (ok_req B F2') hr (F2'.binds fun _ _ _ _ _ _ us hl => match us, hl with | [_, _], _ => rfl) g1 g2 (fun _ _ => rfl)) (pv 0) (pv 1) (nomark _)))), ?_⟩
  have c : Cel G H G H [] := .start sg
  refine s_ret c (ev_notV (a := decide (p = q)) (ev_op (ev_var rfl h1) (ev_var rfl h2) fun x y G p1 p2 H s hc Q k => ?_)) fun v G3 H3 c3 s3 h3 => k v G3 H3 c3.w h3
  obtain ⟨a, dx, rfl, ha⟩ := p1
  obtain ⟨b, dy, rfl, hb⟩ := p2
  exact ⟨⟨a, dx, _, rfl, s _ _ ha⟩, ⟨b, dy, _, rfl, s _ _ hb⟩, rfl, G, (p, q), s, ⟨⟨a, dx, rfl, ha⟩, ⟨b, dy, rfl, hb⟩, trivial⟩, fun v G2 H2 w o => k v G2 H2 w o⟩
theorem op_qne {X : Cx} (B : Kit X.prog X.w X.K X.mg X.base C) (hr : Room 2 X.A) : OpR X (compareOp .NotEq) (rOwn2 C (spEq C not)) := by
  obtain ⟨f, fd, h1, h2, F⟩ := B.T.ne
  exact cmp_own (op := .NotEq) (ok_rne B F) hr (F.binds fun _ _ _ _ _ _ us hl => match us, hl with | [_, _], _ => rfl) h1 h2 (fun _ _ => rfl)
theorem ev_qne {p q : Rat} (h1 : EvP ta σ G cs (RQ C p)) (h2 : EvP tb σ G cs (RQ C q)) : EvP (tOp (rOwn2 C (spEq C not)) ta tb) σ G cs (RV (.bl (!decide (p = q)))) := ev_op h1 h2 fun x y G p1 p2 H s hc Q k => by
  obtain ⟨a, dx, rfl, ha⟩ := p1
  obtain ⟨b, dy, rfl, hb⟩ := p2
  exact ⟨⟨a, dx, _, rfl, s _ _ ha⟩, ⟨b, dy, _, rfl, s _ _ hb⟩, rfl, G, (p, q), s, ⟨⟨a, dx, rfl, ha⟩, ⟨b, dy, rfl, hb⟩, trivial⟩, fun v G2 H2 w o => k v G2 H2 w o⟩
/-! ### rows -/
def RRow (C : Addr) (r : List Rat) : VP := RL (r.map (RQ C))
instance {r : List Rat} : Mo (RRow C r) := inferInstanceAs (Mo (RL (r.map (RQ C))))
theorem row_get {r : List Rat} {j : Nat} (h : j < r.length) : (r.map (RQ C))[j]? = some (RQ C (K97.at0 r j)) := by
  rw [List.getElem?_map, List.getElem?_eq_getElem h, K97.at0_lt h]
  rfl
theorem ev_ixR {r : List Rat} {j : Nat} (h1 : EvP ta σ G cs (RRow C r)) (h2 : EvP tb σ G cs (RV (.int (j : Int)))) (h : j < r.length) : EvP (tOp (rIxL K) ta tb) σ G cs (RQ C (K97.at0 r j)) := ev_op h1 h2 (rv_ixL (row_get h))
theorem rep_row {n : Nat} {q : Rat} : List.replicate n (RQ C q) = (List.replicate n q).map (RQ C) := by rw [List.map_replicate]
end
end KW
end
section
set_option Elab.async false
set_option linter.all false
set_option maxRecDepth 100000
set_option maxHeartbeats 1000000
namespace KW
open PySem PySem.Spec PyProof.Rows L2
open K97 (Sz Raw BE at0 subF redStep redAt RowSz BSz)
section
variable {K : PySem.W.Frag} {σ : L2.St} {G0 H0 G H : Hp} {cs : List (Addr × HO)} {te ta tb : TE} {P : VP} {C : Addr} {D : Ends} {u : TS}
theorem s_appE {l : Addr} {xs : List V} (c : Cel G0 H0 G H ((l, .lst xs) :: cs)) (h0 : EvP ta σ G ((l, .lst xs) :: cs) (RV (.ref l))) (h : EvP te σ G ((l, .lst xs) :: cs) P) (hz : xs.length ≤ 1000) [m : Mo P]
    (k : ∀ v G2 H2, Cel G0 H0 G2 H2 ((l, .lst (xs ++ [v])) :: cs) → L2.Same G G2 → P v G2 → D.nx σ H2) : tDrop (tBM K "list" rAppend ta (tCons te tNil)) D σ H :=
  h0 H c.s c.hc _ fun x G1 H1 w1 p1 => by
    obtain rfl : x = .ref l := p1
    have c1 := c.go w1
    exact ⟨.inl ⟨rfl, _, .inl (.inl c1.hd)⟩, (h.up w1.g) H1 c1.s c1.hc _ fun v G2 H2 w p => ⟨l, xs, v, rfl, rfl, (c1.go w).hd, small1000 hz, k v G2 _ ((c1.go w).put _) (w1.g.trans w.g) p⟩⟩
theorem q_appE {l : Addr} {xs : List V} (c : Cel G0 H0 G H ((l, .lst xs) :: cs)) (h0 : EvP ta σ G ((l, .lst xs) :: cs) (RV (.ref l))) (h : EvP te σ G ((l, .lst xs) :: cs) P) (hz : xs.length ≤ 1000) [m : Mo P]
    (k : ∀ v G2 H2, Cel G0 H0 G2 H2 ((l, .lst (xs ++ [v])) :: cs) → L2.Same G G2 → P v G2 → u D σ H2) : tSeq (tDrop (tBM K "list" rAppend ta (tCons te tNil))) u D σ H := s_appE (D := { D with nx := u D }) c h0 h hz k
theorem ev_row {n : Nat} {g : Nat → Rat} (h : EvP te σ G cs (RL ((List.range n).map fun i => RQ C (g i)))) : EvP te σ G cs (RRow C ((List.range n).map g)) := by
  unfold RRow
  rw [List.map_map]
  exact h
theorem mem_head {α : Type} {a : α} {l : List α} : a ∈ a :: l := List.mem_cons_self
theorem mem_2 {α : Type} {a b : α} {l : List α} : a ∈ b :: a :: l := List.mem_cons_of_mem _ List.mem_cons_self
theorem mem_3 {α : Type} {a b c : α} {l : List α} : a ∈ b :: c :: a :: l := List.mem_cons_of_mem _ (List.mem_cons_of_mem _ List.mem_cons_self)
end
/-! ### the class Basis -/
abbrev cBasis : Stmt := top 22
abbrev sBI : Stmt := inClass cBasis 0
abbrev sBRed : Stmt := inClass cBasis 1
abbrev sBAdd : Stmt := inClass cBasis 2
structure BasX (K : PySem.W.Frag) (mg : Str → Option Value) (CB : Addr) : Prop where
  cl : Cls K CB
  nR : NoAttr K CB "rows"
  gC : mg "Basis" = some (.ref CB)
  mks : PySem.W.makesIn K CB = true
  kp : PySem.W.keepIn K (.ref CB) = true
  init : Mf K CB "__init__" "Basis.__init__" sBI
  reduced : Mf K CB "reduced" "Basis.reduced" sBRed
  add : Mf K CB "add" "Basis.add" sBAdd
/-- a basis with its list at l -/
def RBas (CB l : Addr) : VP := fun v G => ∃ a dx, v = .ref a ∧ G a = some (.ins CB dx [("rows", .ref l)])
instance {CB l : Addr} : Mo (RBas CB l) := ⟨fun _ _ _ e ⟨a, dx, h1, h2⟩ => ⟨a, dx, h1, e _ _ h2⟩⟩
def RBE (C : Addr) (e : BE) : VP := RT [RV (.int (e.1 : Int)), RRow C e.2.1, RQ C e.2.2]
instance {C : Addr} {e : BE} : Mo (RBE C e) := inferInstanceAs (Mo (RT _))
def N_BRed : List Str := ["self", "row", "constant", "factors", "column", "other", "value", "factor", "at"]
theorem scBI : FnScope ["self"] ["self"] (defScope sBI) := ⟨rfl, rfl, rfl, by decide +kernel, rfl, by decide +kernel, by decide +kernel⟩
theorem scBRed : FnScope N_BRed ["self", "row", "constant"] (defScope sBRed) := ⟨rfl, rfl, rfl, by decide +kernel, rfl, by decide +kernel, by decide +kernel⟩
theorem scBAdd : FnScope ["self", "row", "constant", "column", "value"] ["self", "row", "constant"] (defScope sBAdd) := ⟨rfl, rfl, rfl, by decide +kernel, rfl, by decide +kernel, by decide +kernel⟩
section
variable {P : Program} {w : World} {K : PySem.W.Frag} {mg : Str → Option Value} {base : Heap} {C CB : Addr}
/-- __init__ -/
def spBI (CB : Addr) : Sp := fun vs H Q _ => ∃ x dx : Addr, vs = [.ref x] ∧ H x = some (.ins CB dx []) ∧ ∀ l, H l = none → Q .non (upd (upd H l (.lst [])) x (.ins CB dx [("rows", .ref l)]))
theorem putr1 (a : V) : putF "rows" a [] = [(("rows" : Str), a)] := rfl
theorem ok_binit (T : BasX K mg CB) {f : Addr} {fd : FuncData} (F : Fun K "__init__" "Basis.__init__" sBI f fd) : FnOk P w K mg base CX0 1 f fd ["self"] (spBI CB) := by
  refine F.ok scBI (fun vs H Q E h => ?_) (fun cdv A outer s H vs Q E hr h => ?_)
  · obtain ⟨x, dx, rfl, _⟩ := h
    rfl
  obtain ⟨x, dx, rfl, hx, q⟩ := h
  refine ⟨_, pss_one (ps_fld (pv 0) (pe_lst pa_nil) rfl), ?_⟩
  refine ⟨Nat.zero_le _, fun l hl => ⟨_, rfl, x, CB, dx, _, rfl, ?_, T.cl, T.nR, (show ([] : List (Str × V)).length < 1000 by decide), ?_⟩⟩
  · rw [upd_ne (ne_of_none hx hl)]; exact hx
  · rw [putr1]; exact q l hl
theorem pe_basis {X : Cx} {p pos : Pos} (T : BasX X.K X.mg CB) (hr : Room 2 X.A) (hg : Gl X "Basis") : PE X (.Call (.Name "Basis" p) [] [] pos) (tMake CB (spBI CB) [] E0 tNil) := by
  obtain ⟨f, fd, h1, h2, F⟩ := T.init
  exact pe_make0 ⟨T.mks, h1, h2, T.kp⟩ (ok_binit T F) hr hg T.gC (F.binds fun _ _ _ _ _ _ us hl => match us, hl with | [_], _ => rfl) .nil pass0
theorem q_basis {σ : L2.St} {G0 H0 G H : Hp} {cs : List (Addr × HO)} {D : Ends} {u : TS} {i : Nat} (c : Cel G0 H0 G H cs)
    (k : ∀ v l G2 H2, Cel G0 H0 G2 H2 ((l, .lst []) :: cs) → L2.Same G G2 → RBas CB l v G2 → u D (σ.set i (some v)) H2) : tSeq (tAsg (tMake CB (spBI CB) [] E0 tNil) (gName i)) u D σ H := by
  intro x dx hx hdx ne
  refine ⟨x, dx, rfl, upd_same, fun l hl => ⟨rfl, ?_⟩⟩
  have lx : l ≠ x := fun z => by subst z; rw [upd_same] at hl; cases hl
  rw [upd_ne lx] at hl
  have ldx : l ≠ dx := fun z => by subst z; rw [upd_same] at hl; cases hl
  rw [upd_ne ldx] at hl
  have gx : G x = none := c.s.free hx
  have gd : G dx = none := c.s.free hdx
  have gl : G l = none := c.s.free hl
  have hw : Gw G H (upd (upd G dx (.own x)) x (.ins CB dx [("rows", .ref l)])) (upd (upd (upd (upd H dx (.own x)) x (.ins CB dx [])) l (.lst [])) x (.ins CB dx [("rows", .ref l)])) := by
    refine ⟨fun b o e => ?_, fun b o e => ?_, fun b o e => ?_, fun b o e1 e2 => ?_⟩
    · rw [upd_ne (ne_of_none e gx), upd_ne (ne_of_none e gd)]; exact e
    · rw [upd_ne (ne_of_none e hx), upd_ne (ne_of_none e hl), upd_ne (ne_of_none e hx), upd_ne (ne_of_none e hdx)]; exact e
    · by_cases h1 : b = x
      · subst h1; rw [upd_same] at e ⊢; exact e
      · rw [upd_ne h1] at e ⊢
        by_cases h2 : b = dx
        · subst h2; rw [upd_same] at e; cases e
          rw [upd_ne (Ne.symm ldx), upd_ne h1, upd_same]
        · rw [upd_ne h2] at e
          rw [upd_ne (ne_of_none e gl), upd_ne h1, upd_ne h2]
          exact c.s b o e
    · rw [upd_ne (ne_of_none e1 hx), upd_ne (ne_of_none e1 hdx)]; exact e2
  refine k (.ref x) l _ _ (c.made hl hw ?_ ?_) hw.g ⟨x, dx, rfl, upd_same⟩
  · rw [upd_ne lx, upd_ne ldx]; exact gl
  · rw [upd_ne lx, upd_same]
theorem ev_rows {σ : L2.St} {G : Hp} {cs : List (Addr × HO)} {te : TE} {l : Addr} (T : BasX K mg CB) (h : EvP te σ G cs (RBas CB l)) : EvP (tFld K te "rows") σ G cs (RV (.ref l)) := fun H s hc Q k => h H s hc _ fun v G2 H2 w p => by
  obtain ⟨a, dx, rfl, ha⟩ := p
  exact ⟨a, CB, dx, _, _, rfl, w.s _ _ ha, T.cl, T.nR, rfl, k _ G2 H2 w rfl⟩
/-! ### reduced -/
/-- the rows of a basis fit together and in size -/
structure BOk (n b c : Nat) (B : List BE) : Prop where
  bas : K97.Bas n B
  sz : BSz b c B
  few : B.length ≤ 5
  wide : n ≤ 100
  fit : ∀ k, k ≤ B.length → K97.bb b k + K97.cb b c k ≤ 13400
def RRed (C : Addr) (t : List Rat × Rat × List Rat) : VP := RT [RRow C t.1, RQ C t.2.1, RRow C t.2.2]
instance {t : List Rat × Rat × List Rat} : Mo (RRed C t) := inferInstanceAs (Mo (RT _))
def spRed (C CB : Addr) : Sp := fun vs H Q _ => vs.length = 3 ∧ ∃ (G : Hp) (l : Addr) (bvs : List V) (B : List BE) (r : List Rat) (v : Rat) (b c : Nat), L2.Same G H ∧ F2 [RBas CB l, RRow C r, RQ C v] vs G ∧
  HC [(l, .lst bvs)] G H ∧ F2 (B.map (RBE C)) bvs G ∧ BOk r.length b c B ∧ RowSz b r ∧ Sz c v ∧ ∀ v2 G2 H2, Gw G H G2 H2 → RRed C (K97.red B r v) v2 G2 → Q v2 H2
theorem fit_of {p q : Rat} {a b : Nat} (h1 : Sz a p) (h2 : Sz b q) (h : a + b + 1 < 13500) : Fit p q := ⟨a, b, h1, h2, h⟩
theorem ok_red (B : Kit P w K mg base C) (T : BasX K mg CB) {f : Addr} {fd : FuncData} (F : Fun K "reduced" "Basis.reduced" sBRed f fd) : FnOk P w K mg base CX0 5 f fd ["self", "row", "constant"] (spRed C CB) := by
  refine F.ok scBRed (fun vs H Q E h => h.1) (fun cdv A outer s H vs Q E hr h => ?_)
  obtain ⟨_, G, l, bvs, L, r, v, b, c0, sg, hF, hcl, hB, ok, hr0, hv0, q⟩ := h
  obtain ⟨v0, v1, v2, rfl, h0, h1, h2⟩ := three_of hF
  have nd := scBRed.nd
  have hu := hu_of hr
  refine ⟨_, (pss_cons (ps_set (i := 1) nd rfl (.inr rfl) (pe_callTy call_list_of (by rfl) B.list PyProof.Rows.boot_list (pa_cons (pv 1) pa_nil)))
  (pss_cons (ps_set (i := 3) nd rfl (.inl rfl) (pe_lst pa_nil))
  (pss_cons (ps_for PassesOwn.never rfl (pi_list (pe_fld (pv 0) rfl)) (pg_tup rfl (pgs_cons (pg_name (i := 4) nd rfl (.inl rfl)) (pgs_cons (pg_name (i := 5) nd rfl (.inr rfl)) (pgs_cons (pg_name (i := 6) nd rfl (.inl rfl)) pgs_nil))))
  (pss_cons (ps_set (i := 7) nd rfl (.inr rfl) (pe_ratio1 B.T B.gd (hr.mono (by decide)) (by rfl) (pa_cons pe_int pa_nil)))
    (pss_cons (ps_if (pt_not (pt_val (pe_dn B.isz (hr.mono (by decide)) (by rfl) (pa_cons (pe_ix ix_list (pv 1) (pv 4) (fun _ _ => rfl)) pa_nil)))) (pss_cons (ps_set (i := 7) nd rfl (.inr rfl) (pe_dn B.quo (hr.mono (by decide)) (by rfl) (pa_cons (pe_ix ix_list (pv 1) (pv 4) (fun _ _ => rfl)) (pa_cons (pe_ix ix_list (pv 5) (pv 4) (fun _ _ => rfl)) pa_nil))))
      (pss_cons (ps_set (i := 1) nd rfl (.inr rfl) (pe_lc (own := [("at", 8)]) (tt := tYes) rfl nd (pi_range1 (by rfl) B.range (pa_cons (pe_callB call_len_seq (by rfl) B.len PySem.boot_len (pa_cons (pv 1) pa_nil)) pa_nil)) (blkOk_by (N := N_BRed) (sc := defScope sBRed) (by decide +kernel)) (fun _ _ _ _ _ => (pg_name (i := 8) nd rfl (.inl rfl))) (fun _ _ _ _ _ => pts_nil) (fun _ _ _ _ _ => (pe_op (op_qsub B (hr.mono (by decide))) (pe_ix (r := rIxL K) ix_list (pv 1) (pv 8) (fun _ _ => rfl)) (pe_op (op_qmul B (hr.mono (by decide))) (pv 7) (pe_ix (r := rIxL K) ix_list (pv 5) (pv 8) (fun _ _ => rfl)))))))
      (pss_one (ps_set (i := 2) nd rfl (.inl rfl) (pe_op (op_qsub B (hr.mono (by decide))) (pv 2) (pe_op (op_qmul B (hr.mono (by decide))) (pv 7) (pv 6))))))) pss_nil)
    (pss_one (ps_expr (pe_bm PySem.F.plainAttrs_list PySem.F.slot_list_append PySem.F.type_list_append mt_append (pv 3) (pa_cons (pv 7) pa_nil)))))))
  (pss_one (ps_ret (pe_tup (pa_cons (pv 1) (pa_cons (pv 2) (pa_cons (pv 3) pa_nil))))))))), ?_⟩
  have c := Cel.given sg hcl (by simp)
  refine q_set (P := RRow C r) c (en_list (ev_var rfl h1)).frz fun y1 G1 H1 c1 s1 p1 => ?_
  refine q_setN c1 en_nil fun lf o G2 H2 c2 s2 eo => ?_
  subst eo
  have bsz := K97.red_sz ok.sz hr0 hv0
  refine q_for (cs' := [(l, .lst bvs)]) c2 (ew_cell (Rs := L.map (RBE C)) (ev_rows T (ev_var rfl (up (s1.trans s2) h0))) mem_head (hB.mono moA_map.mo (s1.trans s2)))
    (fun i s' g h => ∃ vr vc xs o4 o5 o6 o7, s' = [some v0, some vr, some vc, some (.ref lf), o4, o5, o6, o7, none] ∧ Cel G (mask H [(l, .lst bvs)]) g h [(lf, .lst xs), (l, .lst bvs)] ∧ L2.Same G g ∧ RRow C (redAt L r v i).1 vr g ∧ RQ C (redAt L r v i).2.1 vc g ∧ F2 ((redAt L r v i).2.2.map (RQ C)) xs g)
    (fun i s' g h ⟨vr, vc, xs, o4, o5, o6, o7, e, cc, _⟩ => ⟨cc.s, cc.hc.sub (by simp)⟩) ?_ ?_ ?_
  · intro G3 H3 c3 s3
    exact ⟨y1, v2, [], none, none, none, none, rfl, c3, (s1.trans s2).trans s3, up (s2.trans s3) p1, up ((s1.trans s2).trans s3) h2, trivial⟩
  · rintro i s' g h x hi sg ⟨vr, vc, xs, o4, o5, o6, o7, rfl, cc, sG, pr, pc, pfs⟩ g2 h2 w2 hY
    have hi' : i < L.length := by rw [List.length_map] at hi; exact hi
    have he : L[i]? = some L[i] := List.getElem?_eq_getElem hi'
    have hm : L[i] ∈ L := List.getElem_mem hi'
    have hlen := K97.redAt_len L r v i
    have hl := ok.bas.len _ hm
    have hcol := ok.bas.col _ hm
    obtain ⟨z1, z2, _⟩ := bsz i (by omega)
    obtain ⟨k1, k2⟩ := ok.sz i _ he
    have fit := ok.fit (i + 1) (by omega)
    have few := ok.few
    have wide := ok.wide
    simp only [K97.bb, K97.cb] at fit
    have esucc := K97.redAt_succ (r := r) (v := v) he
    have pe := Ith.map hY he
    generalize L[i] = e at he hm hl hcol k1 k2 esucc pe
    have cc2 := cc.go w2
    refine g_tup3 pe cc2.s fun yc yo yv q1 q2 q3 => ?_
    obtain rfl : yc = .int (e.1 : Int) := q1
    have fin : ∀ (vr' vc' vf' : V) (gg hh : Hp), L2.Same g gg → Cel G (mask H [(l, .lst bvs)]) gg hh [(lf, .lst xs), (l, .lst bvs)] → RRow C (redAt L r v (i + 1)).1 vr' gg → RQ C (redAt L r v (i + 1)).2.1 vc' gg → RQ C (at0 (redAt L r v i).1 e.1 / at0 e.2.1 e.1) vf' gg →
        tDrop (tBM K "list" rAppend (tVar 3) (tCons (tVar 7) tNil)) { nx := fun s h => ∃ g4, L2.Same g g4 ∧ (∃ vr vc xs o4 o5 o6 o7, s = [some v0, some vr, some vc, some (.ref lf), o4, o5, o6, o7, none] ∧ Cel G (mask H [(l, .lst bvs)]) g4 h [(lf, .lst xs), (l, .lst bvs)] ∧ L2.Same G g4 ∧ RRow C (redAt L r v (i + 1)).1 vr g4 ∧ RQ C (redAt L r v (i + 1)).2.1 vc g4 ∧ F2 ((redAt L r v (i + 1)).2.2.map (RQ C)) xs g4), rt := Q } [some v0, some vr', some vc', some (.ref lf), some (.int (e.1 : Int)), some yo, some yv, some vf', none] hh := fun vr' vc' vf' gg hh sgg cg a1 a2 a3 => by
      refine s_app cg rfl (ev_var rfl a3) ?_ fun vn G2 H2 c2 s2 p2 => ⟨G2, sgg.trans s2, vr', vc', xs ++ [vn], _, _, _, _, rfl, c2, (sG.trans sgg).trans s2, up s2 a1, up s2 a2, ?_⟩
      · rw [← pfs.len, List.length_map, K97.redAt_fs L r v i (by omega)]
        omega
      · rw [esucc]
        show F2 (((redAt L r v i).2.2 ++ [_]).map (RQ C)) _ _
        rw [List.map_append]
        exact (pfs.mono moA_map.mo (sgg.trans s2)).snoc p2
    refine q_set cc2 (ev_q0 (C := C) ev_c) fun vf g3 h3 c3 s3 pf0 => ?_
    have pr3 := up (w2.g.trans s3) pr
    refine q_if c3 (et_not (et_B (ev_isz (ev_ixR (ev_var rfl pr3) (ev_var rfl rfl) (by rw [hlen]; exact hcol))))) (fun hb g4 h4 c4 s4 => ?_) (fun hb g4 h4 c4 s4 => ?_)
    · have hne := ok.bas.ne _ hm
      refine q_set c4 (ev_quo (ev_ixR (ev_var rfl (up s4 pr3)) (ev_var rfl rfl) (by rw [hlen]; exact hcol)) (ev_ixR (ev_var rfl (up (s3.trans s4) q2)) (ev_var rfl rfl) (by rw [hl]; exact hcol)) (fit_of (z1.at _) (k1.at _) (by omega)) hne) fun vf5 g5 h5 c5 s5 p5 => ?_
      have pr5 := up (s4.trans s5) pr3
      have q25 := up ((s3.trans s4).trans s5) q2
      refine q_set c5 (ev_row (C := C) (g := fun k => at0 (redAt L r v i).1 k - (at0 (redAt L r v i).1 e.1 / at0 e.2.1 e.1) * at0 e.2.1 k) (ev_lcA (ew_range (n := r.length) (ea_cons ((ev_len (ev_var rfl pr5)).is (by rw [List.length_map, hlen])) ea_nil) (by omega)) (by omega) _ fun j x g' hj sg' hY h' s' k q => ?_)) fun vr6 g6 h6 c6 s6 p6 => ?_
      · refine q _ rfl (ev_qop (ev_ixR (ev_var rfl (up sg' pr5)) (ev_var rfl hY) (by rw [hlen]; exact hj)) (ev_qop (ev_var rfl (up sg' p5)) (ev_ixR (ev_var rfl (up sg' q25)) (ev_var rfl hY) (by rw [hl]; exact hj)) ?_) ?_)
        · exact fit_of ((z1.at _).div (k1.at _)) (k1.at _) (by omega)
        · exact fit_of (z1.at _) (((z1.at _).div (k1.at _)).mul (k1.at _)) (by omega)
      · have s26 := ((s3.trans s4).trans s5).trans s6
        refine s_set c6 (ev_qop (ev_var rfl (up (w2.g.trans s26) pc)) (ev_qop (ev_var rfl (up s6 p5)) (ev_var rfl (up s26 q3)) ?_) ?_) fun vc7 g7 h7 c7 s7 p7 => ?_
        · exact fit_of ((z1.at _).div (k1.at _)) k2 (by omega)
        · exact fit_of z2 (((z1.at _).div (k1.at _)).mul k2) (by omega)
        · refine fin vr6 vc7 vf5 g7 h7 ((w2.g.trans s26).trans s7) c7 ?_ ?_ (up (s6.trans s7) p5)
          · rw [esucc]
            show RRow C (subF _ _ _) _ _
            unfold subF
            rw [hlen]
            exact up s7 p6
          · rw [esucc]; exact p7
    · have hz : at0 (redAt L r v i).1 e.1 = 0 := by simpa using hb
      have hf : at0 (redAt L r v i).1 e.1 / at0 e.2.1 e.1 = 0 := by rw [hz]; grind
      refine fin vr vc vf g4 h4 ((w2.g.trans s3).trans s4) c4 ?_ ?_ (by rw [hf]; exact up s4 pf0)
      · rw [esucc]
        show RRow C (subF _ _ _) _ _
        rw [K97.subF_zero hf]
        exact up s4 pr3
      · rw [esucc]
        show RQ C ((redAt L r v i).2.1 - _ * e.2.2) _ _
        rw [hf]
        have e0 : (redAt L r v i).2.1 - 0 * e.2.2 = (redAt L r v i).2.1 := by grind
        rw [e0]
        exact up ((w2.g.trans s3).trans s4) pc
  · rintro s' g h sg ⟨vr, vc, xs, o4, o5, o6, o7, rfl, cc, sG, pr, pc, pfs⟩
    rw [List.length_map, K97.redAt_all] at pr pc pfs
    obtain ⟨cf, sf⟩ := cc.freeze
    refine s_ret cf (ev_tup (ea_cons (ev_var rfl (up sf pr)) (ea_cons (ev_var rfl (up sf pc)) (ea_cons (P1 := RRow C (K97.red L r v).2.2) (ev_var rfl ⟨lf, xs, rfl, upd_same, pfs.mono moA_map.mo sf⟩) ea_nil)))) fun v G3 H3 c3 s3 h3 => ?_
    exact q v G3 H3 (c3.read hcl (by simp)) h3
end
end KW
end
section
set_option Elab.async false
set_option linter.all false
set_option maxRecDepth 100000
set_option maxHeartbeats 1000000
namespace KW
open PySem PySem.Spec PyProof.Rows L2
open K97 (Sz Raw BE at0 subF redStep redAt RowSz BSz)
theorem nz_is {r : List Rat} {i : Nat} (hi : i < r.length) (h0 : ∀ j, j < i → at0 r j = 0) (h : at0 r i ≠ 0) : K97.nzCol r = some i := by
  unfold K97.nzCol
  rw [List.find?_eq_some_iff_getElem]
  refine ⟨decide_eq_true h, i, by rw [List.length_range]; exact hi, List.getElem_range _, fun j hj => ?_⟩
  rw [List.getElem_range]
  simp [h0 j hj]
theorem nz_not {r : List Rat} (h0 : ∀ j, j < r.length → at0 r j = 0) : K97.nzCol r = none := by
  unfold K97.nzCol
  rw [List.find?_eq_none]
  intro j hj
  simp [h0 j (List.mem_range.mp hj)]
section
variable {P : Program} {w : World} {K : PySem.W.Frag} {mg : Str → Option Value} {base : Heap} {C CB : Addr} {σ : L2.St} {G0 H0 G H : Hp} {cs : List (Addr × HO)} {ta tb td te : TE}
/-- what add does -/
def AddO (C : Addr) (r : List Rat) (v : Rat) (bvs : List V) (v2 : V) (bvs2 : List V) (G2 : Hp) : Prop := match K97.nzCol r with
  | none => v2 = .bl false ∧ bvs2 = bvs
  | some c => v2 = .bl true ∧ ∃ be, bvs2 = bvs ++ [be] ∧ RBE C (c, r, v) be G2
def spAdd (C CB : Addr) : Sp := fun vs H Q _ => vs.length = 3 ∧ ∃ (G : Hp) (l : Addr) (bvs : List V) (r : List Rat) (v : Rat), L2.Same G H ∧ F2 [RBas CB l, RRow C r, RQ C v] vs G ∧ HC [(l, .lst bvs)] G H ∧ bvs.length ≤ 1000 ∧
  ∀ v2 bvs2 G2 H2, Gw G (mask H [(l, .lst bvs)]) G2 H2 → H2 l = some (.lst bvs2) → G2 l = none → AddO C r v bvs v2 bvs2 G2 → Q v2 H2
theorem ok_badd (B : Kit P w K mg base C) (T : BasX K mg CB) {f : Addr} {fd : FuncData} (F : Fun K "add" "Basis.add" sBAdd f fd) : FnOk P w K mg base CX0 2 f fd ["self", "row", "constant"] (spAdd C CB) := by
  refine F.ok scBAdd (fun vs H Q E h => h.1) (fun cdv A outer s H vs Q E hr h => ?_)
  obtain ⟨_, G, l, bvs, r, v, sg, hF, hcl, hz, q⟩ := h
  obtain ⟨v0, v1, v2, rfl, h0, h1, h2⟩ := three_of hF
  have nd := scBAdd.nd
  have hu := hu_of hr
  refine ⟨_, (pss_cons (ps_for PassesOwn.never rfl (pi_enum (by rfl) B.enum (pa_cons (pv 1) pa_nil)) (pg_tup rfl (pgs_cons (pg_name (i := 3) nd rfl (.inl rfl)) (pgs_cons (pg_name (i := 4) nd rfl (.inl rfl)) pgs_nil)))
  (pss_one (ps_if (pt_not (pt_val (pe_dn B.isz (hr.mono (by decide)) (by rfl) (pa_cons (pv 4) pa_nil)))) (pss_cons (ps_expr (pe_bm PySem.F.plainAttrs_list PySem.F.slot_list_append PySem.F.type_list_append mt_append (pe_fld (pv 0) rfl) (pa_cons (pe_tup (pa_cons (pv 3) (pa_cons (pv 1) (pa_cons (pv 2) pa_nil)))) pa_nil)))
      (pss_one (ps_ret pe_bl))) pss_nil)))
  (pss_one (ps_ret pe_bl))), ?_⟩
  have c := Cel.given sg hcl (by simp)
  refine q_for (cs' := []) c (ew_enum (Rs := r.map (RQ C)) (ea_cons (ev_var rfl h1) ea_nil))
    (fun i s' g h => ∃ o3 o4, s' = [some v0, some v1, some v2, o3, o4] ∧ Cel G (mask H [(l, .lst bvs)]) g h [(l, .lst bvs)] ∧ L2.Same G g ∧ ∀ j, j < i → at0 r j = 0)
    (fun i s' g h ⟨_, _, _, cc, _⟩ => ⟨cc.s, .nil⟩) (fun G3 H3 c3 s3 => ⟨none, none, rfl, c3, s3, fun j hj => by omega⟩) ?_ ?_
  · rintro i s' g h x hi sg' ⟨o3, o4, rfl, cc, sG, hzs⟩ g2 h2' w2 hY
    have hi' : i < r.length := by rw [List.length_map] at hi; exact hi
    have cc2 := cc.go w2
    refine g_tup2 hY cc2.s fun yc yv q1 q2 => ?_
    obtain rfl : yc = .int (i : Int) := q1
    have q2 := q2.of (row_get hi')
    refine s_if cc2 (et_not (et_B (ev_isz (ev_var rfl q2)))) (fun hb g4 h4 c4 s4 => ?_) (fun hb g4 h4 c4 s4 => ?_)
    · have hne : at0 r i ≠ 0 := by simpa using hb
      have s5 := (sG.trans w2.g).trans s4
      refine q_appE (P := RBE C (i, r, v)) c4 (ev_rows T (ev_var rfl (up s5 h0))) (ev_tup (ea_cons (ev_var rfl rfl) (ea_cons (ev_var rfl (up s5 h1)) (ea_cons (ev_var rfl (up s5 h2)) ea_nil)))) hz fun be g5 h5 c5 s5' p5 => ?_
      refine s_ret c5 ev_c fun vr g6 h6 c6 s6 hv => ?_
      refine q vr _ g6 h6 ?_ c6.hd (c6.hc _ mem_head).2 ?_
      · exact c6.w
      · unfold AddO
        rw [nz_is hi' hzs hne]
        exact ⟨hv, be, rfl, up s6 p5⟩
    · have hz0 : at0 r i = 0 := by simpa using hb
      refine ⟨g4, w2.g.trans s4, _, _, rfl, c4, (sG.trans w2.g).trans s4, fun j hj => ?_⟩
      rcases Nat.lt_or_ge j i with h6 | h6
      · exact hzs j h6
      · have : j = i := by omega
        subst this; exact hz0
  · rintro s' g h sg' ⟨o3, o4, rfl, cc, sG, hzs⟩
    rw [List.length_map] at hzs
    refine s_ret cc ev_c fun vr g6 h6 c6 s6 hv => ?_
    refine q vr bvs g6 h6 c6.w c6.hd (c6.hc _ mem_head).2 ?_
    unfold AddO
    rw [nz_not hzs]
    exact ⟨hv, rfl⟩
/-! ### their calls -/
theorem pe_mt_red {X : Cx} {o e : Expr} {es : List Expr} {ta : TE} {t : TA} {apos pos : Pos} {pl : Sem Bool} (B : Kit X.prog X.w X.K X.mg X.base C) (T : BasX X.K X.mg CB) (hr : Room 5 X.A) (he : PE X o ta) (ha : PA X (e :: es) t)
    (hst : starEach (e :: es) X.env = (false, eval e X.env) :: starEach es X.env := by rfl) (hpl : (backTo pos (starEach es X.env)).any (·.1) = false := by rfl)
    (ht : eval (.Call (.Attribute o "reduced" apos) (e :: es) [] pos) X.env = (do
      let ov ← eval o X.env
      standAt apos.atName
      let (f, first) ← holding [ov] (getMethod ov "reduced" pl)
      callWith pos f first (backTo pos (starEach (e :: es) X.env)) (backToKw pos (keywordEach [] X.env))) := by rfl) :
    PE X (.Call (.Attribute o "reduced" apos) (e :: es) [] pos) (tMeth CB "reduced" (spRed C CB) [] E0 ta t) := by
  obtain ⟨f, fd, h1, h2, F⟩ := T.reduced
  exact pe_meth (pl := pl) he T.cl ⟨h1, h2, F.kp⟩ (ok_red B T F) hr (F.binds fun _ _ _ _ _ _ us hl => match us, hl with | [_, _, _], _ => rfl) .nil pass0 ha hst hpl ht
theorem pe_mt_add {X : Cx} {o e : Expr} {es : List Expr} {ta : TE} {t : TA} {apos pos : Pos} {pl : Sem Bool} (B : Kit X.prog X.w X.K X.mg X.base C) (T : BasX X.K X.mg CB) (hr : Room 2 X.A) (he : PE X o ta) (ha : PA X (e :: es) t)
    (hst : starEach (e :: es) X.env = (false, eval e X.env) :: starEach es X.env := by rfl) (hpl : (backTo pos (starEach es X.env)).any (·.1) = false := by rfl)
    (ht : eval (.Call (.Attribute o "add" apos) (e :: es) [] pos) X.env = (do
      let ov ← eval o X.env
      standAt apos.atName
      let (f, first) ← holding [ov] (getMethod ov "add" pl)
      callWith pos f first (backTo pos (starEach (e :: es) X.env)) (backToKw pos (keywordEach [] X.env))) := by rfl) :
    PE X (.Call (.Attribute o "add" apos) (e :: es) [] pos) (tMeth CB "add" (spAdd C CB) [] E0 ta t) := by
  obtain ⟨f, fd, h1, h2, F⟩ := T.add
  exact pe_meth (pl := pl) he T.cl ⟨h1, h2, F.kp⟩ (ok_badd B T F) hr (F.binds fun _ _ _ _ _ _ us hl => match us, hl with | [_, _, _], _ => rfl) .nil pass0 ha hst hpl ht
theorem look_red (l : Addr) : ([("rows", .ref l)] : List (Str × V)).lookup ("reduced" : Str) = none := by
  have e : (("reduced" : Str) == ("rows" : Str)) = false := by decide
  simp only [List.lookup, e]
theorem look_add (l : Addr) : ([("rows", .ref l)] : List (Str × V)).lookup ("add" : Str) = none := by
  have e : (("add" : Str) == ("rows" : Str)) = false := by decide
  simp only [List.lookup, e]
theorem ev_red {l : Addr} {bvs : List V} {L : List BE} {r : List Rat} {v : Rat} {b c : Nat} (hm : (l, .lst bvs) ∈ cs) (hB : F2 (L.map (RBE C)) bvs G) (h0 : EvP ta σ G cs (RBas CB l)) (h1 : EvP tb σ G cs (RRow C r)) (h2 : EvP td σ G cs (RQ C v))
    (ok : BOk r.length b c L) (hr : RowSz b r) (hv : Sz c v) : EvP (tMeth CB "reduced" (spRed C CB) [] E0 ta (tCons tb (tCons td tNil))) σ G cs (RRed C (K97.red L r v)) := fun H s hc Q q =>
  h0 H s hc _ fun x G1 H1 w1 p1 => by
    obtain ⟨a, dx, rfl, ha⟩ := id p1
    refine ⟨a, dx, _, rfl, w1.s _ _ ha, look_red l, ?_⟩
    refine (h1.up w1.g) H1 w1.s (hc.up w1) _ fun y G2 H2 w2 p2 => (h2.up (w1.g.trans w2.g)) H2 w2.s ((hc.up w1).up w2) _ fun z G3 H3 w3 p3 => ?_
    have hc3 := ((hc.up w1).up w2).up w3
    refine ⟨rfl, G3, l, bvs, L, r, v, b, c, w3.s, ⟨up (w2.g.trans w3.g) p1, up w3.g p2, p3, trivial⟩, hc3.sub (by simpa using hm), hB.mono moA_map.mo ((w1.g.trans w2.g).trans w3.g), ok, hr, hv, fun v2 G4 H4 w4 p4 => q v2 G4 H4 (((w1.trans w2).trans w3).trans w4) p4⟩
theorem t_add {l : Addr} {bvs : List V} {r : List Rat} {v : Rat} {Q : VK} (c : Cel G0 H0 G H ((l, .lst bvs) :: cs)) (h0 : EvP ta σ G [] (RBas CB l)) (h1 : EvP tb σ G [] (RRow C r)) (h2 : EvP td σ G [] (RQ C v)) (hz : bvs.length ≤ 1000)
    (k : ∀ v2 bvs2 G2 H2, Cel G0 H0 G2 H2 ((l, .lst bvs2) :: cs) → L2.Same G G2 → AddO C r v bvs v2 bvs2 G2 → Q v2 H2) : tMeth CB "add" (spAdd C CB) [] E0 ta (tCons tb (tCons td tNil)) σ H Q :=
  h0 H c.s .nil _ fun x G1 H1 w1 p1 => by
    obtain ⟨a, dx, rfl, ha⟩ := id p1
    refine ⟨a, dx, _, rfl, w1.s _ _ ha, look_add l, ?_⟩
    refine (h1.up w1.g) H1 w1.s .nil _ fun y G2 H2 w2 p2 => (h2.up (w1.g.trans w2.g)) H2 w2.s .nil _ fun z G3 H3 w3 p3 => ?_
    have c3 := ((c.go w1).go w2).go w3
    refine ⟨rfl, G3, l, bvs, r, v, w3.s, ⟨up (w2.g.trans w3.g) p1, up w3.g p2, p3, trivial⟩, c3.hc.sub (by simp), hz, fun v2 bvs2 G4 H4 w4 e4 g4 p4 => ?_⟩
    exact k v2 bvs2 G4 H4 (c3.wrote w4 e4 g4) (((w1.g.trans w2.g).trans w3.g).trans w4.g) p4
end
/-! ### own errors -/
structure ErrX (K : PySem.W.Frag) (mg : Str → Option Value) (x : Str) (C : Addr) : Prop where
  g : mg x = some (.ref C)
  ex : PySem.W.excIn K C [.type "ValueError", .type "Exception", .type "BaseException", .type "object"] "ValueError.__new__" = true
  kp : PySem.W.keepIn K (.ref C) = true
  bP : PySem.W.subIn K (.ref C) (.type "BaseException") = some true
  tP : PySem.W.typeIn K (.ref C) = some (.type "type")
  iP : PySem.W.isClsIn K C = true
  sP : PySem.W.subIn K (.ref C) (.ref C) = some true
theorem ErrX.mk' {X : Cx} {x m : Str} {C : Addr} {j : Nat} {p p2 pos : Pos} (h : ErrX X.K X.mg x C) (hg : Gl X x) (hdb : (x == ("__debug__" : Str)) = false := by decide) : PMk X (.Call (.Name x p) [.Constant (.str m) j p2] [] pos) (fun _ H Q => Q (.ref C) none H) :=
  pmk_own PySem.F.excBase_ValueError h.ex h.g h.kp (raises_own h.bP h.tP) hg hdb
theorem passE0 {X : Cx} : Passes (L2.CX X.prog X.w) X E0 := fun _ _ _ _ _ _ _ h => by
  obtain ⟨a, B, H', cls, d, _, _, _, _, _, _, _, hE⟩ := h
  exact hE.elim
/-- x keeps a promise; it may raise -/
def DnX (P : Program) (w : World) (K : PySem.W.Frag) (mg : Str → Option Value) (base : Heap) (x : Str) (k : Nat) (ps : List Str) (sp : Sp) : Prop :=
  ∃ f fd, mg x = some (.ref f) ∧ PySem.W.keepIn K (.ref f) = true ∧ Binds K fd ps [] ∧ FnOk P w K mg base (L2.CX P w) k f fd ps sp
theorem pe_dnx {X : Cx} {x : Str} {j : Nat} {ps : List Str} {sp : Sp} {e : Expr} {es : List Expr} {t : TA} {p pos : Pos} (Dd : DnX X.prog X.w X.K X.mg X.base x j ps sp) (hr : Room j X.A) (hg : Gl X x) (ha : PA X (e :: es) t)
    (hdb : (x == ("__debug__" : Str)) = false := by decide) (he : starEach (e :: es) X.env = (false, eval e X.env) :: starEach es X.env := by rfl) (hpl : (backTo pos (starEach es X.env)).any (·.1) = false := by rfl) :
    PE X (.Call (.Name x p) (e :: es) [] pos) (tCall sp [] E0 t) := by
  obtain ⟨f, fd, hm, hk, hb, F⟩ := Dd
  exact pe_call F hr hg hm hk hb .nil passE0 ha hdb he hpl
theorem dnx_of {P : Program} {w : World} {K : PySem.W.Frag} {mg : Str → Option Value} {base : Heap} {x : Str} {st : Stmt} {N ps : List Str} {k : Nat} {sp : Sp} (Dd : Df K mg x st) (S : FnScope N ps (defScope st))
    (hb : ∀ (kV doc pm : Value) (an : Option Addr) (cdv ct : Value) (us : List Value), us.length = ps.length → bindArgs (PySem.W.fnOf x x (defArgs st) (defBody st) (defScope st) .none kV doc pm an cdv ct) ⟨us, []⟩ = pure (ps.zip us))
    (len : ∀ vs H Q E, sp vs H Q E → vs.length = ps.length)
    (hbody : ∀ (f : Addr) (cdv : Value) (A : Around) (outer : List Env) (s : Shared) (H : Hp) (vs : List V) (Q : VK) (E : XK), Room k (A.deeper (envOfC x (defScope st) s.heap.objs.size f cdv)) → sp vs H Q E →
      ∃ t, PSs (cxOf (L2.CX P w) P w K mg base N x (defScope st) f cdv A outer s H E) (defBody st) t ∧ t { nx := fun _ H' => Q .non H', rt := Q } (start N vs) H) : DnX P w K mg base x (k + 1) ps sp := by
  obtain ⟨f, fd, hm, F⟩ := Dd
  exact ⟨f, fd, hm, F.kp, F.binds hb, F.okX S len (hbody f)⟩
end KW
end
section
set_option Elab.async false
set_option linter.all false
set_option maxRecDepth 100000
set_option maxHeartbeats 1000000
namespace KW
open PySem PySem.Spec PyProof.Rows L2
open K97 (Sz Raw BE at0 subF redStep redAt RowSz BSz fwd fwdStep backAt backC backStep solveL)
theorem fwd_append (rs ts : List (List Rat × Rat)) : ∀ B, fwd (rs ++ ts) B = (fwd rs B).bind (fwd ts) := by
  induction rs with
  | nil => intro B; rfl
  | cons rc rs ih =>
    intro B
    show (match fwdStep B rc with | none => none | some B' => fwd (rs ++ ts) B') = (match fwdStep B rc with | none => none | some B' => fwd rs B').bind (fwd ts)
    cases fwdStep B rc with
    | none => rfl
    | some B' => exact ih B'
theorem fwd_take {rs : List (List Rat × Rat)} {i : Nat} {rc : List Rat × Rat} {B : List BE} (h : rs[i]? = some rc) (hB : fwd (rs.take i) [] = some B) : fwd (rs.take (i + 1)) [] = fwdStep B rc := by
  obtain ⟨hi, rfl⟩ := List.getElem?_eq_some_iff.mp h
  rw [← List.take_append_getElem hi, fwd_append, hB]
  show fwd [rs[i]] B = _
  show (match fwdStep B rs[i] with | none => none | some B' => fwd [] B') = _
  cases fwdStep B rs[i] with
  | none => rfl
  | some B' => rfl
theorem fwd_dead {rs : List (List Rat × Rat)} {i : Nat} (h : fwd (rs.take i) [] = none) : fwd rs [] = none := by
  have := fwd_append (rs.take i) (rs.drop i) []
  rw [List.take_append_drop, h] at this
  exact this
section
variable {K : PySem.W.Frag} {σ : L2.St} {G0 H0 G H : Hp} {cs : List (Addr × HO)} {te ta tb : TE} {P : VP}
/-- the test of a list by its length -/
theorem et_truthL {Rs : List VP} (h : EvP te σ G cs (RL Rs)) : EvT (fun σ H Q => te σ H fun x H' => ∃ k, TruV K x H' k ∧ Q k H') σ G cs (!Rs.isEmpty) := fun H s hc Q q =>
  h H s hc _ fun v G2 H2 w p => by
    obtain ⟨a, vs, rfl, ha, hf⟩ := p
    refine ⟨!vs.isEmpty, .inl ⟨vs, .inl (.inl (w.s _ _ ha)), rfl⟩, ?_⟩
    have e : vs.isEmpty = Rs.isEmpty := by
      have := hf.len
      cases Rs <;> cases vs <;> first | rfl | simp at this
    rw [e]
    exact q _ _ w
theorem rv_lt {i j : Int} : RvP cs (rI (fun _ _ => True) fun i j => .bl (decide (i < j))) (RV (.int i)) (RV (.int j)) (RV (.bl (decide (i < j)))) := rv_I trivial
end
def RMat (C : Addr) (A : List (List Rat)) : VP := RL (A.map (RRow C))
instance {C : Addr} {A : List (List Rat)} : Mo (RMat C A) := inferInstanceAs (Mo (RL _))
theorem mat_get {C : Addr} {A : List (List Rat)} {i : Nat} (h : i < A.length) : (A.map (RRow C))[i]? = some (RRow C (K97.row A i)) := by
  rw [List.getElem?_map, List.getElem?_eq_getElem h]
  unfold K97.row
  rw [List.getD_eq_getElem?_getD, List.getElem?_eq_getElem h]
  rfl
/-! ### solve_linear -/
abbrev sSol : Stmt := top 23
def N_Sol : List Str := ["rows", "constants", "basis", "row", "constant", "_", "many", "found", "column", "at", "value"]
theorem scSol : FnScope N_Sol ["rows", "constants"] (defScope sSol) := ⟨rfl, rfl, rfl, by decide +kernel, rfl, by decide +kernel, by decide +kernel⟩
/-- the numbers stay small enough -/
structure FitA (A : List (List Rat)) (bv : List Rat) (b c S : Nat) : Prop where
  row : ∀ r ∈ A, r.length = K97.width A
  wide : K97.width A ≤ 100
  few : A.length ≤ 5
  many : bv.length = A.length
  sz : ∀ r ∈ A, RowSz b r
  szc : RowSz c bv
  fit : ∀ k, k < A.length → K97.bb b k + K97.cb b c k ≤ 13400
  back : ∀ xs, solveL A bv = .sol xs → RowSz S xs ∧ ∀ i m, i < m → m ≤ A.length → K97.cb b c i + (m - 1 - i) * (K97.bb b i + S + 1) + K97.bb b i ≤ 13300
  slim : S ≤ 150
def SolO (C CN CM : Addr) (A : List (List Rat)) (bv : List Rat) (H : Hp) (G : Hp) (Q : VK) (E : XK) : Prop := match solveL A bv with
  | .sol xs => ∀ v G2 H2, Gw G H G2 H2 → RRow C xs v G2 → Q v H2
  | .none => ∀ G2 H2, Gw G H G2 H2 → E (.ref CN) none H2
  | .many => ∀ G2 H2, Gw G H G2 H2 → E (.ref CM) none H2
def spSol (C CN CM : Addr) : Sp := fun vs H Q E => vs.length = 2 ∧ ∃ (G : Hp) (A : List (List Rat)) (bv : List Rat) (b c S : Nat), L2.Same G H ∧ F2 [RMat C A, RRow C bv] vs G ∧ FitA A bv b c S ∧ SolO C CN CM A bv H G Q E
section
variable {P : Program} {w : World} {K : PySem.W.Frag} {mg : Str → Option Value} {base : Heap} {C CB CN CM : Addr}
theorem dn_sol (Dd : Df K mg "solve_linear" sSol) (B : Kit P w K mg base C) (TB : BasX K mg CB) (XN : ErrX K mg "NoSolution" CN) (XM : ErrX K mg "ManySolutions" CM) : DnX P w K mg base "solve_linear" 6 ["rows", "constants"] (spSol C CN CM) := by
  refine dnx_of Dd scSol (fun _ _ _ _ _ _ us hl => match us, hl with | [_, _], _ => rfl) (fun vs H Q E h => h.1) (fun f cdv A0 outer s H vs Q E hr h => ?_)
  obtain ⟨_, G, A, bv, b, c0, S, sg, hF, fa, q⟩ := h
  obtain ⟨v0, v1, rfl, h0, h1⟩ := two_of hF
  have nd := scSol.nd
  have hu := hu_of hr
  refine ⟨_, (pss_cons (ps_set (i := 2) nd rfl (.inl rfl) (pe_basis TB (hr.mono (by decide)) (by rfl)))
  (pss_cons (ps_for (passes_of rfl) rfl (pi_zip (by rfl) B.zip (pa_cons (pv 0) (pa_cons (pv 1) pa_nil))) (pg_tup rfl (pgs_cons (pg_name (i := 3) nd rfl (.inl rfl)) (pgs_cons (pg_name (i := 4) nd rfl (.inl rfl)) pgs_nil)))
  (pss_cons (ps_asg (pe_mt_red B TB (hr.mono (by decide)) (pv 2) (pa_cons (pv 3) (pa_cons (pv 4) pa_nil))) (pg_tup rfl (pgs_cons (pg_name (i := 3) nd rfl (.inl rfl)) (pgs_cons (pg_name (i := 4) nd rfl (.inl rfl)) (pgs_cons (pg_name (i := 5) nd rfl (.inl rfl)) pgs_nil)))))
    (pss_one (ps_if (pw_and (pt_not (pt_val (pe_mt_add B TB (hr.mono (by decide)) (pv 2) (pa_cons (pv 3) (pa_cons (pv 4) pa_nil))))) (pw_and1 (pt_not (pt_val (pe_dn B.isz (hr.mono (by decide)) (by rfl) (pa_cons (pv 4) pa_nil)))))).pt (pss_one (ps_raise rfl (takes_of rfl rfl rfl rfl) (XN.mk' (by rfl)))) pss_nil))))
  (pss_cons (ps_set (i := 6) nd rfl (.inl rfl) (pe_ifExp (pt_truth (pv 0) (by intro _; rfl)) (pe_callB call_len_seq (by rfl) B.len PySem.boot_len (pa_cons (pe_ix ix_list (pv 0) pe_int (fun _ _ => rfl)) pa_nil)) pe_int))
  (pss_cons (ps_if (pt_cmpR op_lt (pe_callB call_len_seq (by rfl) B.len PySem.boot_len (pa_cons (pe_fld (pv 2) rfl) pa_nil)) (pv 6) (nomark _)) (pss_one (ps_raise rfl (takes_of rfl rfl rfl rfl) (XM.mk' (by rfl)))) pss_nil)
  (pss_cons (ps_set (i := 7) nd rfl (.inl rfl) (pe_op op_rep (pe_lst (pa_cons (pe_ratio1 B.T B.gd (hr.mono (by decide)) (by rfl) (pa_cons pe_int pa_nil)) pa_nil)) (pv 6)))
  (pss_cons (ps_for (passes_of rfl) rfl (pi_list (pe_revL (pe_fld (pv 2) rfl))) (pg_tup rfl (pgs_cons (pg_name (i := 8) nd rfl (.inl rfl)) (pgs_cons (pg_name (i := 3) nd rfl (.inl rfl)) (pgs_cons (pg_name (i := 4) nd rfl (.inl rfl)) pgs_nil))))
  (pss_cons (ps_for (passes_of rfl) rfl (pi_enum (by rfl) B.enum (pa_cons (pv 3) pa_nil)) (pg_tup rfl (pgs_cons (pg_name (i := 9) nd rfl (.inl rfl)) (pgs_cons (pg_name (i := 10) nd rfl (.inl rfl)) pgs_nil)))
    (pss_one (ps_if (pw_and (pt_cmpR op_ne (pv 9) (pv 8) (nomark _)) (pw_and1 (pt_not (pt_val (pe_dn B.isz (hr.mono (by decide)) (by rfl) (pa_cons (pv 10) pa_nil)))))).pt (pss_one (ps_set (i := 4) nd rfl (.inl rfl) (pe_op (op_qsub B (hr.mono (by decide))) (pv 4) (pe_op (op_qmul B (hr.mono (by decide))) (pv 10) (pe_ix ix_list (pv 7) (pv 9) (fun _ _ => rfl)))))) pss_nil)))
    (pss_one (ps_asg (pe_dn B.quo (hr.mono (by decide)) (by rfl) (pa_cons (pv 4) (pa_cons (pe_ix ix_list (pv 3) (pv 8) (fun _ _ => rfl)) pa_nil))) (pg_sub (pv 7) (pv 8) set_list)))))
  (pss_one (ps_ret (pv 7))))))))), ?_⟩
  have c := Cel.start sg
  generalize hn : K97.width A = n at *
  have lz : (A.zip bv).length = A.length := by rw [List.length_zip, fa.many]; omega
  have few := fa.few
  have wide := fa.wide
  rw [hn] at wide
  refine q_basis (CB := CB) c fun vb l G1 H1 c1 s1 pb => ?_
  refine q_for (cs' := []) c1 (ew_zip (Rs := A.map (RRow C)) (Ss := bv.map (RQ C)) (ea_cons (ev_var rfl (up s1 h0)) (ea_cons (ev_var rfl (up s1 h1)) ea_nil)) (by rw [List.length_map, List.length_map, fa.many]))
    (fun i s' g h => ∃ o3 o4 o5 bvs L, s' = [some v0, some v1, some vb, o3, o4, o5, none, none, none, none, none] ∧ Cel G H g h [(l, .lst bvs)] ∧ L2.Same G1 g ∧ F2 (L.map (RBE C)) bvs g ∧ fwd ((A.zip bv).take i) [] = some L ∧ K97.Bas n L ∧ BSz b c0 L ∧ L.length ≤ i)
    (fun i s' g h ⟨_, _, _, _, _, _, cc, _⟩ => ⟨cc.s, .nil⟩) (fun G3 H3 c3 s3 => ⟨none, none, none, [], [], rfl, c3, s3, trivial, rfl, .nil, .nil, Nat.le_refl _⟩) ?_ ?_
  · rintro i s' g h x hi sg' ⟨o3, o4, o5, bvs, L, rfl, cc, sG, hB, hf, bas, bsz, few'⟩ g2 h2 w2 hY
    have hi' : i < A.length := by rw [List.length_map] at hi; exact hi
    have hib : i < bv.length := by rw [fa.many]; exact hi'
    have cc2 := cc.go w2
    refine g_tup2 hY cc2.s fun yr yc q1 q2 => ?_
    have q1 := q1.of (mat_get hi')
    have q2 := q2.of (row_get hib)
    have hm : K97.row A i ∈ A := K97.row_mem hi'
    have hz : (A.zip bv)[i]? = some (K97.row A i, at0 bv i) := by
      rw [List.getElem?_eq_getElem (by omega), List.getElem_zip, K97.at0_lt hib]
      unfold K97.row
      rw [List.getD_eq_getElem?_getD, List.getElem?_eq_getElem hi']
      rfl
    have hl := fa.row _ hm
    rw [hn] at hl
    have hr0 := fa.sz _ hm
    have hc0 := fa.szc.at i
    have ft := fwd_take hz hf
    generalize K97.row A i = r at q1 hm hz hl hr0 ft
    generalize at0 bv i = v at q2 hz hc0 ft
    have ok : BOk r.length b c0 L := ⟨by rw [hl]; exact bas, bsz, by omega, by omega, fun k hk => fa.fit k (by omega)⟩
    refine q_tup3 cc2 (ev_red mem_head (hB.mono moA_map.mo w2.g) (ev_var rfl (up (sG.trans w2.g) pb)) (ev_var rfl q1) (ev_var rfl q2) ok hr0 hc0) fun y z xx g3 h3 c3 s3 p1 p2 p3 => ?_
    refine t_add c3 (ev_var rfl (up ((sG.trans w2.g).trans s3) pb)) (ev_var rfl p1) (ev_var rfl p2) (by rw [← hB.len, List.length_map]; omega) fun v2 bvs2 g4 h4 c4 s4 ho => ?_
    have sg4 := (w2.g.trans s3).trans s4
    unfold AddO at ho
    have efs : fwdStep L (r, v) = (match K97.nzCol (K97.red L r v).1 with
      | some c => some (L ++ [(c, (K97.red L r v).1, (K97.red L r v).2.1)])
      | none => if (K97.red L r v).2.1 = 0 then some L else none) := rfl
    cases hnz : K97.nzCol (K97.red L r v).1 with
    | some cc =>
      rw [hnz] at ho efs
      obtain ⟨rfl, be, rfl, hbe⟩ := ho
      refine ⟨true, rfl, ?_⟩
      have st := K97.fwdStep_some bas hl efs
      refine ⟨g4, sg4, _, _, _, bvs ++ [be], _, rfl, c4, sG.trans sg4, ?_, ft.trans efs, st.bas, K97.fwdStep_sz bsz hr0 hc0 efs, by rw [List.length_append]; simp; omega⟩
      rw [List.map_append]
      exact (hB.mono moA_map.mo sg4).snoc hbe
    | none =>
      rw [hnz] at ho efs
      obtain ⟨rfl, rfl⟩ := ho
      refine ⟨false, rfl, ?_⟩
      refine iteT ?_
      refine (et_not (et_B (ev_isz (ev_var rfl (up s4 p2))))) h4 c4.s .nil _ fun g5 h5 w5 => ?_
      by_cases hc : (K97.red L r v).2.1 = 0
      · rw [decide_eq_true hc]
        refine iteF ?_
        rw [if_pos hc] at efs
        exact ⟨g5, sg4.trans w5.g, _, _, _, bvs2, _, rfl, c4.go w5, (sG.trans sg4).trans w5.g, hB.mono moA_map.mo (sg4.trans w5.g), ft.trans efs, bas, bsz, by omega⟩
      · rw [decide_eq_false hc]
        refine iteT ?_
        rw [if_neg hc] at efs
        have dead := fwd_dead (ft.trans efs)
        have es : solveL A bv = .none := by unfold solveL; rw [dead]
        unfold SolO at q
        rw [es] at q
        exact q g5 h5 (c4.go w5).w
  · rintro s' g h sg' ⟨o3, o4, o5, bvs, L, rfl, cc, sG, hB, hf, bas, bsz, few'⟩
    rw [List.length_map] at hf few'
    have eall : (A.zip bv).take A.length = A.zip bv := List.take_of_length_le (by omega)
    rw [eall] at hf
    have s1g := s1.trans sG
    refine q_set cc (P := RV (.int (n : Int))) (ev_if (et_truthL (ev_var rfl (up s1g h0))) (fun hb => ?_) (fun hb => ?_)) fun vm g2 h2 c2 s2 pm => ?_
    · have hA : 0 < A.length := by
        cases A with
        | nil => simp at hb
        | cons a r => simp
      have hl : (K97.row A 0).length = n := by rw [← hn]; exact fa.row _ (K97.row_mem hA)
      refine (ev_len (ev_op (ev_var rfl (up s1g h0)) ev_c (rv_ixL (i := 0) (mat_get hA)))).is ?_
      rw [List.length_map, hl]
    · have hA : A = [] := by
        cases A with
        | nil => rfl
        | cons a r => simp at hb
      subst hA
      have : n = 0 := hn.symm
      subst this
      exact ev_c
    obtain rfl : vm = .int (n : Int) := pm
    have eb : bvs.length = L.length := by rw [← hB.len, List.length_map]
    have esol : solveL A bv = if L.length < n then .many else .sol (K97.back L n) := by
      unfold solveL
      rw [hf]
      show (if L.length < K97.width A then _ else _) = _
      rw [hn]
    refine q_if c2 (et_test (ev_op (ev_lenC (ev_rows TB (ev_var rfl (up (sG.trans s2) pb))) mem_head) (ev_var rfl rfl) rv_I0)) (fun hb g3 h3 c3 s3 => ?_) (fun hb g3 h3 c3 s3 => ?_)
    · have hlt : L.length < n := by
        have := of_decide_eq_true hb
        omega
      rw [if_pos hlt] at esol
      unfold SolO at q
      rw [esol] at q
      exact q g3 h3 c3.w
    have hge : ¬ L.length < n := by
      have := of_decide_eq_false hb
      omega
    rw [if_neg hge] at esol
    obtain ⟨hS, hfit⟩ := fa.back _ esol
    unfold SolO at q
    rw [esol] at q
    obtain ⟨c4, s4⟩ := c3.freeze
    have sg4 := (s2.trans s3).trans s4
    have hrows : RL (L.map (RBE C)) (.ref l) (upd g3 l (.lst bvs)) := ⟨l, bvs, rfl, upd_same, hB.mono moA_map.mo sg4⟩
    generalize upd g3 l (.lst bvs) = g4 at c4 s4 sg4 hrows
    refine q_setN c4 (en_rep (ev_lst (ea_cons (ev_q0 (C := C) ev_c) ea_nil)) (ev_var rfl rfl) (by omega)) fun lf o g5 h5 c5 s5 ho => ?_
    obtain ⟨xs0, rfl, hx0⟩ := ho
    have ebe : (L.map (RBE C)).reverse.length = L.length := by rw [List.length_reverse, List.length_map]
    have hrev : EvP (tRevL K (tFld K (tVar 2) "rows")) [some v0, some v1, some vb, o3, o4, o5, some (.int (n : Int)), some (.ref lf), none, none, none] g5 [] (RL (L.map (RBE C)).reverse) := by
      rw [← List.map_reverse]
      refine ev_rev (Rs := (L.map (RBE C))) (m := by rw [← List.map_reverse]; exact moA_map) ((ev_rows TB (ev_var rfl (up ((sG.trans sg4).trans s5) pb))).imp fun v G2 s2 e => ?_) |> fun h => by rw [List.map_reverse]; exact h
      obtain rfl : v = .ref l := e
      exact up (s5.trans s2) hrows
    rw [← List.map_reverse] at hrev
    refine q_for (cs' := []) c5 (ew_list hrev)
      (fun i s' g h => ∃ o3 o4 o8 o9 o10 xs, s' = [some v0, some v1, some vb, o3, o4, o5, some (.int (n : Int)), some (.ref lf), o8, o9, o10] ∧ Cel G H g h [(lf, .lst xs)] ∧ L2.Same g5 g ∧ F2 ((backAt L n (L.length - i)).map (RQ C)) xs g)
      (fun i s' g h ⟨_, _, _, _, _, _, _, cc, _⟩ => ⟨cc.s, .nil⟩) (fun G3 H3 c3 s3 => ⟨_, _, none, none, none, xs0, rfl, c3, s3, ?_⟩) ?_ ?_
    · rw [Nat.sub_zero, K97.backAt_end]
      rw [rep_row] at hx0
      exact hx0.mono moA_map.mo s3
    · rintro i s' g6 h6 x hi sg6 ⟨o3', o4', o8, o9, o10, xs, rfl, c6, sG6, hx⟩ g7 h7 w7 hY
      rw [List.length_map, List.length_reverse] at hi
      have hj : L.length - 1 - i < L.length := by omega
      have he : L[L.length - 1 - i]? = some L[L.length - 1 - i] := List.getElem?_eq_getElem hj
      have hY := hY.map (x := L[L.length - 1 - i]) (by rw [List.getElem?_reverse (by omega)]; exact he)
      have hmem : L[L.length - 1 - i] ∈ L := List.getElem_mem hj
      have hback := fun k => K97.back_sz bas bsz hS he k
      have hbat := K97.backAt_at (n := n) he
      have hlen := bas.len _ hmem
      have hcol := bas.col _ hmem
      have hne := bas.ne _ hmem
      obtain ⟨z1, z2⟩ := bsz _ _ he
      have hft := hfit (L.length - 1 - i) L.length (by omega) (by omega)
      generalize hjj : L.length - 1 - i = j at *
      have ej : L.length - i = j + 1 := by omega
      have ej2 : L.length - (i + 1) = j := by omega
      rw [ej] at hx
      rw [ej2]
      have hSf := K97.backAt_sz (n := n) (i := j + 1) bas.col (K97.bas_nodup bas) (by omega) hS
      have hflen := K97.backAt_len L n (j + 1)
      generalize L[j] = e at he hY hmem hback hbat hlen hcol hne z1 z2
      generalize backAt L n (j + 1) = fnd at hx hback hbat hSf hflen
      have c7 := c6.go w7
      refine g_tup3 hY c7.s fun yc yr yv q1 q2 q3 => ?_
      obtain rfl : yc = .int (e.1 : Int) := q1
      refine q_for (cs' := []) c7 (ew_enum (Rs := e.2.1.map (RQ C)) (ea_cons (ev_var rfl q2) ea_nil))
        (fun k s' g h => ∃ vc o9 o10, s' = [some v0, some v1, some vb, some yr, some vc, o5, some (.int (n : Int)), some (.ref lf), some (.int (e.1 : Int)), o9, o10] ∧ Cel G H g h [(lf, .lst xs)] ∧ L2.Same g7 g ∧ RQ C (backC e fnd k) vc g)
        (fun i s' g h ⟨_, _, _, _, cc, _⟩ => ⟨cc.s, .nil⟩) (fun G3 H3 c3 s3 => ⟨yv, _, _, rfl, c3, s3, up s3 q3⟩) ?_ ?_
      · rintro k s' g8 h8 x8 hk sg8 ⟨vc, p9, p10, rfl, c8, sG8, hvc⟩ g9 h9 w9 hY9
        rw [List.length_map] at hk
        have c9 := c8.go w9
        refine g_tup2 hY9 c9.s fun yi yw r1 r2 => ?_
        obtain rfl : yi = .int (k : Int) := r1
        have r2 := r2.of (row_get hk)
        have hcnt := K97.backC_sz (S := S) z1 z2 hSf k
        refine s_if c9 (et_and (et_test (ev_op (ev_var rfl rfl) (ev_var rfl rfl) (rv_ne rfl))) (fun _ => et_not (et_B (ev_isz (ev_var rfl r2))))) (fun hb g10 h10 c10 s10 => ?_) (fun hb g10 h10 c10 s10 => ?_)
        · rw [Bool.and_eq_true] at hb
          have hkc : k ≠ e.1 := fun z => by simp [z] at hb
          obtain ⟨vf, hvf, hRf⟩ := hx.get (row_get (C := C) (r := fnd) (j := k) (by omega))
          have sz1 := hback k
          refine s_set c10 (ev_qop (ev_var rfl (up (w9.g.trans s10) hvc)) (ev_qop (ev_var rfl (up s10 r2)) (rv_ixC mem_head hvf (up (((w7.g.trans sG8).trans w9.g).trans s10) hRf) (ev_var rfl rfl) (ev_var rfl rfl)) (fit_of (z1.at _) (hSf.at _) ?_)) (fit_of sz1 ((z1.at _).mul (hSf.at _)) ?_)) fun vn g11 h11 c11 s11 p11 => ?_
          · have := fa.slim
            omega
          · have := fa.slim
            omega
          · refine ⟨g11, (w9.g.trans s10).trans s11, vn, _, _, rfl, c11, ((sG8.trans w9.g).trans s10).trans s11, ?_⟩
            rw [K97.backC_succ, if_neg hkc]
            exact p11
        · refine ⟨g10, w9.g.trans s10, vc, _, _, rfl, c10, (sG8.trans w9.g).trans s10, ?_⟩
          have e2 : backC e fnd (k + 1) = backC e fnd k := by
            rw [K97.backC_succ]
            by_cases hkc : k = e.1
            · rw [if_pos hkc]
            · rw [if_neg hkc]
              have hkc2 : ¬ ((k : Nat) : Int) = ((e.1 : Nat) : Int) := by omega
              have hz : at0 e.2.1 k = 0 := by
                simpa [hkc2] using hb
              rw [hz]
              grind
          rw [e2]
          exact up (w9.g.trans s10) hvc
      · rintro s' g8 h8 sg8 ⟨vc, p9, p10, rfl, c8, sG8, hvc⟩
        rw [List.length_map, hlen] at hvc
        have hb2 := hback n
        refine s_setL c8 (ev_quo (ev_var rfl hvc) (ev_ixR (ev_var rfl (up sG8 q2)) (ev_var rfl rfl) (by omega)) (fit_of hb2 (z1.at _) ?_) hne) rfl (ev_var rfl rfl) (by rw [← hx.len, List.length_map]; omega) fun vn g9 h9 c9 s9 p9 => ?_
        · omega
        · refine ⟨g9, (w7.g.trans sG8).trans s9, _, _, _, _, _, _, rfl, c9, ((sG6.trans w7.g).trans sG8).trans s9, ?_⟩
          rw [hbat]
          show F2 ((fnd.set e.1 (backC e fnd e.2.1.length / at0 e.2.1 e.1)).map (RQ C)) _ _
          rw [List.map_set, hlen]
          exact (hx.mono moA_map.mo ((w7.g.trans sG8).trans s9)).set _ p9
    · rintro s' g6 h6 sg6 ⟨o3', o4', o8, o9, o10, xs, rfl, c6, sG6, hx⟩
      rw [List.length_map, List.length_reverse, Nat.sub_self, K97.backAt_zero] at hx
      obtain ⟨c7, s7⟩ := c6.freeze
      refine s_ret c7 (ev_var rfl (P := RRow C (K97.back L n)) ⟨lf, xs, rfl, upd_same, hx.mono moA_map.mo s7⟩) fun v g8 h8 c8 s8 p8 => q v g8 h8 c8.w p8
end
end KW
end
section
set_option Elab.async false
set_option linter.all false
set_option maxRecDepth 100000
set_option maxHeartbeats 1000000
namespace KW
open PySem PySem.Spec PyProof.Rows L2
open K97 (Sz Raw BE at0 subF redStep redAt RowSz BSz)
theorem ew_zipC {K : PySem.W.Frag} {σ : L2.St} {G : Hp} {cs : List (Addr × HO)} {tA : TA} {Rs Ss : List VP} {b : Addr} {ys : List V} [m1 : MoA Rs] [m2 : MoA Ss] (h : EvA tA σ G cs (F2 [RL Rs, RV (.ref b)])) (hm : (b, .lst ys) ∈ cs) (hf2 : F2 Ss ys G) (hl : Rs.length = Ss.length) : EvW (iZip K tA) σ G cs Rs.length (fun i => RT [Ith Rs i, Ith Ss i]) := fun H s hc R q =>
  h H s hc _ fun vs G2 H2 w p => by
    obtain ⟨v, r, rfl, p1, p2⟩ := p.inv_cons
    obtain ⟨v2, r2, rfl, p3, p4⟩ := p2.inv_cons
    obtain rfl := p4.inv_nil
    obtain ⟨a, xs, rfl, hs, hf⟩ := p1
    obtain rfl : v2 = .ref b := p3
    have hs : SqL K G2 a xs := .inl (.inl hs)
    have hH : ∀ {G' H'}, HC cs G' H' → SqL K H' b ys := fun {G' H'} h' => .inl (.inl (h' _ hm).1)
    refine ⟨a, b, xs, ys, rfl, w.s.seq hs, hH (hc.up w), q _ G2 H2 w ⟨fun i G1 H1 hi s1 s2 hc1 => ?_, fun G1 H1 s1 s2 hc1 => ⟨xs, ys, s2.seq (s1.seq hs), hH hc1, .inl (by rw [hf.len]; exact Nat.le_refl _)⟩⟩⟩
    have hi2 : i < Ss.length := by rw [← hl]; exact hi
    obtain ⟨v, hv, hR⟩ := hf.get (List.getElem?_eq_getElem hi)
    obtain ⟨v2, hv2, hR2⟩ := hf2.get (List.getElem?_eq_getElem hi2)
    refine ⟨⟨xs, ys, v, v2, s2.seq (s1.seq hs), hH hc1, hv, hv2⟩, fun x H' y => ?_⟩
    obtain ⟨T, z, z2, rfl, hT, rfl, y1, y2⟩ := y
    have e := y1 xs (s2.seq (s1.seq hs))
    rw [hv] at e
    cases e
    have e := y2 ys (hH hc1)
    rw [hv2] at e
    cases e
    have st := s1.trans (same_new (o := HO.tup [v, v2]) (s2.free hT))
    exact ⟨_, .new s2 hT, T, _, rfl, upd_same, ⟨_, List.getElem?_eq_getElem hi, m1.mo _ (List.getElem_mem hi) _ _ _ st hR⟩, ⟨_, List.getElem?_eq_getElem hi2, m2.mo _ (List.getElem_mem hi2) _ _ _ (w.g.trans st) hR2⟩, trivial⟩
/-! ### contradiction -/
abbrev sCon : Stmt := top 24
def N_Con : List Str := ["rows", "constants", "basis", "made", "at", "row", "rest", "constant", "factors", "own", "factor", "other", "k"]
theorem scCon : FnScope N_Con ["rows", "constants"] (defScope sCon) := ⟨rfl, rfl, rfl, by decide +kernel, rfl, by decide +kernel, by decide +kernel⟩
structure FitC (A : List (List Rat)) (bv : List Rat) (b c : Nat) : Prop where
  row : ∀ r ∈ A, r.length = K97.width A
  wide : K97.width A ≤ 100
  few : A.length ≤ 5
  many : bv.length = A.length
  sz : ∀ r ∈ A, RowSz b r
  szc : RowSz c bv
  fit : ∀ k, k < A.length → K97.bb b k + K97.cb b c k ≤ 13400
  fit2 : ∀ k, k < A.length → 2 * K97.bb b k + 2 * K97.cb b 0 k ≤ 13300
def ConO (C : Addr) (A : List (List Rat)) (bv : List Rat) (b : Nat) : VP := match K97.contradiction A bv with
  | none => RV .non
  | some f => RAnd (RRow C f) (RowSz (K97.cb b 0 A.length) f)
def spCon (C : Addr) : Sp := fun vs H Q _ => vs.length = 2 ∧ ∃ (G : Hp) (A : List (List Rat)) (bv : List Rat) (b c : Nat), L2.Same G H ∧ F2 [RMat C A, RRow C bv] vs G ∧ FitC A bv b c ∧ ∀ v G2 H2, Gw G H G2 H2 → ConO C A bv b v G2 → Q v H2
section
variable {P : Program} {w : World} {K : PySem.W.Frag} {mg : Str → Option Value} {base : Heap} {C CB : Addr}
theorem dn_con (Dd : Df K mg "contradiction" sCon) (B : Kit P w K mg base C) (TB : BasX K mg CB) : Dn P w K mg base "contradiction" 6 ["rows", "constants"] (spCon C) := by
  refine dn_of Dd scCon (fun _ _ _ _ _ _ us hl => match us, hl with | [_, _], _ => rfl) (fun vs H Q E h => h.1) (fun f cdv A0 outer s H vs Q E hr h => ?_)
  obtain ⟨_, G, A, bv, b, c0, sg, hF, fa, q⟩ := h
  obtain ⟨v0, v1, rfl, h0, h1⟩ := two_of hF
  have nd := scCon.nd
  have hu := hu_of hr
  refine ⟨_, (pss_cons (ps_set (i := 2) nd rfl (.inl rfl) (pe_basis TB (hr.mono (by decide)) (by rfl)))
  (pss_cons (ps_set (i := 3) nd rfl (.inl rfl) (pe_lst pa_nil))
  (pss_cons (ps_for PassesOwn.never rfl (pi_enum (by rfl) B.enum (pa_cons (pv 0) pa_nil)) (pg_tup rfl (pgs_cons (pg_name (i := 4) nd rfl (.inl rfl)) (pgs_cons (pg_name (i := 5) nd rfl (.inl rfl)) pgs_nil)))
  (pss_cons (ps_asg (pe_mt_red B TB (hr.mono (by decide)) (pv 2) (pa_cons (pv 5) (pa_cons (pe_ix ix_list (pv 1) (pv 4) (fun _ _ => rfl)) pa_nil))) (pg_tup rfl (pgs_cons (pg_name (i := 6) nd rfl (.inl rfl)) (pgs_cons (pg_name (i := 7) nd rfl (.inl rfl)) (pgs_cons (pg_name (i := 8) nd rfl (.inl rfl)) pgs_nil)))))
    (pss_cons (ps_set (i := 9) nd rfl (.inr rfl) (pe_op op_rep (pe_lst (pa_cons (pe_ratio1 B.T B.gd (hr.mono (by decide)) (by rfl) (pa_cons pe_int pa_nil)) pa_nil)) (pe_callB call_len_seq (by rfl) B.len PySem.boot_len (pa_cons (pv 0) pa_nil))))
    (pss_cons (ps_asg (pe_ratio1 B.T B.gd (hr.mono (by decide)) (by rfl) (pa_cons pe_int pa_nil)) (pg_sub (pv 9) (pv 4) set_list))
    (pss_cons (ps_for PassesOwn.never rfl (pi_zip (by rfl) B.zip (pa_cons (pv 8) (pa_cons (pv 3) pa_nil))) (pg_tup rfl (pgs_cons (pg_name (i := 10) nd rfl (.inr rfl)) (pgs_cons (pg_name (i := 11) nd rfl (.inr rfl)) pgs_nil)))
    (pss_one (ps_set (i := 9) nd rfl (.inr rfl) (pe_lc (own := [("k", 12)]) (tt := tYes) rfl nd (pi_range1 (by rfl) B.range (pa_cons (pe_callB call_len_seq (by rfl) B.len PySem.boot_len (pa_cons (pv 0) pa_nil)) pa_nil)) (blkOk_by (N := N_Con) (sc := defScope sCon) (by decide +kernel)) (fun _ _ _ _ _ => (pg_name (i := 12) nd rfl (.inl rfl))) (fun _ _ _ _ _ => pts_nil) (fun _ _ _ _ _ => (pe_op (op_qsub B (hr.mono (by decide))) (pe_ix (r := rIxL K) ix_list (pv 9) (pv 12) (fun _ _ => rfl)) (pe_op (op_qmul B (hr.mono (by decide))) (pv 10) (pe_ix (r := rIxL K) ix_list (pv 11) (pv 12) (fun _ _ => rfl)))))))))
    (pss_one (ps_if (pt_val (pe_mt_add B TB (hr.mono (by decide)) (pv 2) (pa_cons (pv 6) (pa_cons (pv 7) pa_nil)))) (pss_one (ps_expr (pe_bm PySem.F.plainAttrs_list PySem.F.slot_list_append PySem.F.type_list_append mt_append (pv 3) (pa_cons (pv 9) pa_nil)))) (pss_one (ps_if (pt_not (pt_val (pe_dn B.isz (hr.mono (by decide)) (by rfl) (pa_cons (pv 7) pa_nil)))) (pss_one (ps_ret (pv 9))) pss_nil)))))))))
  (pss_one (ps_ret pe_non))))), ?_⟩
  have c := Cel.start sg
  generalize hn : K97.width A = n at *
  have few := fa.few
  have wide := fa.wide
  rw [hn] at wide
  refine q_basis (CB := CB) c fun vb l G1 H1 c1 s1 pb => ?_
  refine q_setN c1 en_nil fun lm o G2 H2 c2 s2 eo => ?_
  subst eo
  have s12 := s1.trans s2
  refine q_for (cs' := []) c2 (ew_enum (Rs := A.map (RRow C)) (ea_cons (ev_var rfl (up s12 h0)) ea_nil))
    (fun i s' g h => ∃ o4 o5 o6 o7 o8 o9 o10 o11 bvs ms L M, s' = [some v0, some v1, some vb, some (.ref lm), o4, o5, o6, o7, o8, o9, o10, o11, none] ∧ Cel G H g h [(lm, .lst ms), (l, .lst bvs)] ∧ L2.Same G2 g ∧ F2 (L.map (RBE C)) bvs g ∧ F2 (M.map (RRow C)) ms g ∧
      K97.Bas n L ∧ BSz b c0 L ∧ K97.OSz b M ∧ (∀ o ∈ M, o.length = A.length) ∧ L.length ≤ i ∧ M.length = L.length ∧ K97.contr A bv (List.range' i (A.length - i)) L M = K97.contradiction A bv)
    (fun i s' g h ⟨_, _, _, _, _, _, _, _, _, _, _, _, _, cc, _⟩ => ⟨cc.s, .nil⟩)
    (fun G3 H3 c3 s3 => ⟨none, none, none, none, none, none, none, none, [], [], [], [], rfl, c3, s3, trivial, trivial, .nil, .nil, fun i o h => by simp at h, fun o h => by simp at h, Nat.le_refl _, rfl, ?_⟩) ?_ ?_
  · unfold K97.contradiction
    rw [Nat.sub_zero, List.range_eq_range']
  · rintro i s' g h x hi sg' ⟨o4, o5, o6, o7, o8, o9, o10, o11, bvs, ms, L, M, rfl, cc, sG, hB, hM, bas, bsz, osz, olen, few', eLM, hcon⟩ g2 h2 w2 hY
    have hi' : i < A.length := by rw [List.length_map] at hi; exact hi
    have hib : i < bv.length := by rw [fa.many]; exact hi'
    have cc2 := cc.go w2
    refine g_tup2 hY cc2.s fun yi yr q1 q2 => ?_
    obtain rfl : yi = .int (i : Int) := q1
    have q2 := q2.of (mat_get hi')
    have hm : K97.row A i ∈ A := K97.row_mem hi'
    have hl := fa.row _ hm
    rw [hn] at hl
    have hr0 := fa.sz _ hm
    have hc0 := fa.szc.at i
    have econ : K97.contr A bv (List.range' i (A.length - i)) L M = (match K97.nzCol (K97.red L (K97.row A i) (at0 bv i)).1 with
      | some c => K97.contr A bv (List.range' (i + 1) (A.length - (i + 1))) (L ++ [(c, (K97.red L (K97.row A i) (at0 bv i)).1, (K97.red L (K97.row A i) (at0 bv i)).2.1)]) (M ++ [K97.ownOf A.length i (K97.red L (K97.row A i) (at0 bv i)).2.2 M])
      | none => if (K97.red L (K97.row A i) (at0 bv i)).2.1 = 0 then K97.contr A bv (List.range' (i + 1) (A.length - (i + 1))) L M else some (K97.ownOf A.length i (K97.red L (K97.row A i) (at0 bv i)).2.2 M)) := by
      have e : A.length - i = A.length - (i + 1) + 1 := by omega
      rw [e, List.range'_succ]
      rfl
    have hz := K97.red_sz bsz hr0 hc0 L.length (Nat.le_refl _)
    rw [K97.redAt_all] at hz
    have hfl := K97.redAt_fs L (K97.row A i) (at0 bv i) L.length (Nat.le_refl _)
    rw [K97.redAt_all] at hfl
    have hlr := K97.redAt_len L (K97.row A i) (at0 bv i) L.length
    rw [K97.redAt_all, hl] at hlr
    have efs : K97.fwdStep L (K97.row A i, at0 bv i) = (match K97.nzCol (K97.red L (K97.row A i) (at0 bv i)).1 with
      | some c => some (L ++ [(c, (K97.red L (K97.row A i) (at0 bv i)).1, (K97.red L (K97.row A i) (at0 bv i)).2.1)])
      | none => if (K97.red L (K97.row A i) (at0 bv i)).2.1 = 0 then some L else none) := rfl
    have ok : BOk (K97.row A i).length b c0 L := ⟨by rw [hl]; exact bas, bsz, by omega, by omega, fun k hk => fa.fit k (by omega)⟩
    have s2a := sG.trans w2.g
    refine q_tup3 cc2 (ev_red mem_2 (hB.mono moA_map.mo w2.g) (ev_var rfl (up (s2.trans s2a) pb)) (ev_var rfl q2) (ev_ixR (ev_var rfl (up (s12.trans s2a) h1)) (ev_var rfl rfl) hib) ok hr0 hc0) fun y z fs g3 h3 c3 s3 p1 p2 p3 => ?_
    generalize K97.red L (K97.row A i) (at0 bv i) = rd at *
    refine q_setN c3 (en_rep (ev_lst (ea_cons (ev_q0 (C := C) ev_c) ea_nil)) (ev_len (ev_var rfl (up ((s12.trans s2a).trans s3) h0))) (by rw [List.length_map]; omega)) fun lo o g4 h4 c4 s4 ho => ?_
    obtain ⟨xo, rfl, hxo⟩ := ho
    rw [List.length_map] at hxo
    refine q_setL c4 (ev_q1 (C := C) ev_c) rfl (ev_var rfl rfl) (by rw [← hxo.len, List.length_replicate]; exact hi') fun v1' g5 h5 c5 s5 p5 => ?_
    obtain ⟨c6, s6⟩ := c5.freeze
    have hown0 : RRow C (K97.unitR A.length i) (.ref lo) (upd g5 lo (.lst (xo.set i v1'))) := by
      refine ⟨lo, _, rfl, upd_same, ?_⟩
      unfold K97.unitR
      rw [List.map_set, ← rep_row]
      exact ((hxo.mono moA_rep.mo (s5.trans s6)).set i (up s6 p5))
    generalize upd g5 lo (.lst (xo.set i v1')) = g6 at c6 s6 hown0
    have s36 := ((s4.trans s5).trans s6)
    have hMg := hM.mono moA_map.mo ((w2.g.trans s3).trans s36)
    have osl := fun k hk => K97.own_sz (m := A.length) (i := i) (hfl.trans eLM.symm) hz.2.2 osz k hk
    refine q_for (cs' := [(lm, .lst ms)]) c6 (ew_zipC (Rs := rd.2.2.map (RQ C)) (Ss := M.map (RRow C)) (ea_cons (ev_var rfl (up s36 p3)) (ea_cons (ev_var rfl rfl) ea_nil)) mem_head hMg (by rw [List.length_map, List.length_map, hfl, eLM]))
      (fun k s' g h => ∃ vo o10 o11, s' = [some v0, some v1, some vb, some (.ref lm), some (.int (i : Int)), some yr, some y, some z, some fs, some vo, o10, o11, none] ∧ Cel G H g h [(lm, .lst ms), (l, .lst bvs)] ∧ L2.Same g6 g ∧ RRow C (K97.ownAt A.length i rd.2.2 M k) vo g)
      (fun i s' g h ⟨_, _, _, _, cc, _⟩ => ⟨cc.s, cc.hc.sub (by simp)⟩) (fun G3 H3 c3 s3 => ⟨_, _, _, rfl, c3, s3, up s3 hown0⟩) ?_ ?_
    · rintro k s' g7 h7 x7 hk sg7 ⟨vo, p10, p11, rfl, c7, sG7, hvo⟩ g8 h8 w8 hY8
      rw [List.length_map] at hk
      have c8 := c7.go w8
      refine g_tup2 hY8 c8.s fun yf yo r1 r2 => ?_
      have r1 := r1.of (row_get hk)
      have hkM : k < M.length := by omega
      have r2 := r2.of (mat_get hkM)
      have hmo := olen _ (K97.row_mem hkM)
      have ef : rd.2.2[k]? = some (at0 rd.2.2 k) := by rw [K97.at0_lt hk]; exact List.getElem?_eq_getElem hk
      have eo : M[k]? = some (K97.row M k) := by
        unfold K97.row
        rw [List.getD_eq_getElem?_getD, List.getElem?_eq_getElem hkM]
        rfl
      have esucc := K97.ownAt_succ (m := A.length) (i := i) ef eo
      have hszo := osl k (by omega)
      have hszf := hz.2.2 k _ ef
      have hszm := osz k _ eo
      have hol := K97.ownAt_len A.length i rd.2.2 M k
      have ft := fa.fit2 k (by omega)
      refine s_set c8 (ev_row (C := C) (g := fun j => at0 (K97.ownAt A.length i rd.2.2 M k) j - at0 rd.2.2 k * at0 (K97.row M k) j) (ev_lcA (ew_range (n := A.length) (ea_cons ((ev_len (ev_var rfl (up ((((s12.trans s2a).trans s3).trans s36).trans (sG7.trans w8.g)) h0))).is (by rw [List.length_map])) ea_nil) (by omega)) (by omega) _ fun j x g' hj sg' hY h' s' kk qq => ?_)) fun vn g9 h9 c9 s9 p9 => ?_
      · refine qq _ rfl (ev_qop (ev_ixR (ev_var rfl (up (w8.g.trans sg') hvo)) (ev_var rfl hY) (by rw [hol]; exact hj)) (ev_qop (ev_var rfl (up sg' r1)) (ev_ixR (ev_var rfl (up sg' r2)) (ev_var rfl hY) (by rw [hmo]; exact hj)) ?_) ?_)
        · exact fit_of hszf (hszm.at _) (by omega)
        · exact fit_of (hszo.at _) (hszf.mul (hszm.at _)) (by omega)
      · refine ⟨g9, w8.g.trans s9, vn, _, _, rfl, c9, (sG7.trans w8.g).trans s9, ?_⟩
        rw [esucc]
        unfold subF
        rw [hol]
        exact p9
    · rintro s' g7 h7 sg7 ⟨vo, p10, p11, rfl, c7, sG7, hvo⟩
      rw [List.length_map, K97.ownAt_all (hfl.trans eLM.symm)] at hvo
      have hosz := osl rd.2.2.length (Nat.le_refl _)
      rw [K97.ownAt_all (hfl.trans eLM.symm), hfl] at hosz
      have s37 := s36.trans sG7
      have c7' := c7.swap
      refine t_add c7' (ev_var rfl (up ((s2.trans s2a).trans (s3.trans s37)) pb)) (ev_var rfl (up s37 p1)) (ev_var rfl (up s37 p2)) (by rw [← hB.len, List.length_map]; omega) fun v2 bvs2 g8 h8 c8 s8 ho => ?_
      have s38 := (s3.trans s37).trans s8
      unfold AddO at ho
      have hBg := hB.mono moA_map.mo (w2.g.trans s38)
      have hMg2 := hM.mono moA_map.mo (w2.g.trans s38)
      cases hnz : K97.nzCol rd.1 with
      | some cc =>
        rw [hnz] at ho efs econ
        obtain ⟨rfl, be, rfl, hbe⟩ := ho
        refine ⟨true, rfl, iteT ?_⟩
        have st := K97.fwdStep_some bas hl efs
        refine s_app c8.swap rfl (ev_var rfl (up s8 hvo)) (by rw [← hM.len, List.length_map]; omega) fun vn g9 h9 c9 s9 p9 => ?_
        refine ⟨g9, (w2.g.trans s38).trans s9, _, _, _, _, _, _, _, _, bvs ++ [be], ms ++ [vn], _, _, rfl, c9, (sG.trans (w2.g.trans s38)).trans s9, ?_, ?_, st.bas, K97.fwdStep_sz bsz hr0 hc0 efs, ?_, ?_, ?_, ?_, econ.symm.trans hcon⟩
        · rw [List.map_append]
          exact (hBg.mono moA_map.mo s9).snoc (up s9 hbe)
        · rw [List.map_append]
          exact (hMg2.mono moA_map.mo s9).snoc p9
        · intro j o ho
          rcases Nat.lt_trichotomy j M.length with e | e | e
          · rw [List.getElem?_append_left e] at ho; exact osz j o ho
          · subst e
            rw [List.getElem?_append_right (Nat.le_refl _), Nat.sub_self] at ho
            cases ho
            rw [eLM]; exact hosz
          · rw [List.getElem?_append_right (by omega), List.getElem?_eq_none (by simp; omega)] at ho
            cases ho
        · intro o ho
          rcases List.mem_append.mp ho with ho | ho
          · exact olen o ho
          · rw [List.mem_singleton.mp ho, ← K97.ownAt_all (hfl.trans eLM.symm), K97.ownAt_len]
        · rw [List.length_append]; simp; omega
        · rw [List.length_append, List.length_append, eLM]; rfl
      | none =>
        rw [hnz] at ho efs econ
        obtain ⟨rfl, rfl⟩ := ho
        refine ⟨false, rfl, iteF ?_⟩
        refine s_if c8 (et_not (et_B (ev_isz (ev_var rfl (up (s37.trans s8) p2))))) (fun hb g9 h9 c9 s9 => ?_) (fun hb g9 h9 c9 s9 => ?_)
        · have hc : ¬ rd.2.1 = 0 := by simpa using hb
          have econ : _ = (if rd.2.1 = 0 then _ else _) := econ
          rw [if_neg hc] at econ
          have ec : K97.contradiction A bv = _ := hcon.symm.trans econ
          refine s_ret c9 (ev_var rfl (up (s8.trans s9) hvo)) fun v g10 h10 c10 s10 p10 => q v g10 h10 c10.w ?_
          unfold ConO
          rw [ec]
          exact ⟨p10, hosz.mono (K97.cb_le b 0 (by omega))⟩
        · have hc : rd.2.1 = 0 := by simpa using hb
          have econ : _ = (if rd.2.1 = 0 then _ else _) := econ
          rw [if_pos hc] at econ
          exact ⟨g9, (w2.g.trans s38).trans s9, _, _, _, _, _, _, _, _, bvs2, ms, L, M, rfl, c9.swap, (sG.trans (w2.g.trans s38)).trans s9, hBg.mono moA_map.mo s9, hMg2.mono moA_map.mo s9, bas, bsz, osz, olen, by omega, eLM, econ.symm.trans hcon⟩
  · rintro s' g h sg' ⟨o4, o5, o6, o7, o8, o9, o10, o11, bvs, ms, L, M, rfl, cc, sG, hB, hM, bas, bsz, osz, olen, few', eLM, hcon⟩
    rw [List.length_map, Nat.sub_self] at hcon
    have ec : K97.contradiction A bv = none := hcon.symm
    refine s_ret cc ev_c fun v g10 h10 c10 s10 p10 => q v g10 h10 c10.w ?_
    unfold ConO
    rw [ec]
    exact p10
end
end KW
end
section
set_option Elab.async false
set_option linter.all false
set_option maxRecDepth 100000
set_option maxHeartbeats 1000000
namespace KW
open PySem PySem.Spec PyProof.Rows L2
/-! ### dict comprehensions -/
theorem ps_setDc {X : Cx} {sl : Nat} {nm : Str} {pn : Pos} {ke ve tgt itr : Expr} {tests : List Expr} {scp : Scope} {mine : List (Str × Nat)} {ps1 ps2 : Pos} {wi : TI} {g : TG} {tt : TT} {tk tv : TE} (hcalm : X.calm = true) (hnd : X.N.Nodup) (hat : X.N[sl]? = some nm) (hloc : X.env.scope.names.lookup nm = some .local)
    (hswap : swapsWith (.DictComp ke ve [⟨tgt, itr, tests, 0⟩] scp ps1) (some (.Name nm pn)) ps2.line X.env = pure true) (hiter : PI X tgt itr wi) (hblk : BlkOk X.N X.env.scope scp mine)
    (h1 : ∀ (s : Shared) (H : Hp) (C : Addr) (cl : List (Str × Addr)) (fp : List Addr), PG (X.blk s H scp (compEnvC scp cl C X.env) fp) tgt g) (h2 : ∀ (s : Shared) (H : Hp) (C : Addr) (cl : List (Str × Addr)) (fp : List Addr), PTs (X.blk s H scp (compEnvC scp cl C X.env) fp) tests tt)
    (h3 : ∀ (s : Shared) (H : Hp) (C : Addr) (cl : List (Str × Addr)) (fp : List Addr), PE (X.blk s H scp (compEnvC scp cl C X.env) fp) ke tk) (h4 : ∀ (s : Shared) (H : Hp) (C : Addr) (cl : List (Str × Addr)) (fp : List Addr), PE (X.blk s H scp (compEnvC scp cl C X.env) fp) ve tv)
    (hfold : ∀ x, foldedSetIterable itr X.env x = pure x := by intro _; rfl) : PS X (.Assign [.Name nm pn] (.DictComp ke ve [⟨tgt, itr, tests, 0⟩] scp ps1) ps2) (tAsg (tDc wi g tt tk tv (mine.map (·.2))) (gName sl)) := by
  refine ⟨fun held st0 τ Hh Ds Iv hw => ?_⟩
  rw [exec_Assign_Name_used _ _ _ _ hswap]
  refine wpAny_bind (wpAny_standAt (wpAny_bind ?_))
  show wpAny _ X.A (do let _ ← comprehension (.DictComp ke ve [⟨tgt, itr, tests, 0⟩] scp ps1) scp X.env (firstIterPos [⟨tgt, itr, tests, 0⟩] ps1) newDict false (eval itr X.env) (some (assign (.Name nm pn) X.env))) _ _ st0
  have hw : tDc wi g tt tk tv (mine.map (·.2)) τ Hh (fun x H1 => gName sl x τ H1 Ds.nx) := hw
  refine wpAny_bind (thn (dc_core (Qf := fun _ s' => SP X held Ds .next s') hcalm hnd Iv hiter hblk h1 h2 h3 h4 hfold hw fun L C s' m H' Iw q hn f => ?_) fun _ s' hq => wpAny_pure (wpAny_pure hq))
  show wpAny _ _ (assign (.Name nm pn) X.env (.ref L)) _ _ _
  refine wpAny_assign_Name (store_ok2 (v := V.ref L) Iw hnd hat (.inl hloc) rfl (fun s2 I2 ⟨a, sb, ha⟩ => ?_) (.inr hloc))
  obtain ⟨f0, f1, f2, f3, f4, f5⟩ := f
  have apart : C ≠ a := ha.elim (fun z => z ▸ f1) fun z e => f4 nm a z e.symm
  exact ⟨m, hn.sameBut sb apart, fun h9 sb9 => ⟨_, H', I2.turned (t' := s2.toks) (fun b o hb e => (sb9.2 b hb).trans e) f0 f1 f3 f4 f5, q⟩⟩
theorem swD_true {ke ve : Expr} {gens : List Comprehension} {scp : Scope} {ps1 pn : Pos} {nm : Str} {ln : Nat} {en : Env} (hkind : en.scope.kind = .function) (hloc : en.scope.names.lookup nm = some .local) (hline : (pn.line == ps1.line) = true)
    (hany : (scp.names.any fun (n, k) => n == nm && (k == .local || k == .cell)) = false) : swapsWith (.DictComp ke ve gens scp ps1) (some (.Name nm pn)) ln en = pure true := by
  have e1 : en.kindOf nm = some .local := hloc
  have e2 : en.blockKind = .function := by unfold Env.blockKind; rw [hkind]; rfl
  unfold swapsWith
  simp only [e2, e1, hany, Expr.pos, hline]
  rfl
/-! ### a dict item by item -/
section
variable {κ : Type} [DecidableEq κ]
def DRel (ks : List κ) (Rs : List VP) (kvs : List (κ × V)) (G : Hp) : Prop := kvs.map (·.1) = ks ∧ F2 Rs (kvs.map (·.2)) G
theorem valV_not {kvs : List (κ × V)} {k : κ} (h : k ∉ kvs.map (·.1)) : valV kvs k = none := by
  unfold valV
  rw [List.find?_eq_none.mpr fun p hp => ?_]
  · rfl
  · simp only [decide_eq_true_eq]
    exact fun e => h (e ▸ List.mem_map_of_mem hp)
theorem valV_in : ∀ {kvs : List (κ × V)} {i : Nat} {k : κ} {v : V}, (kvs.map (·.1)).Nodup → kvs[i]? = some (k, v) → valV kvs k = some v
  | [], _, _, _, _, h => by simp at h
  | (a, b) :: r, 0, k, v, _, h => by
    simp at h
    obtain ⟨rfl, rfl⟩ := h
    exact valV_pos rfl
  | (a, b) :: r, i + 1, k, v, nd, h => by
    rw [List.map_cons, List.nodup_cons] at nd
    have h : r[i]? = some (k, v) := by simpa using h
    have hm : k ∈ r.map (·.1) := List.mem_map.mpr ⟨(k, v), List.mem_of_getElem? h, rfl⟩
    rw [valV_neg fun e => nd.1 (by rw [show a = k from e]; exact hm)]
    exact valV_in nd.2 h
theorem valV_has {kvs : List (κ × V)} {k : κ} : (valV kvs k).isSome = decide (k ∈ kvs.map (·.1)) := by
  rw [← valV_any]
  by_cases h : k ∈ kvs.map (·.1)
  · rw [decide_eq_true h, List.any_eq_true]
    obtain ⟨p, hp, e⟩ := List.mem_map.mp h
    exact ⟨p, hp, decide_eq_true e⟩
  · rw [decide_eq_false h, List.any_eq_false]
    intro p hp e
    exact h (List.mem_map.mpr ⟨p, hp, of_decide_eq_true e⟩)
theorem valV_hasP {kvs : List (κ × V)} {k : κ} : (valV kvs k).isSome = true ↔ k ∈ kvs.map (·.1) := by rw [valV_has, decide_eq_true_iff]
variable {ks : List κ} {Rs : List VP} {kvs : List (κ × V)} {G G' : Hp}
theorem DRel.nil : DRel ([] : List κ) [] [] G := ⟨rfl, trivial⟩
theorem DRel.len (h : DRel ks Rs kvs G) : kvs.length = ks.length ∧ Rs.length = ks.length := by
  have h1 := congrArg List.length h.1
  have h2 := h.2.len
  rw [List.length_map] at h1 h2
  exact ⟨h1, by omega⟩
theorem DRel.mono [m : MoA Rs] (h : DRel ks Rs kvs G) (e : L2.Same G G') : DRel ks Rs kvs G' := ⟨h.1, h.2.mono m.mo e⟩
theorem DRel.get (h : DRel ks Rs kvs G) (nd : ks.Nodup) {i : Nat} {k : κ} {R : VP} (hk : ks[i]? = some k) (hR : Rs[i]? = some R) : ∃ v, valV kvs k = some v ∧ kvs[i]? = some (k, v) ∧ R v G := by
  obtain ⟨v, hv, r⟩ := h.2.get hR
  rw [← h.1] at hk
  rw [List.getElem?_map] at hk hv
  cases e : kvs[i]? with
  | none => rw [e] at hv; cases hv
  | some p =>
    rw [e] at hk hv
    obtain ⟨a, b⟩ := p
    cases hk
    cases hv
    exact ⟨_, valV_in (by rw [h.1]; exact nd) e, rfl, r⟩
theorem DRel.has (h : DRel ks Rs kvs G) (k : κ) : (valV kvs k).isSome = decide (k ∈ ks) := by rw [valV_has, h.1]
theorem DRel.hasP (h : DRel ks Rs kvs G) (k : κ) : (valV kvs k).isSome = true ↔ k ∈ ks := by rw [h.has, decide_eq_true_iff]
theorem DRel.put (h : DRel ks Rs kvs G) {k : κ} {v : V} {R : VP} (hk : k ∉ ks) (r : R v G) : DRel (ks ++ [k]) (Rs ++ [R]) (putK kvs k v) G := by
  rw [putK_new v (valV_not (by rw [h.1]; exact hk))]
  exact ⟨by rw [List.map_append, h.1]; rfl, by rw [List.map_append]; exact h.2.snoc r⟩
end
section
variable {K : PySem.W.Frag} {σ : L2.St} {G0 H0 G H : Hp} {cs : List (Addr × HO)} {tk tv : TE}
/-- {k: v for ..}, the keys told and different -/
theorem en_dcA {wi : TI} {g : TG} {vs : List Nat} {n : Nat} {Y : Nat → VP} (hw : EvW wi σ G cs n Y) (hn : n ≤ 1000) (k : Nat → L2.Key) (R : Nat → VP) [m : ∀ i, Mo (R i)] (nd : ((List.range n).map k).Nodup)
    (hb : ∀ i x g', i < n → L2.Same G g' → Y i x g' → ∀ h', L2.Same g' h' → ∀ q : L2.St → Hp → Prop, (∀ s2, wipe s2 vs = wipe σ vs → EvP tk s2 g' cs (RV (kV (k i))) → EvP tv s2 g' cs (R i) → q s2 h') → g x (wipe σ vs) h' q) :
    EvN (tDc wi g tYes tk tv vs) σ G cs (fun o G2 => ∃ kvs, o = .dK kvs ∧ DRel ((List.range n).map k) ((List.range n).map R) kvs G2) := fun H s hc Q q =>
  hw H s hc _ fun J G1 H1 w1 wk L hL => by
    have c1 := ((Cel.start s).go w1).new (l := L) (o := .dK []) hL
    refine ⟨fun i m h' => m = n - i ∧ i ≤ n ∧ ∃ g' acc, L2.Same G1 g' ∧ Cel G H g' h' [(L, .dK acc)] ∧ DRel ((List.range i).map k) ((List.range i).map R) acc g', ⟨n, by simp, Nat.zero_le _, G1, [], .refl _, c1, .nil⟩, ?_⟩
    rintro i m' h' ⟨rfl, hi, g', acc, sg, c, hf⟩
    have hc' : HC cs g' h' := hc.up c.w
    by_cases hlt : i < n
    · obtain ⟨hgo, hy⟩ := wk.1 i g' h' hlt sg c.s hc'
      refine .inr ⟨hgo, fun h => ∃ g4 acc', L2.Same g' g4 ∧ Cel G H g4 h [(L, .dK acc')] ∧ DRel ((List.range (i + 1)).map k) ((List.range (i + 1)).map R) acc' g4, fun h ⟨g4, acc', a, b, d⟩ => ⟨n - (i + 1), by omega, rfl, hlt, g4, acc', sg.trans a, b, d⟩, fun x h2 y => ?_⟩
      obtain ⟨g2, w2, hY⟩ := hy x h2 y
      have c2 := c.go w2
      refine hb i x g2 hlt ((w1.g.trans sg).trans w2.g) hY h2 c2.s _ fun s2 hw2 hk he => ⟨hw2, ?_⟩
      show tk s2 h2 _
      refine hk h2 c2.s (hc.up c2.w) _ fun y g3 h3 w3 ey => (he.up w3.g) h3 (c2.go w3).s (hc.up (c2.go w3).w) _ fun v g4 h4 w4 p => ?_
      have c4 := (c2.go w3).go w4
      have hlen : acc.length ≤ 1000 := by
        have := hf.len.1
        rw [List.length_map, List.length_range] at this
        omega
      refine ⟨acc, k i, ey, c4.hd, small1000 hlen, g4, _, (w2.g.trans w3.g).trans w4.g, c4.put _, ?_⟩
      have hf2 := (hf.mono (m := moA_map (f := R)) ((w2.g.trans w3.g).trans w4.g)).put (k := k i) (v := v) (R := R i) (fun hm => ?_) p
      · rw [List.range_succ, List.map_append, List.map_append]
        exact hf2
      · have e := nd
        rw [show n = i + 1 + (n - (i + 1)) by omega, List.range_add, List.map_append, List.range_succ, List.map_append] at e
        have e2 := (List.nodup_append.mp e).1
        exact (List.nodup_append.mp e2).2.2 _ hm _ (List.mem_singleton.mpr rfl) rfl
    · have e : i = n := by omega
      subst e
      obtain ⟨k1, k2, k3⟩ := c.at_ _ List.mem_cons_self
      exact .inl ⟨wk.2 g' h' sg c.s hc', q L _ g' h' k3 c.w k2 k1 ⟨acc, rfl, hf⟩⟩
/-- a new dict that need not be written -/
theorem EvN.frzK {te : TE} {ks : List L2.Key} {Rs : List VP} [m : MoA Rs] (h : EvN te σ G cs (fun o G2 => ∃ kvs, o = .dK kvs ∧ DRel ks Rs kvs G2)) : EvP te σ G cs (fun v G2 => ∃ d kvs, v = .ref d ∧ G2 d = some (.dK kvs) ∧ DRel ks Rs kvs G2) := fun H s hc Q q =>
  h H s hc Q fun l o G2 H2 hl w hg ho p => by
    obtain ⟨kvs, rfl, hf⟩ := p
    obtain ⟨c, s2⟩ := ((Cel.start s).made hl w hg ho).freeze
    exact q _ _ H2 c.w ⟨l, kvs, rfl, upd_same, hf.mono s2⟩
end
/-! ### promises over the caller's cells, which are only read -/
def spC {T : Type} (In : T → List V → Hp → Prop) (cells : T → List (Addr × HO)) (Out : T → VP) (n : Nat) : Sp := fun vs H Q _ => vs.length = n ∧ ∃ G x, L2.Same G H ∧ In x vs G ∧ HC (cells x) G H ∧ ((cells x).map (·.1)).Nodup ∧ ∀ v G2 H2, Gw G H G2 H2 → Out x v G2 → Q v H2
theorem ev_callC {T : Type} {In : T → List V → Hp → Prop} {cells : T → List (Addr × HO)} {Out : T → VP} {n : Nat} {t : TA} {PA : List V → Hp → Prop} {σ : L2.St} {G : Hp} {cs : List (Addr × HO)} (x : T) (h : EvA t σ G cs PA) (hn : ∀ vs G2, PA vs G2 → vs.length = n) (hi : ∀ vs G2, L2.Same G G2 → PA vs G2 → In x vs G2)
    (hs : ∀ c ∈ cells x, c ∈ cs) (nd : ((cells x).map (·.1)).Nodup) : EvP (tCall (spC In cells Out n) [] E0 t) σ G cs (Out x) := fun H s hc Q q =>
  h H s hc _ fun xs G1 H1 w1 p1 => by
    rw [List.append_nil]
    exact ⟨hn _ _ p1, G1, x, w1.s, hi _ _ w1.g p1, (hc.up w1).sub hs, nd, fun v G2 H2 w o => q v G2 H2 (w1.trans w) o⟩
theorem F2.length_is {Rs : List VP} {n : Nat} (h : Rs.length = n) : ∀ vs G2, F2 Rs vs G2 → vs.length = n := fun vs G2 f => by rw [← f.len]; exact h
end KW
end
section
set_option Elab.async false
set_option linter.all false
set_option maxRecDepth 100000
set_option maxHeartbeats 1000000
namespace KW
open PySem PySem.Spec PyProof.Rows L2
open K97 (at0)
/-- a dict whose keys are these numbers -/
structure KSet (ks : List Nat) (kvs : List (L2.Key × V)) : Prop where
  has : ∀ i : Nat, (valV kvs (.inl (i : Int))).isSome = ks.contains i
  few : kvs.length ≤ ks.length
theorem KSet.nil : KSet [] [] := ⟨fun _ => rfl, Nat.le_refl _⟩
theorem KSet.put {ks : List Nat} {kvs : List (L2.Key × V)} (h : KSet ks kvs) (i : Nat) (v : V) : KSet (ks ++ [i]) (putK kvs (.inl (i : Int)) v) := by
  refine ⟨fun j => ?_, ?_⟩
  · rw [valV_put]
    by_cases e : j = i
    · subst e
      rw [if_pos rfl]
      simp
    · rw [if_neg (by intro z; injection z with z; omega), h.has j]
      simp [e]
  · have := length_putK kvs (.inl (i : Int)) v
    have := h.few
    rw [List.length_append]
    simp
    omega
theorem KSet.of {ks : List Nat} {Rs : List VP} {kvs : List (L2.Key × V)} {G : Hp} (h : DRel (ks.map fun i : Nat => (Sum.inl (i : Int) : L2.Key)) Rs kvs G) : KSet ks kvs := by
  refine ⟨fun i => ?_, by rw [h.len.1, List.length_map]; exact Nat.le_refl _⟩
  rw [Bool.eq_iff_iff, List.contains_iff_mem, h.hasP]
  refine ⟨fun z => ?_, fun hi => List.mem_map.mpr ⟨i, hi, rfl⟩⟩
  obtain ⟨j, hj, e⟩ := List.mem_map.mp z
  injection e with e
  have : j = i := by omega
  exact this ▸ hj
theorem findSome_at {T : Type} {g : Nat → Option T} {n i : Nat} {p : T} (hi : i < n) (h0 : ∀ j, j < i → g j = none) (h : g i = some p) : (List.range n).findSome? g = some p := by
  rw [show n = i + ((n - (i + 1)) + 1) by omega, List.range_add, List.findSome?_append, List.findSome?_eq_none_iff.mpr fun j hj => h0 j (List.mem_range.mp hj), List.range_succ_eq_map, List.map_cons, List.findSome?_cons]
  show (match g (i + 0) with | some b => some b | none => _) = _
  rw [Nat.add_zero, h]
def RI (l : List Nat) : VP := RL (l.map fun i : Nat => RV (.int (i : Int)))
instance {l : List Nat} : Mo (RI l) := inferInstanceAs (Mo (RL _))
def RP (p : Nat × Nat) : VP := RT [RV (.int (p.1 : Int)), RV (.int (p.2 : Int))]
instance {p : Nat × Nat} : Mo (RP p) := inferInstanceAs (Mo (RT _))
def RPs (ps : List (Nat × Nat)) : VP := RL (ps.map RP)
instance {ps : List (Nat × Nat)} : Mo (RPs ps) := inferInstanceAs (Mo (RL _))
theorem map_get {T : Type} {l : List T} {g : T → VP} {i : Nat} (h : i < l.length) : (l.map g)[i]? = some (g l[i]) := by rw [List.getElem?_map, List.getElem?_eq_getElem h]; rfl
abbrev sOpe : Stmt := top 26
abbrev sNex : Stmt := top 27
abbrev sCau : Stmt := top 28
def N_Ope : List Str := ["row", "known", "column", "value"]
def N_Nex : List Str := ["rows", "known", "taken", "at", "row", "columns"]
def N_Cau : List Str := ["rows", "tears", "known", "taken", "found", "pair", "column"]
theorem scOpe : FnScope N_Ope ["row", "known"] (defScope sOpe) := ⟨rfl, rfl, rfl, by decide +kernel, rfl, by decide +kernel, by decide +kernel⟩
theorem scNex : FnScope N_Nex ["rows", "known", "taken"] (defScope sNex) := ⟨rfl, rfl, rfl, by decide +kernel, rfl, by decide +kernel, by decide +kernel⟩
theorem scCau : FnScope N_Cau ["rows", "tears"] (defScope sCau) := ⟨rfl, rfl, rfl, by decide +kernel, rfl, by decide +kernel, by decide +kernel⟩
/-- known: a dict at d -/
structure DI where
  d : Addr
  ks : List Nat
  kvs : List (L2.Key × V)
def DI.cell (x : DI) : Addr × HO := (x.d, .dK x.kvs)
structure OpeIn where
  r : List Rat
  k : DI
def spOpe (C : Addr) : Sp := spC (fun (x : OpeIn) vs G => F2 [RRow C x.r, RV (.ref x.k.d)] vs G ∧ KSet x.k.ks x.k.kvs ∧ x.r.length ≤ 100) (fun x => [x.k.cell]) (fun x => RI (K97.openCols x.r x.k.ks)) 2
section
variable {P : Program} {w : World} {K : PySem.W.Frag} {mg : Str → Option Value} {base : Heap} {C CB : Addr}
theorem dn_ope (Dd : Df K mg "open_columns" sOpe) (B : Kit P w K mg base C) : Dn P w K mg base "open_columns" 2 ["row", "known"] (spOpe C) := by
  refine dn_of Dd scOpe (fun _ _ _ _ _ _ us hl => match us, hl with | [_, _], _ => rfl) (fun vs H Q E h => h.1) (fun f cdv A0 outer s H vs Q E hr h => ?_)
  obtain ⟨_, G, ⟨r, d, ks, kvs⟩, sg, ⟨hF, hk, hl⟩, hcl, ndc, q⟩ := h
  obtain ⟨v0, v1, rfl, h0, h1⟩ := two_of hF
  dsimp only [DI.cell] at *
  obtain rfl : v1 = .ref d := h1
  have nd := scOpe.nd
  have hu := hu_of hr
  refine ⟨_, (pss_one (ps_ret (pe_lc (own := [("column", 2), ("value", 3)]) (g := (gTup K 2 (gCons (gName 2) (gCons (gName 3) gNil)))) rfl nd (pi_enum (by rfl) B.enum (pa_cons (pv 0) pa_nil)) (blkOk_by (N := N_Ope) (sc := defScope sOpe) (by decide +kernel)) (fun _ _ _ _ _ => (pg_tup rfl (pgs_cons (pg_name (i := 2) nd rfl (.inl rfl)) (pgs_cons (pg_name (i := 3) nd rfl (.inl rfl)) pgs_nil)))) (fun _ _ _ _ _ => (pts_one (pw_and (pt_not (pt_val (pe_dn B.isz (hr.mono (by decide)) (by rfl) (pa_cons (pv 3) pa_nil)))) (pw_and1 (pt_cmp (pc_dnotin hu (pv 2) (pv 1))))).pt)) (fun _ _ _ _ _ => (pv 2))))), ?_⟩
  have c := Cel.given sg hcl ndc
  refine s_ret c (ev_lc (ew_enum (Rs := r.map (RQ C)) (ea_cons (ev_var rfl h0) ea_nil)) (by rw [List.length_map]; omega) (fun i => decide (at0 r i ≠ 0) && !ks.contains i) (fun i => RV (.int (i : Int))) fun i x g' hi sg' hY h' s' k qq => ?_) fun v G3 H3 c3 s3 h3 => ?_
  · refine g_tup2 hY s' fun yc yv q1 q2 => ?_
    obtain rfl : yc = .int (i : Int) := q1
    rw [List.length_map] at hi
    have q2 := q2.of (row_get hi)
    refine qq _ rfl ((et_and (et_not (et_B (ev_isz (ev_var rfl q2)))) (fun _ => et_B (ev_dninK (k := .inl (i : Int)) mem_head (.inl rfl) (ev_var rfl rfl) (ev_var rfl rfl)))).is ?_) fun _ => ev_var rfl rfl
    rw [hk.has]
    simp
  · refine q v G3 H3 (c3.read hcl (fun _ h => h)) ?_
    unfold RI K97.openCols
    rw [List.length_map] at h3
    exact h3
structure NexIn where
  A : List (List Rat)
  k : DI
  t : DI
def NexO (A : List (List Rat)) (ks ts : List Nat) : VP := match K97.nextPair A ks ts with
  | none => RV .non
  | some p => RP p
instance {A : List (List Rat)} {ks ts : List Nat} : Mo (NexO A ks ts) := by
  unfold NexO
  split <;> infer_instance
def spNex (C : Addr) : Sp := spC (fun (x : NexIn) vs G => F2 [RMat C x.A, RV (.ref x.k.d), RV (.ref x.t.d)] vs G ∧ KSet x.k.ks x.k.kvs ∧ KSet x.t.ks x.t.kvs ∧ (∀ r ∈ x.A, r.length ≤ 100) ∧ x.A.length ≤ 100) (fun x => [x.k.cell, x.t.cell]) (fun x => NexO x.A x.k.ks x.t.ks) 3
theorem dn_nex (Dd : Df K mg "next_pair" sNex) (B : Kit P w K mg base C) (D1 : Dn P w K mg base "open_columns" 2 ["row", "known"] (spOpe C)) : Dn P w K mg base "next_pair" 3 ["rows", "known", "taken"] (spNex C) := by
  refine dn_of Dd scNex (fun _ _ _ _ _ _ us hl => match us, hl with | [_, _, _], _ => rfl) (fun vs H Q E h => h.1) (fun f cdv A0 outer s H vs Q E hr h => ?_)
  obtain ⟨_, G, ⟨A, ⟨d, ks, kvs⟩, ⟨e, ts, tvs⟩⟩, sg, ⟨hF, hk, ht, hl, hA⟩, hcl, ndc, q⟩ := h
  obtain ⟨v0, v1, v2, rfl, h0, h1, h2⟩ := three_of hF
  dsimp only [DI.cell] at *
  obtain rfl : v1 = .ref d := h1
  obtain rfl : v2 = .ref e := h2
  have nd := scNex.nd
  have hu := hu_of hr
  refine ⟨_, (pss_cons (ps_for PassesOwn.never rfl (pi_enum (by rfl) B.enum (pa_cons (pv 0) pa_nil)) (pg_tup rfl (pgs_cons (pg_name (i := 3) nd rfl (.inl rfl)) (pgs_cons (pg_name (i := 4) nd rfl (.inl rfl)) pgs_nil)))
  (pss_one (ps_if (pt_cmp (pc_dnotin hu (pv 3) (pv 2))) (pss_cons (ps_set (i := 5) nd rfl (.inl rfl) (pe_dn D1 (hr.mono (by decide)) (by rfl) (pa_cons (pv 4) (pa_cons (pv 1) pa_nil))))
      (pss_one (ps_if (pt_cmpR op_eq (pe_callB call_len_seq (by rfl) B.len PySem.boot_len (pa_cons (pv 5) pa_nil)) pe_int (nomark _)) (pss_one (ps_ret (pe_tup (pa_cons (pv 3) (pa_cons (pe_ix ix_list (pv 5) pe_int (fun _ _ => rfl)) pa_nil))))) pss_nil))) pss_nil)))
  (pss_one (ps_ret pe_non))), ?_⟩
  have c := Cel.given sg hcl ndc
  let g := fun i => if ts.contains i then none else K97.pairAt A ks i
  refine q_for (cs' := []) c (ew_enum (Rs := A.map (RRow C)) (ea_cons (ev_var rfl h0) ea_nil))
    (fun i s' gg h => ∃ o3 o4 o5, s' = [some v0, some (.ref d), some (.ref e), o3, o4, o5] ∧ Cel G (mask H [(d, .dK kvs), (e, .dK tvs)]) gg h [(d, .dK kvs), (e, .dK tvs)] ∧ L2.Same G gg ∧ ∀ j, j < i → g j = none)
    (fun i s' g h ⟨_, _, _, _, cc, _⟩ => ⟨cc.s, .nil⟩) (fun G3 H3 c3 s3 => ⟨none, none, none, rfl, c3, s3, fun j hj => by omega⟩) ?_ ?_
  · rintro i s' g1 h1' x hi sg' ⟨o3, o4, o5, rfl, cc, sG, hno⟩ g2 h2' w2 hY
    rw [List.length_map] at hi
    have cc2 := cc.go w2
    refine g_tup2 hY cc2.s fun yc yv q1 q2 => ?_
    obtain rfl : yc = .int (i : Int) := q1
    have q2 := q2.of (mat_get hi)
    have next : ∀ (gg hh : Hp) (a b c5 : Option V), L2.Same g1 gg → Cel G (mask H [(d, .dK kvs), (e, .dK tvs)]) gg hh [(d, .dK kvs), (e, .dK tvs)] → g i = none → ∃ g4, L2.Same g1 g4 ∧ ∃ o3 o4 o5, ([some v0, some (.ref d), some (.ref e), a, b, c5] : L2.St) = [some v0, some (.ref d), some (.ref e), o3, o4, o5] ∧ Cel G (mask H [(d, .dK kvs), (e, .dK tvs)]) g4 hh [(d, .dK kvs), (e, .dK tvs)] ∧ L2.Same G g4 ∧ ∀ j, j < i + 1 → g j = none := fun gg hh a b c5 s1 cg hg => ⟨gg, s1, a, b, c5, rfl, cg, sG.trans s1, fun j hj => by
      rcases Nat.lt_or_ge j i with h6 | h6
      · exact hno j h6
      · have : j = i := by omega
        exact this ▸ hg⟩
    refine s_if cc2 (et_B (ev_dninK (k := .inl (i : Int)) mem_2 (.inl rfl) (ev_var rfl rfl) (ev_var rfl rfl))) (fun hb g4 h4 c4 s4 => ?_) (fun hb g4 h4 c4 s4 => ?_)
    · rw [ht.has] at hb
      have hnt : ts.contains i = false := by simpa using hb
      have eg : g i = K97.pairAt A ks i := if_neg (by rw [hnt]; decide)
      refine q_set c4 (P := RI (K97.openCols (K97.row A i) ks)) (ev_callC (In := _) (cells := _) (Out := _) (n := 2) (⟨K97.row A i, ⟨d, ks, kvs⟩⟩ : OpeIn) (ea_cons (ev_var rfl (up s4 q2)) (ea_cons (P1 := RV (.ref d)) (ev_var rfl rfl) ea_nil)) (F2.length_is rfl) (fun vs G2 s f => ⟨f, hk, hl _ (K97.row_mem hi)⟩) (by simp [DI.cell]) (by simp)) fun v5 g5 h5 c5 s5 p5 => ?_
      refine s_if c5 (et_test (ev_op (ev_len (ev_var rfl p5)) ev_c (rv_eq rfl))) (fun hb g6 h6 c6 s6 => ?_) (fun hb g6 h6 c6 s6 => ?_)
      · have hlen : (K97.openCols (K97.row A i) ks).length = 1 := by
          have := of_decide_eq_true hb
          rw [List.length_map] at this
          injection this with this
          omega
        obtain ⟨cc1, ecc⟩ : ∃ cc1, K97.openCols (K97.row A i) ks = [cc1] := by
          cases hh : K97.openCols (K97.row A i) ks with
          | nil => rw [hh] at hlen; cases hlen
          | cons a r =>
            cases r with
            | nil => exact ⟨a, rfl⟩
            | cons b r => rw [hh] at hlen; simp at hlen
        rw [ecc] at p5
        refine s_ret c6 (ev_tup (ea_cons (P1 := RV (.int (i : Int))) (ev_var rfl rfl) (ea_cons (P1 := RV (.int (cc1 : Int))) (ev_op (ev_var rfl (up s6 p5)) ev_c (rv_ixL (i := 0) rfl)) ea_nil))) fun v g7 h7 c7 s7 p7 => q v g7 h7 (c7.read hcl (fun _ h => h)) ?_
        have e2 : K97.nextPair A ks ts = some (i, cc1) := by
          unfold K97.nextPair
          refine findSome_at hi hno ?_
          show g i = _
          rw [eg]
          unfold K97.pairAt
          rw [ecc]
        unfold NexO
        rw [e2]
        exact p7
      · refine next g6 h6 _ _ _ (((w2.g.trans s4).trans s5).trans s6) c6 ?_
        rw [eg]
        have hlen : (K97.openCols (K97.row A i) ks).length ≠ 1 := fun z => by
          have := of_decide_eq_false hb
          rw [List.length_map, z] at this
          exact this rfl
        unfold K97.pairAt
        split
        · rename_i ee
          rw [ee] at hlen
          exact absurd rfl hlen
        · rfl
    · rw [ht.has] at hb
      have hnt : ts.contains i = true := by simpa using hb
      exact next g4 h4 _ _ _ (w2.g.trans s4) c4 (if_pos hnt)
  · rintro s' g1 h1' sg' ⟨o3, o4, o5, rfl, cc, sG, hno⟩
    rw [List.length_map] at hno
    refine s_ret cc ev_c fun v g7 h7 c7 s7 p7 => q v g7 h7 (c7.read hcl (fun _ h => h)) ?_
    have e2 : K97.nextPair A ks ts = none := by
      unfold K97.nextPair
      rw [List.findSome?_eq_none_iff]
      exact fun j hj => hno j (List.mem_range.mp hj)
    unfold NexO
    rw [e2]
    exact p7
end
end KW
end
section
set_option Elab.async false
set_option linter.all false
set_option maxRecDepth 100000
set_option maxHeartbeats 1000000
namespace KW
open PySem PySem.Spec PyProof.Rows L2
open K97 (at0)
theorem range_getD {T U : Type} (l : List T) (d : T) (g : T → U) : (List.range l.length).map (fun i => g (l.getD i d)) = l.map g := by
  refine List.ext_getElem (by simp) fun i h1 h2 => ?_
  simp at h1
  simp [List.getD_eq_getElem?_getD, h1]
theorem getD_is {T : Type} {l : List T} {d x : T} {i : Nat} (h : l[i]? = some x) : l.getD i d = x := by rw [List.getD_eq_getElem?_getD, h]; rfl
theorem inl_nodup {l : List Nat} (h : l.Nodup) : (l.map fun x : Nat => (Sum.inl (x : Int) : L2.Key)).Nodup := List.Pairwise.map _ (fun a b e z => e (by injection z with z; omega)) h
theorem ew_listN {K : PySem.W.Frag} {σ : L2.St} {G : Hp} {cs : List (Addr × HO)} {ta : TE} {Rs : List VP} {n : Nat} [m : MoA Rs] (h : EvP ta σ G cs (RL Rs)) (e : Rs.length = n) : EvW (iList K ta) σ G cs n (Ith Rs) := e ▸ ew_list h
section
variable {G0 H0 G H : Hp} {cs : List (Addr × HO)} {a b d : Addr × HO}
theorem Cel.swap2 (c : Cel G0 H0 G H (a :: b :: d :: cs)) : Cel G0 H0 G H (a :: d :: b :: cs) := c.perm (.cons _ (.swap _ _ _))
theorem Cel.rot (c : Cel G0 H0 G H (a :: b :: d :: cs)) : Cel G0 H0 G H (d :: a :: b :: cs) := c.swap2.swap
end
def N_Tor : List Str := ["rows", "tears", "found", "taken", "at", "_"]
abbrev sTor : Stmt := top 29
theorem scTor : FnScope N_Tor ["rows", "tears"] (defScope sTor) := ⟨rfl, rfl, rfl, by decide +kernel, rfl, by decide +kernel, by decide +kernel⟩
structure TearIn where
  A : List (List Rat)
  t : List Nat
structure TearPre (x : TearIn) : Prop where
  nd : x.t.Nodup
  row : ∀ r ∈ x.A, r.length ≤ 100
  few : x.A.length ≤ 100
  tew : x.t.length ≤ 100
def spCau (C : Addr) : Sp := spF (fun (x : TearIn) vs G => F2 [RMat C x.A, RI x.t] vs G ∧ TearPre x) (fun x => RPs (K97.causal x.A x.t)) 2
theorem causal_few {A : List (List Rat)} {t : List Nat} : (K97.causal A t).length ≤ A.length := by
  obtain ⟨h1, h2⟩ := (K97.causalL_chain A (A.length + 1) t []).rows
  have h := K97.nodup_le (l := (K97.causal A t).map (·.1)) (m := List.range A.length) h1 fun x hx => by
    obtain ⟨p, hp, rfl⟩ := List.mem_map.mp hx
    exact List.mem_range.mpr (h2 p hp).1
  rw [List.length_map, List.length_range] at h
  exact h
theorem ev_callF {T : Type} {In : T → List V → Hp → Prop} {Out : T → VP} {n : Nat} {t : TA} {PA : List V → Hp → Prop} {σ : L2.St} {G : Hp} {cs : List (Addr × HO)} (x : T) (h : EvA t σ G cs PA) (hn : ∀ vs G2, PA vs G2 → vs.length = n) (hi : ∀ vs G2, L2.Same G G2 → PA vs G2 → In x vs G2) :
    EvP (tCall (spF In Out n) [] E0 t) σ G cs (Out x) := fun H s hc Q q =>
  h H s hc _ fun xs G1 H1 w1 p1 => by
    rw [List.append_nil]
    exact ⟨hn _ _ p1, G1, x, w1.s, hi _ _ w1.g p1, fun v G2 H2 w o => q v G2 H2 (w1.trans w) o⟩
section
variable {P : Program} {w : World} {K : PySem.W.Frag} {mg : Str → Option Value} {base : Heap} {C CB : Addr}
theorem dn_cau (Dd : Df K mg "causal" sCau) (B : Kit P w K mg base C) (D2 : Dn P w K mg base "next_pair" 3 ["rows", "known", "taken"] (spNex C)) : Dn P w K mg base "causal" 4 ["rows", "tears"] (spCau C) := by
  refine dn_of Dd scCau (fun _ _ _ _ _ _ us hl => match us, hl with | [_, _], _ => rfl) (fun vs H Q E h => h.1) (fun f cdv A0 outer s H vs Q E hr h => ?_)
  obtain ⟨_, G, ⟨A, t⟩, sg, ⟨hF, pre⟩, q⟩ := h
  obtain ⟨v0, v1, rfl, h0, h1⟩ := two_of hF
  dsimp only at *
  have nd := scCau.nd
  have hu := hu_of hr
  refine ⟨_, (pss_cons (ps_setDc (sl := 2) (mine := [("column", 6)]) (tt := tYes) rfl nd rfl rfl (swD_true rfl rfl rfl (by decide +kernel)) (pi_list (pv 1)) (blkOk_by (N := N_Cau) (sc := defScope sCau) (by decide +kernel)) (fun _ _ _ _ _ => (pg_name (i := 6) nd rfl (.inl rfl))) (fun _ _ _ _ _ => pts_nil) (fun _ _ _ _ _ => (pv 6)) (fun _ _ _ _ _ => pe_bl))
  (pss_cons (ps_set (i := 3) nd rfl (.inl rfl) pe_dnewK)
  (pss_cons (ps_set (i := 4) nd rfl (.inl rfl) (pe_lst pa_nil))
  (pss_cons (ps_set (i := 5) nd rfl (.inl rfl) (pe_dn D2 (hr.mono (by decide)) (by rfl) (pa_cons (pv 0) (pa_cons (pv 2) (pa_cons (pv 3) pa_nil)))))
  (pss_cons (ps_while PassesOwn.never (pt_cmp (pc_notN (pv 5)))
  (pss_cons (ps_expr (pe_bm PySem.F.plainAttrs_list PySem.F.slot_list_append PySem.F.type_list_append mt_append (pv 4) (pa_cons (pv 5) pa_nil)))
    (pss_cons (ps_dput hu (pv 3) (pe_ix ix_tup (pv 5) pe_int (fun _ _ => rfl)) pe_bl rfl)
    (pss_cons (ps_dput hu (pv 2) (pe_ix ix_tup (pv 5) pe_int (fun _ _ => rfl)) pe_bl rfl)
    (pss_one (ps_set (i := 5) nd rfl (.inl rfl) (pe_dn D2 (hr.mono (by decide)) (by rfl) (pa_cons (pv 0) (pa_cons (pv 2) (pa_cons (pv 3) pa_nil))))))))))
  (pss_one (ps_ret (pv 4)))))))), ?_⟩
  have c := Cel.start sg
  have tl : t.length ≤ 100 := pre.tew
  have fewA : A.length ≤ 100 := pre.few
  have kinj : ((List.range t.length).map fun i => (Sum.inl ((t.getD i 0 : Nat) : Int) : L2.Key)).Nodup := by
    rw [range_getD t 0 fun x => (Sum.inl (x : Int) : L2.Key)]
    exact inl_nodup pre.nd
  refine q_setN c (en_dcA (n := t.length) (ew_listN (Rs := t.map fun i : Nat => RV (.int (i : Int))) (ev_var rfl h1) (by rw [List.length_map])) (by omega) (fun i => .inl ((t.getD i 0 : Nat) : Int)) (fun _ => RV (.bl true)) kinj fun i x g' hi sg' hY h' s' k qq => ?_) fun dk o G1 H1 c1 s1 ho => ?_
  · have hY := hY.map (x := t[i]) (List.getElem?_eq_getElem hi)
    obtain rfl : x = _ := hY
    refine qq _ rfl ?_ ev_c
    rw [getD_is (List.getElem?_eq_getElem hi)]
    exact ev_var rfl rfl
  obtain ⟨kvs0, rfl, hk0⟩ := ho
  rw [range_getD t 0 fun x => (Sum.inl (x : Int) : L2.Key)] at hk0
  have hk0 := KSet.of hk0
  refine q_setN c1 en_dK fun dt o G2 H2 c2 s2 ho => ?_
  subst ho
  refine q_setN c2 en_nil fun lf o G3 H3 c3 s3 ho => ?_
  subst ho
  have s13 := (s1.trans s2).trans s3
  have ndc : ∀ {g h : Hp} {x y z : HO}, Cel G H g h [(lf, x), (dt, y), (dk, z)] → dk ≠ dt := fun {g h x y z} cc e => by
    have := cc.nd
    simp [e] at this
  refine q_set c3 (P := NexO A t []) (ev_callC (In := _) (cells := _) (Out := _) (n := 3) (⟨A, ⟨dk, t, kvs0⟩, ⟨dt, [], []⟩⟩ : NexIn) (ea_cons (ev_var rfl (up s13 h0)) (ea_cons (P1 := RV (.ref dk)) (ev_var rfl rfl) (ea_cons (P1 := RV (.ref dt)) (ev_var rfl rfl) ea_nil))) (F2.length_is rfl) (fun vs G2 s f => ⟨f, hk0, .nil, pre.row, pre.few⟩) (by simp [DI.cell]) (by simp [DI.cell]; exact ndc c3)) fun vp G4 H4 c4 s4 p4 => ?_
  refine while_le (fun m σ' h' => ∃ g ks ts kvs tvs fs dn vp, σ' = [some v0, some v1, some (.ref dk), some (.ref dt), some (.ref lf), some vp, none] ∧ Cel G H g h' [(lf, .lst fs), (dt, .dK tvs), (dk, .dK kvs)] ∧ L2.Same G g ∧ KSet ks kvs ∧ KSet ts tvs ∧ F2 (dn.map RP) fs g ∧ NexO A ks ts vp g ∧
    K97.causal A t = dn ++ K97.causalL A m ks ts ∧ m + ts.length = A.length + 1 ∧ ts.Nodup ∧ (∀ x ∈ ts, x < A.length) ∧ dn.length = ts.length ∧ ks.length ≤ 100 + ts.length) (A.length + 1) ⟨G4, t, [], kvs0, [], [], [], vp, rfl, c4, s13.trans s4, hk0, .nil, trivial, p4, rfl, rfl, List.nodup_nil, fun x h => by simp at h, rfl, by simp; omega⟩ ?_
  rintro m σ' h' ⟨g, ks, ts, kvs, tvs, fs, dn, vp, rfl, cc, sG, hk, ht, hf, hp, hcau, hm, ndt, hlt, hdn, hks⟩
  have htl : ts.length ≤ A.length := by
    have := K97.nodup_le ndt (m := List.range A.length) fun x hx => List.mem_range.mpr (hlt x hx)
    rw [List.length_range] at this
    exact this
  refine ⟨vp, rfl, _, rfl, ?_⟩
  cases m with
  | zero => omega
  | succ m =>
    cases hnp : K97.nextPair A ks ts with
    | none =>
      unfold NexO at hp
      rw [hnp] at hp
      obtain rfl : vp = .non := hp
      refine iteF ?_
      have e : K97.causalL A (m + 1) ks ts = [] := by
        show (match K97.nextPair A ks ts with | none => [] | some p => _) = _
        rw [hnp]
      rw [e, List.append_nil] at hcau
      obtain ⟨cf, sf⟩ := cc.freeze
      refine s_ret cf (ev_var rfl (P := RPs dn) ⟨lf, fs, rfl, upd_same, hf.mono moA_map.mo sf⟩) fun v g8 h8 c8 s8 p8 => q v g8 h8 c8.w ?_
      rw [hcau]
      exact p8
    | some p =>
      unfold NexO at hp
      rw [hnp] at hp
      have hp : RP p vp g := hp
      have hnn : (!decide (vp = .non)) = true := by
        obtain ⟨a, _, rfl, _⟩ := hp
        rfl
      rw [hnn]
      refine iteT ⟨fun σ' h' => ∃ g ks ts kvs tvs fs dn vp, σ' = [some v0, some v1, some (.ref dk), some (.ref dt), some (.ref lf), some vp, none] ∧ Cel G H g h' [(lf, .lst fs), (dt, .dK tvs), (dk, .dK kvs)] ∧ L2.Same G g ∧ KSet ks kvs ∧ KSet ts tvs ∧ F2 (dn.map RP) fs g ∧ NexO A ks ts vp g ∧
        K97.causal A t = dn ++ K97.causalL A m ks ts ∧ m + ts.length = A.length + 1 ∧ ts.Nodup ∧ (∀ x ∈ ts, x < A.length) ∧ dn.length = ts.length ∧ ks.length ≤ 100 + ts.length, fun σ' h' hh => ⟨m, Nat.lt_succ_self m, hh⟩, ?_⟩
      obtain ⟨n1, n2, n3⟩ := K97.nextPair_some hnp
      have e : K97.causalL A (m + 1) ks ts = p :: K97.causalL A m (ks ++ [p.2]) (ts ++ [p.1]) := by
        show (match K97.nextPair A ks ts with | none => [] | some p => _) = _
        rw [hnp]
      have tf := ht.few
      have kf := hk.few
      refine q_app cc rfl (ev_var rfl hp) (by rw [← hf.len, List.length_map]; omega) fun vn g5 h5 c5 s5 p5 => ?_
      refine q_dputK (k := .inl (p.1 : Int)) c5.swap (ev_c (v := .bl true)) (ev_var rfl rfl) (ev_op (ev_var rfl (up s5 hp)) ev_c (rv_ixT (i := 0) rfl)) (by omega) fun vt g6 h6 c6 s6 p6 => ?_
      refine q_dputK (k := .inl (p.2 : Int)) c6.rot (ev_c (v := .bl true)) (ev_var rfl rfl) (ev_op (ev_var rfl (up (s5.trans s6) hp)) ev_c (rv_ixT (i := 1) rfl)) (by omega) fun vk g7 h7 c7 s7 p7 => ?_
      have c7 := c7.rot.swap2
      have s57 := (s5.trans s6).trans s7
      refine s_set c7 (P := NexO A (ks ++ [p.2]) (ts ++ [p.1])) (ev_callC (In := _) (cells := _) (Out := _) (n := 3) (⟨A, ⟨dk, ks ++ [p.2], putK kvs (.inl (p.2 : Int)) vk⟩, ⟨dt, ts ++ [p.1], putK tvs (.inl (p.1 : Int)) vt⟩⟩ : NexIn) (ea_cons (ev_var rfl (up (sG.trans s57) h0)) (ea_cons (P1 := RV (.ref dk)) (ev_var rfl rfl) (ea_cons (P1 := RV (.ref dt)) (ev_var rfl rfl) ea_nil))) (F2.length_is rfl) (fun vs G2 s f => ⟨f, hk.put _ _, ht.put _ _, pre.row, pre.few⟩) (by simp [DI.cell]) (by simp [DI.cell]; exact ndc c7)) fun vp8 g8 h8 c8 s8 p8 => ?_
      refine ⟨g8, ks ++ [p.2], ts ++ [p.1], _, _, fs ++ [vn], dn ++ [p], vp8, rfl, c8, (sG.trans s57).trans s8, hk.put _ _, ht.put _ _, ?_, p8, ?_, ?_, ?_, ?_, ?_, ?_⟩
      · rw [List.map_append]
        exact (hf.mono moA_map.mo (s57.trans s8)).snoc (up ((s6.trans s7).trans s8) p5)
      · rw [hcau, e, List.append_assoc]; rfl
      · rw [List.length_append]; simp; omega
      · rw [List.nodup_append]
        exact ⟨ndt, by simp, fun a ha b hb => by rw [List.mem_singleton.mp hb]; exact fun z => n2 (z ▸ ha)⟩
      · intro x hx
        rcases List.mem_append.mp hx with hx | hx
        · exact hlt x hx
        · rw [List.mem_singleton.mp hx]; exact n1
      · rw [List.length_append, List.length_append, hdn]; rfl
      · rw [List.length_append, List.length_append]; simp; omega
end
end KW
end
section
set_option Elab.async false
set_option linter.all false
set_option maxRecDepth 100000
set_option maxHeartbeats 1000000
namespace KW
open PySem PySem.Spec PyProof.Rows L2
open K97 (at0)
abbrev sCho : Stmt := top 30
abbrev sBes : Stmt := top 31
def N_Cho : List Str := ["many", "size", "found", "_", "longer", "numbers", "first", "number"]
def N_Bes : List Str := ["rows", "size", "tears"]
theorem scCho : FnScope N_Cho ["many", "size"] (defScope sCho) := ⟨rfl, rfl, rfl, by decide +kernel, rfl, by decide +kernel, by decide +kernel⟩
theorem scBes : FnScope N_Bes ["rows"] (defScope sBes) := ⟨rfl, rfl, rfl, by decide +kernel, rfl, by decide +kernel, by decide +kernel⟩
def spTor (C : Addr) : Sp := spF (fun (x : TearIn) vs G => F2 [RMat C x.A, RI x.t] vs G ∧ TearPre x ∧ (K97.causal x.A x.t).length + x.t.length = x.A.length) (fun x => RT [RPs (K97.causal x.A x.t), RI (K97.restOf x.A (K97.causal x.A x.t))]) 2
def RIs (ls : List (List Nat)) : VP := RL (ls.map RI)
instance {ls : List (List Nat)} : Mo (RIs ls) := inferInstanceAs (Mo (RL _))
section
variable {P : Program} {w : World} {K : PySem.W.Frag} {mg : Str → Option Value} {base : Heap} {C CB : Addr} {σ : L2.St} {G0 H0 G H : Hp} {cs : List (Addr × HO)} {ta tb te : TE} {R : VP}
theorem dn_tor (Dd : Df K mg "torn" sTor) (B : Kit P w K mg base C) (D3 : Dn P w K mg base "causal" 4 ["rows", "tears"] (spCau C)) : Dn P w K mg base "torn" 5 ["rows", "tears"] (spTor C) := by
  refine dn_of Dd scTor (fun _ _ _ _ _ _ us hl => match us, hl with | [_, _], _ => rfl) (fun vs H Q E h => h.1) (fun f cdv A0 outer s H vs Q E hr h => ?_)
  obtain ⟨_, G, ⟨A, t⟩, sg, ⟨hF, pre, hen⟩, q⟩ := h
  obtain ⟨v0, v1, rfl, h0, h1⟩ := two_of hF
  dsimp only at *
  have nd := scTor.nd
  have hu := hu_of hr
  refine ⟨_, (pss_cons (ps_set (i := 2) nd rfl (.inl rfl) (pe_dn D3 (hr.mono (by decide)) (by rfl) (pa_cons (pv 0) (pa_cons (pv 1) pa_nil))))
  (pss_cons (ps_if (pt_cmpR op_lt (pe_op op_add (pe_callB call_len_seq (by rfl) B.len PySem.boot_len (pa_cons (pv 2) pa_nil)) (pe_callB call_len_seq (by rfl) B.len PySem.boot_len (pa_cons (pv 1) pa_nil))) (pe_callB call_len_seq (by rfl) B.len PySem.boot_len (pa_cons (pv 0) pa_nil)) (nomark _)) (pss_one ps_never) pss_nil)
  (pss_cons (ps_set (i := 3) nd rfl (.inr rfl) (pe_dc (own := [("at", 4), ("_", 5)]) (g := gTup K 2 (gCons (gName 4) (gCons (gName 5) gNil))) (tt := tYes) rfl nd (pi_list (pv 2)) (blkOk_by (N := N_Tor) (sc := defScope sTor) (by decide +kernel)) (fun _ _ _ _ _ => (pg_tup rfl (pgs_cons (pg_name (i := 4) nd rfl (.inl rfl)) (pgs_cons (pg_name (i := 5) nd rfl (.inl rfl)) pgs_nil)))) (fun _ _ _ _ _ => pts_nil) (fun _ _ _ _ _ => (pv 4)) (fun _ _ _ _ _ => pe_bl)))
  (pss_one (ps_ret (pe_tup (pa_cons (pv 2) (pa_cons (pe_lc (own := [("at", 4)]) rfl nd (pi_range1 (by rfl) B.range (pa_cons (pe_callB call_len_seq (by rfl) B.len PySem.boot_len (pa_cons (pv 0) pa_nil)) pa_nil)) (blkOk_by (N := N_Tor) (sc := defScope sTor) (by decide +kernel)) (fun _ _ _ _ _ => (pg_name (i := 4) nd rfl (.inl rfl))) (fun _ _ _ _ _ => (pts_one (pt_cmp (pc_dnotin hu (pv 4) (pv 3))))) (fun _ _ _ _ _ => (pv 4))) pa_nil)))))))), ?_⟩
  have c := Cel.start sg
  have fewA : A.length ≤ 100 := pre.few
  have few2 := causal_few (A := A) (t := t)
  refine q_set c (P := RPs (K97.causal A t)) (ev_callF (In := _) (Out := _) (n := 2) (⟨A, t⟩ : TearIn) (ea_cons (ev_var rfl h0) (ea_cons (ev_var rfl h1) ea_nil)) (F2.length_is rfl) (fun vs G2 s f => ⟨f, pre⟩)) fun v2 G1 H1 c1 s1 p1 => ?_
  refine q_if c1 (et_test (ev_op (ev_add (ev_len (ev_var rfl p1)) (ev_len (ev_var rfl (up s1 h1)))) (ev_len (ev_var rfl (up s1 h0))) rv_I0)) (fun hb => ?_) (fun _ G2 H2 c2 s2 => ?_)
  · exfalso
    have := of_decide_eq_true hb
    simp only [List.length_map] at this
    omega
  obtain ⟨r1, r2⟩ := (K97.causalL_chain A (A.length + 1) t []).rows
  have r1 : ((K97.causal A t).map (·.1)).Nodup := r1
  generalize hps : K97.causal A t = ps at *
  refine q_setN c2 (en_dcA (n := ps.length) (ew_listN (Rs := ps.map RP) (ev_var rfl (up s2 p1)) (by rw [List.length_map])) (by omega) (fun i => .inl (((ps.getD i (0, 0)).1 : Nat) : Int)) (fun _ => RV (.bl true)) (by
      rw [range_getD ps (0, 0) fun x : Nat × Nat => (Sum.inl (x.1 : Int) : L2.Key)]
      have := inl_nodup r1
      rw [List.map_map] at this
      exact this) fun i x g' hi sg' hY h' s' k qq => ?_) fun dt o G3 H3 c3 s3 ho => ?_
  · have hY := hY.map (x := ps[i]) (List.getElem?_eq_getElem hi)
    refine g_tup2 hY s' fun y z q1 q2 => ?_
    obtain rfl : y = _ := q1
    refine qq _ rfl ?_ ev_c
    rw [getD_is (List.getElem?_eq_getElem hi)]
    exact ev_var rfl rfl
  obtain ⟨kvs, rfl, hk⟩ := ho
  rw [range_getD ps (0, 0) fun x : Nat × Nat => (Sum.inl (x.1 : Int) : L2.Key)] at hk
  have hk : DRel ((ps.map (·.1)).map fun i : Nat => (Sum.inl (i : Int) : L2.Key)) ((List.range ps.length).map fun _ => RV (.bl true)) kvs G3 := by rw [List.map_map]; exact hk
  have hk := KSet.of hk
  refine s_ret c3 (ev_tup (ea_cons (P1 := RPs ps) (ev_var rfl (up (s2.trans s3) p1)) (ea_cons (P1 := RI (K97.restOf A ps)) ((ev_lc (ew_range (n := A.length) (ea_cons ((ev_len (ev_var rfl (up ((s1.trans s2).trans s3) h0))).is (by rw [List.length_map])) ea_nil) (by omega)) (by omega) (fun i => !(ps.map (·.1)).contains i) (fun i => RV (.int (i : Int))) fun i x g' hi sg' hY h' s' k qq => ?_)) ea_nil))) fun v G4 H4 c4 s4 h4 => q v G4 H4 c4.w h4
  obtain rfl : x = _ := hY
  refine qq _ rfl ((et_B (ev_dninK (k := .inl (i : Int)) mem_head (.inl rfl) (ev_var rfl rfl) (ev_var rfl rfl))).is ?_) fun _ => ev_var rfl rfl
  rw [hk.has]
/-! ### choices -/
theorem rv_ixLast {Rs : List VP} (h : Rs.getLast? = some R) : RvP cs (rIxL K) (RL Rs) (RV (.int (-1))) R := fun x y G p1 p2 H s hc Q q => by
  obtain ⟨a, vs, rfl, hs, hf⟩ := p1
  obtain rfl : y = .int (-1) := p2
  have hl := hf.len
  rw [List.getLast?_eq_getElem?] at h
  obtain ⟨v, hv, hR⟩ := hf.get h
  refine ⟨a, vs, _, v, rfl, rfl, .inl (.inl (s _ _ hs)), ?_, q v G H (.refl s) hR⟩
  have hpos : 0 < vs.length := by
    rw [← hl]
    exact Nat.lt_of_le_of_lt (Nat.zero_le _) (List.getElem?_eq_some_iff.mp h).1 
  unfold atI ixN
  rw [if_neg (by decide), if_pos (by omega)]
  show vs[((vs.length : Int) + -1).toNat]? = some v
  rw [show ((vs.length : Int) + -1).toNat = vs.length - 1 by omega, ← hl]
  exact hv
/-- xs.extend(e) -/
theorem s_ext {D : Ends} {l : Addr} {xs : List V} {Rs : List VP} {i : Nat} [m : MoA Rs] (c : Cel G0 H0 G H ((l, .lst xs) :: cs)) (hl : σ[i]? = some (some (.ref l))) (h : EvP te σ G ((l, .lst xs) :: cs) (RL Rs)) (hz : xs.length + Rs.length ≤ 1000)
    (k : ∀ vs G2 H2, Cel G0 H0 G2 H2 ((l, .lst (xs ++ vs)) :: cs) → L2.Same G G2 → F2 Rs vs G2 → D.nx σ H2) : tDrop (tBM K "list" rExtend (tVar i) (tCons te tNil)) D σ H :=
  ⟨.ref l, hl, .inl ⟨rfl, _, .inl (.inl c.hd)⟩, h H c.s c.hc _ fun v G2 H2 w p => by
    obtain ⟨a, vs, rfl, ha, hf⟩ := p
    refine ⟨l, a, xs, vs, rfl, rfl, (c.go w).hd, w.s _ _ ha, ?_, k vs G2 _ ((c.go w).put _) w.g hf⟩
    rw [← hf.len]
    exact Nat.le_trans hz (by decide)⟩
def spCho : Sp := spF (fun (x : Nat × Nat) vs G => vs = [.int (x.1 : Int), .int (x.2 : Int)] ∧ x.1 ≤ 5 ∧ x.2 ≤ 5) (fun x => RIs (K97.choices x.1 x.2)) 2
theorem choices_few (n : Nat) (hn : n ≤ 5) (s : Nat) (hs : s ≤ 5) : (K97.choices n s).length ≤ 100 :=
  (show ∀ n < 6, ∀ s < 6, (K97.choices n s).length ≤ 100 by decide) n (by omega) s (by omega)
theorem flat_take_le {T U : Type} (l : List T) (g : T → List U) (i : Nat) : ((l.take i).flatMap g).length ≤ (l.flatMap g).length := by
  have e : l.flatMap g = (l.take i).flatMap g ++ (l.drop i).flatMap g := by rw [← List.flatMap_append, List.take_append_drop]
  rw [e, List.length_append]
  omega
theorem dn_cho (Dd : Df K mg "choices" sCho) (B : Kit P w K mg base C) : Dn P w K mg base "choices" 1 ["many", "size"] spCho := by
  refine dn_of Dd scCho (fun _ _ _ _ _ _ us hl => match us, hl with | [_, _], _ => rfl) (fun vs H Q E h => h.1) (fun f cdv A0 outer s H vs Q E hr h => ?_)
  obtain ⟨_, G, ⟨n, sz⟩, sg, ⟨rfl, hn, hs⟩, q⟩ := h
  dsimp only at *
  have nd := scCho.nd
  have hu := hu_of hr
  refine ⟨_, (pss_cons (ps_set (i := 2) nd rfl (.inl rfl) (pe_lst (pa_cons (pe_lst pa_nil) pa_nil)))
  (pss_cons (ps_for PassesOwn.never rfl (pi_range1 (by rfl) B.range (pa_cons (pv 1) pa_nil)) (pg_name (i := 3) nd rfl (.inl rfl))
  (pss_cons (ps_set (i := 4) nd rfl (.inl rfl) (pe_lst pa_nil))
    (pss_cons (ps_for PassesOwn.never rfl (pi_list (pv 2)) (pg_name (i := 5) nd rfl (.inr rfl))
    (pss_cons (ps_set (i := 6) nd rfl (.inl rfl) (pe_ifExp (pt_truth (pv 5) (by intro _; rfl)) (pe_op op_add (pe_ix ix_list (pv 5) (pe_un un_neg pe_int) (fun _ _ => rfl)) pe_int) pe_int))
      (pss_one (ps_expr (pe_bm PySem.F.plainAttrs_list PySem.F.slot_list_extend PySem.F.type_list_extend mt_extend (pv 4) (pa_cons (pe_lc (own := [("number", 7)]) (tt := tYes) rfl nd (pi_range2 (by rfl) B.range (pa_cons (pv 6) (pa_cons (pv 0) pa_nil))) (blkOk_by (N := N_Cho) (sc := defScope sCho) (by decide +kernel)) (fun _ _ _ _ _ => (pg_name (i := 7) nd rfl (.inl rfl))) (fun _ _ _ _ _ => pts_nil) (fun _ _ _ _ _ => (pe_op op_cat (pv 5) (pe_lst (pa_cons (pv 7) pa_nil))))) pa_nil))))))
    (pss_one (ps_set (i := 2) nd rfl (.inl rfl) (pv 4))))))
  (pss_one (ps_ret (pv 2))))), ?_⟩
  have c := Cel.start sg
  refine q_set c (P := RL [RL []]) (ev_lst (ea_cons (P1 := RL []) (ev_lst ea_nil) ea_nil)) fun v2 G1 H1 c1 s1 p1 => ?_
  refine q_for (cs' := []) c1 (ew_range (n := sz) (ea_cons (ev_var rfl rfl) ea_nil) (by omega))
    (fun i s' g h => ∃ vf o3 o4 o5 o6, s' = [some (.int (n : Int)), some (.int (sz : Int)), some vf, o3, o4, o5, o6, none] ∧ Cel G H g h [] ∧ RIs (K97.choices n i) vf g)
    (fun i s' g h ⟨_, _, _, _, _, _, cc, _⟩ => ⟨cc.s, .nil⟩) (fun G3 H3 c3 s3 => ⟨v2, none, none, none, none, rfl, c3, up s3 p1⟩) ?_ ?_
  · rintro i s' g h x hi sg' ⟨vf, o3, o4, o5, o6, rfl, cc, hf⟩ g2 h2 w2 hY
    obtain rfl : x = _ := hY
    have cc2 := cc.go w2
    refine q_setN cc2 en_nil fun l o g3 h3 c3 s3 ho => ?_
    subst ho
    have hf3 := up (w2.g.trans s3) hf
    refine q_for (cs' := []) c3 (ew_list (Rs := (K97.choices n i).map RI) (ev_var rfl hf3))
      (fun k s' g h => ∃ o5 o6 xs, s' = [some (.int (n : Int)), some (.int (sz : Int)), some vf, some (.int (i : Int)), some (.ref l), o5, o6, none] ∧ Cel G H g h [(l, .lst xs)] ∧ L2.Same g3 g ∧ F2 ((((K97.choices n i).take k).flatMap (K97.more n)).map RI) xs g)
      (fun i s' g h ⟨_, _, _, _, cc, _⟩ => ⟨cc.s, .nil⟩) (fun G3 H3 c3 s3 => ⟨_, _, [], rfl, c3, s3, trivial⟩) ?_ ?_
    · rintro k s' g4 h4 x4 hk sg4 ⟨p5, p6, xs, rfl, c4, sG4, hxs⟩ g5 h5 w5 hY5
      rw [List.length_map] at hk
      have hY5 := hY5.map (x := (K97.choices n i)[k]) (List.getElem?_eq_getElem hk)
      have hasc := K97.choices_asc n i _ (List.getElem_mem hk)
      have etake : ((K97.choices n i).take (k + 1)).flatMap (K97.more n) = ((K97.choices n i).take k).flatMap (K97.more n) ++ K97.more n (K97.choices n i)[k] := by
        rw [← List.take_append_getElem hk, List.flatMap_append]
        simp
      have hle := flat_take_le (K97.choices n i) (K97.more n) (k + 1)
      have hfew : ((K97.choices n i).flatMap (K97.more n)).length ≤ 100 := choices_few n hn (i + 1) (by omega)
      generalize (K97.choices n i)[k] = ns at hY5 hasc etake
      have c5 := c4.go w5
      have hfirst : K97.firstOf ns ≤ n := by
        unfold K97.firstOf
        cases hgl : ns.getLast? with
        | none => exact Nat.zero_le _
        | some x =>
          have := hasc.lt x (List.mem_of_getLast? hgl)
          show x + 1 ≤ n
          omega
      refine q_set c5 (P := RV (.int (K97.firstOf ns : Int))) (ev_if (et_truthL (ev_var rfl hY5)) (fun hb => ?_) (fun hb => ?_)) fun v6 g6 h6 c6 s6 p6 => ?_
      · have hne : ns ≠ [] := fun z => by simp [z] at hb
        have hgl : ns.getLast? = some (ns.getLast hne) := List.getLast?_eq_getLast hne
        have e : K97.firstOf ns = ns.getLast hne + 1 := by unfold K97.firstOf; rw [hgl]
        rw [e]
        refine EvP.is (a := .int (((ns.getLast hne : Nat) : Int) + 1)) (ev_add (ev_op (ev_var rfl hY5) (ev_un ev_c ru_I) (rv_ixLast (R := RV (.int ((ns.getLast hne : Nat) : Int))) (by rw [List.getLast?_map, hgl]; rfl))) ev_c) ?_
        simp
      · have hne : ns = [] := by
          cases ns with
          | nil => rfl
          | cons a r => simp at hb
        subst hne
        exact ev_c
      obtain rfl : v6 = _ := p6
      refine s_ext (Rs := (K97.more n ns).map RI) c6 rfl ?_ (by rw [← hxs.len, List.length_map, List.length_map, ← List.length_append, ← etake]; omega) fun vs g7 h7 c7 s7 p7 => ?_
      · have e : (K97.more n ns).map RI = (List.range (n - K97.firstOf ns)).map fun j => RI (ns ++ [K97.firstOf ns + j]) := by
          unfold K97.more
          rw [List.range'_eq_map_range, List.map_map, List.map_map]
          rfl
        rw [e]
        refine ev_lcA (ew_range2 (lo := K97.firstOf ns) (n := n) (ea_cons (ev_var rfl rfl) (ea_cons (ev_var rfl rfl) ea_nil)) (by omega) (by omega)) (by omega) _ fun j x g' hj sg' hY h' s' kk qq => ?_
        obtain rfl : x = _ := hY
        refine qq _ rfl ?_
        have hlen := hasc.len
        have e2 : RI (ns ++ [K97.firstOf ns + j]) = RL ((ns.map fun i : Nat => RV (.int (i : Int))) ++ [RV (.int ((K97.firstOf ns + j : Nat) : Int))]) := by
          unfold RI
          rw [List.map_append]
          rfl
        rw [e2]
        refine ev_op (P1 := RI ns) (P2 := RL [RV (.int ((K97.firstOf ns + j : Nat) : Int))]) ?_ ?_ (rv_cat (by rw [List.length_map]; simp; omega))
        · exact ev_var rfl (up (s6.trans sg') hY5)
        · exact ev_lst (ea_cons (ev_var rfl rfl) ea_nil)
      · refine ⟨g7, (w5.g.trans s6).trans s7, _, _, xs ++ vs, rfl, c7, ((sG4.trans w5.g).trans s6).trans s7, ?_⟩
        rw [etake, List.map_append]
        exact (hxs.mono moA_map.mo ((w5.g.trans s6).trans s7)).append p7
    · rintro s' g4 h4 sg4 ⟨p5, p6, xs, rfl, c4, sG4, hxs⟩
      rw [List.length_map, List.take_length] at hxs
      obtain ⟨c5, s5⟩ := c4.freeze
      refine s_set c5 (P := RIs (K97.choices n (i + 1))) (ev_var rfl ⟨l, xs, rfl, upd_same, hxs.mono moA_map.mo s5⟩) fun v6 g6 h6 c6 s6 p6 => ?_
      exact ⟨g6, (((w2.g.trans s3).trans sG4).trans s5).trans s6, v6, _, _, _, _, rfl, c6, p6⟩
  · rintro s' g h sg' ⟨vf, o3, o4, o5, o6, rfl, cc, hf⟩
    exact s_ret cc (ev_var rfl hf) fun v g8 h8 c8 s8 p8 => q v g8 h8 c8.w p8
end
end KW
end
section
set_option Elab.async false
set_option linter.all false
set_option maxRecDepth 100000
set_option maxHeartbeats 1000000
namespace KW
open PySem PySem.Spec PyProof.Rows L2
open K97 (at0 Sz RowSz Sm smAt exprTo exprStep addF expressed)
/-! ### sizes on the way of a row -/
def cntE (r : List Rat) (col : Option Nat) (k : Nat) : Nat := ((List.range k).filter fun j => decide (at0 r j ≠ 0) && decide (some j ≠ col)).length
theorem cntE_succ (r : List Rat) (col : Option Nat) (k : Nat) : cntE r col (k + 1) = cntE r col k + (if (decide (at0 r k ≠ 0) && decide (some k ≠ col)) = true then 1 else 0) := by
  unfold cntE
  rw [List.range_succ, List.filter_append, List.length_append, List.filter_cons]
  split <;> rfl
theorem cntE_le (r : List Rat) (col : Option Nat) {k j : Nat} (h : k ≤ j) : cntE r col k ≤ cntE r col j := by
  induction j with
  | zero => have : k = 0 := by omega
            subst this; exact Nat.le_refl _
  | succ j ih =>
    rcases Nat.lt_or_ge j k with h1 | h1
    · have : k = j + 1 := by omega
      subst this; exact Nat.le_refl _
    · rw [cntE_succ]
      have := ih h1
      omega
theorem exprTo_succ (r : List Rat) (c : Rat) (S : Sm) (size : Nat) (col : Option Nat) (k : Nat) : exprTo r c S size col (k + 1) = exprStep r S size col (exprTo r c S size col k) k := by
  unfold exprTo
  rw [List.range_succ, List.foldl_append]
  rfl
/-- the forms by their sizes -/
def SmSz (S : Sm) (size T cc : Nat) : Prop := ∀ j ∈ S.map (·.1), RowSz T (smAt S size j).1 ∧ Sz cc (smAt S size j).2 ∧ (smAt S size j).1.length = size
theorem exprTo_sz {r : List Rat} {c : Rat} {S : Sm} {size T cc : Nat} {col : Option Nat} {a0 : Nat} (hr : RowSz a0 r) (hc : Sz a0 c) (hS : SmSz S size T cc) (hk : ∀ j, j < r.length → at0 r j ≠ 0 → some j ≠ col → j ∈ S.map (·.1)) : ∀ k, k ≤ r.length →
    RowSz (cntE r col k * (T + a0 + 1)) (exprTo r c S size col k).1 ∧ Sz (a0 + cntE r col k * (cc + a0 + 1)) (exprTo r c S size col k).2
  | 0, _ => ⟨RowSz.rep.mono (Nat.zero_le _), hc.mono (Nat.le_add_right _ _)⟩
  | k + 1, hl => by
    obtain ⟨h1, h2⟩ := exprTo_sz (size := size) (T := T) (cc := cc) (c := c) hr hc hS hk k (by omega)
    rw [exprTo_succ, cntE_succ]
    unfold exprStep
    by_cases h : at0 r k ≠ 0 ∧ some k ≠ col
    · rw [if_pos h, if_pos (by rw [decide_eq_true h.1, decide_eq_true h.2]; rfl)]
      obtain ⟨k1, k2, k3⟩ := hS k (hk k (by omega) h.1 h.2)
      constructor
      · intro q hq
        unfold addF at hq
        obtain ⟨j, _, rfl⟩ := List.mem_map.mp hq
        refine ((h1.at j).add ((hr.at k).mul (k1.at j))).mono ?_
        rw [Nat.add_mul]
        omega
      · refine (h2.sub ((hr.at k).mul k2)).mono ?_
        rw [Nat.add_mul]
        omega
    · rw [if_neg h, if_neg (by intro z; rw [Bool.and_eq_true] at z; exact h ⟨of_decide_eq_true z.1, of_decide_eq_true z.2⟩)]
      rw [Nat.add_zero]
      exact ⟨h1, h2⟩
/-! ### best_tears -/
def spBes (C : Addr) : Sp := spF (fun (x : TearIn) vs G => F2 [RMat C x.A] vs G ∧ x.A.length ≤ 5 ∧ (∀ r ∈ x.A, r.length ≤ 100) ∧ K97.bestTears x.A = some x.t) (fun x => RI x.t) 1
abbrev sExp : Stmt := top 32
def N_Exp : List Str := ["row", "constant", "sums", "size", "column", "found", "at", "value", "coefficients", "other", "k"]
theorem scExp : FnScope N_Exp ["row", "constant", "sums", "size", "column"] (defScope sExp) := ⟨rfl, rfl, rfl, by decide +kernel, rfl, by decide +kernel, by decide +kernel⟩
def colV : Option Nat → V
  | none => .non
  | some j => .int (j : Int)
def RSm (C : Addr) (q : List Rat × Rat) : VP := RT [RRow C q.1, RQ C q.2]
instance {C : Addr} {q : List Rat × Rat} : Mo (RSm C q) := inferInstanceAs (Mo (RT _))
/-- the dict of the forms -/
structure SumR (C : Addr) (size : Nat) (S : Sm) (kvs : List (L2.Key × V)) (G : Hp) : Prop where
  get : ∀ j : Nat, j ∈ S.map (·.1) → ∃ v, valV kvs (.inl (j : Int)) = some v ∧ RSm C (smAt S size j) v G
  few : kvs.length ≤ S.length
theorem SumR.mono {C : Addr} {size : Nat} {S : Sm} {kvs : List (L2.Key × V)} {G G' : Hp} (h : SumR C size S kvs G) (e : L2.Same G G') : SumR C size S kvs G' := ⟨fun j hj => by
  obtain ⟨v, h1, h2⟩ := h.get j hj
  exact ⟨v, h1, up e h2⟩, h.few⟩
structure ExpIn where
  r : List Rat
  c : Rat
  S : Sm
  size : Nat
  col : Option Nat
  d : Addr
  kvs : List (L2.Key × V)
  T : Nat
  cc : Nat
structure ExpPre (C : Addr) (x : ExpIn) (G : Hp) : Prop where
  sum : SumR C x.size x.S x.kvs G
  key : ∀ j, j < x.r.length → at0 x.r j ≠ 0 → some j ≠ x.col → j ∈ x.S.map (·.1)
  row : RowSz 2 x.r
  con : Sz 2 x.c
  sz : SmSz x.S x.size x.T x.cc
  fit1 : cntE x.r x.col x.r.length * (x.T + 3) ≤ 13300
  fit2 : 2 + cntE x.r x.col x.r.length * (x.cc + 3) ≤ 13300
  size : x.size ≤ 100
  wide : x.r.length ≤ 100
def spExp (C : Addr) : Sp := spC (fun (x : ExpIn) vs G => F2 [RRow C x.r, RQ C x.c, RV (.ref x.d), RV (.int (x.size : Int)), RV (colV x.col)] vs G ∧ ExpPre C x G) (fun x => [(x.d, .dK x.kvs)]) (fun x => RSm C (expressed x.r x.c x.S x.size x.col)) 5
section
variable {P : Program} {w : World} {K : PySem.W.Frag} {mg : Str → Option Value} {base : Heap} {C CB : Addr} {σ : L2.St} {G0 H0 G H : Hp} {cs : List (Addr × HO)} {ta tb te : TE} {R : VP}
theorem dn_bes (Dd : Df K mg "best_tears" sBes) (B : Kit P w K mg base C) (D3 : Dn P w K mg base "causal" 4 ["rows", "tears"] (spCau C)) (D4 : Dn P w K mg base "choices" 1 ["many", "size"] spCho) : Dn P w K mg base "best_tears" 5 ["rows"] (spBes C) := by
  refine dn_of Dd scBes (fun _ _ _ _ _ _ us hl => match us, hl with | [_], _ => rfl) (fun vs H Q E h => h.1) (fun f cdv A0 outer s H vs Q E hr h => ?_)
  obtain ⟨_, G, ⟨A, t⟩, sg, ⟨hF, few, hrow, hbest⟩, q⟩ := h
  obtain ⟨v0, rfl, h0⟩ := one_of hF
  dsimp only at *
  have nd := scBes.nd
  have hu := hu_of hr
  refine ⟨_, (pss_cons (ps_for PassesOwn.never rfl (pi_range1 (by rfl) B.range (pa_cons (pe_op op_add (pe_callB call_len_seq (by rfl) B.len PySem.boot_len (pa_cons (pv 0) pa_nil)) pe_int) pa_nil)) (pg_name (i := 1) nd rfl (.inl rfl))
  (pss_one (ps_for PassesOwn.never rfl (pi_list (pe_dn D4 (hr.mono (by decide)) (by rfl) (pa_cons (pe_callB call_len_seq (by rfl) B.len PySem.boot_len (pa_cons (pv 0) pa_nil)) (pa_cons (pv 1) pa_nil)))) (pg_name (i := 2) nd rfl (.inl rfl))
    (pss_one (ps_if (pt_cmpR op_eq (pe_op op_add (pe_callB call_len_seq (by rfl) B.len PySem.boot_len (pa_cons (pe_dn D3 (hr.mono (by decide)) (by rfl) (pa_cons (pv 0) (pa_cons (pv 2) pa_nil))) pa_nil)) (pv 1)) (pe_callB call_len_seq (by rfl) B.len PySem.boot_len (pa_cons (pv 0) pa_nil)) (nomark _)) (pss_one (ps_ret (pv 2))) pss_nil)))))
  (pss_one ps_never)), ?_⟩
  have c := Cel.start sg
  refine q_for (cs' := []) c (ew_range (n := A.length + 1) (ea_cons (EvP.is (a := .int ((A.length : Int) + 1)) (ev_add (EvP.is (ev_len (ev_var rfl h0)) (by rw [List.length_map])) ev_c) (by simp)) ea_nil) (by omega))
    (fun i s' g h => ∃ o1 o2, s' = [some v0, o1, o2] ∧ Cel G H g h [] ∧ L2.Same G g ∧ ∀ j, j < i → K97.tearAt A j = none)
    (fun i s' g h ⟨_, _, _, cc, _⟩ => ⟨cc.s, .nil⟩) (fun G3 H3 c3 s3 => ⟨none, none, rfl, c3, s3, fun j hj => by omega⟩) ?_ ?_
  · rintro i s' g h x hi sg' ⟨o1, o2, rfl, cc, sG, hno⟩ g2 h2 w2 hY
    obtain rfl : x = _ := hY
    have cc2 := cc.go w2
    have sG2 := sG.trans w2.g
    refine s_for (cs' := []) cc2 (ew_list (Rs := (K97.choices A.length i).map RI) (ev_callF (In := _) (Out := _) (n := 2) ((A.length, i) : Nat × Nat) (ea_cons (P1 := RV (.int (A.length : Int))) (EvP.is (ev_len (ev_var rfl (up sG2 h0))) (by rw [List.length_map])) (ea_cons (P1 := RV (.int (i : Int))) (ev_var rfl rfl) ea_nil)) (F2.length_is rfl) (fun vs G2 s f => by
        obtain ⟨a, b, rfl, rfl, rfl⟩ := two_of f
        exact ⟨rfl, by omega, by omega⟩)))
      (fun k s' g h => ∃ o2, s' = [some v0, some (.int (i : Int)), o2] ∧ Cel G H g h [] ∧ L2.Same G g ∧ ∀ u ∈ (K97.choices A.length i).take k, ¬ (K97.causal A u).length + i = A.length)
      (fun i s' g h ⟨_, _, cc, _⟩ => ⟨cc.s, .nil⟩) (fun G3 H3 c3 s3 => ⟨_, rfl, c3, sG2.trans s3, fun u hu => by simp at hu⟩) ?_ ?_
    · rintro k s' g4 h4 x4 hk sg4 ⟨p2, rfl, c4, sG4, hne⟩ g5 h5 w5 hY5
      rw [List.length_map] at hk
      have hek : (K97.choices A.length i)[k]? = some (K97.choices A.length i)[k] := List.getElem?_eq_getElem hk
      have hY5 := hY5.map hek
      have hasc := K97.choices_asc A.length i _ (List.getElem_mem hk)
      have c5 := c4.go w5
      have pre : TearPre ⟨A, (K97.choices A.length i)[k]⟩ := ⟨hasc.up.imp fun h => Nat.ne_of_lt h, hrow, (by show A.length ≤ 100; omega), by show (K97.choices A.length i)[k].length ≤ 100; rw [hasc.len]; omega⟩
      have sG5 := sG4.trans w5.g
      refine s_if c5 (et_test (ev_op (ev_add (ev_len (Rs := (K97.causal A (K97.choices A.length i)[k]).map RP) (ev_callF (In := _) (Out := _) (n := 2) (⟨A, (K97.choices A.length i)[k]⟩ : TearIn) (ea_cons (ev_var rfl (up sG5 h0)) (ea_cons (ev_var rfl hY5) ea_nil)) (F2.length_is rfl) (fun vs G2 s f => ⟨f, pre⟩))) (ev_var rfl rfl)) (ev_len (ev_var rfl (up sG5 h0))) (rv_eq rfl))) (fun hb g6 h6 c6 s6 => ?_) (fun hb g6 h6 c6 s6 => ?_)
      · have hh := of_decide_eq_true hb
        rw [List.length_map, List.length_map] at hh
        injection hh with hh
        have hit : (K97.causal A (K97.choices A.length i)[k]).length + i = A.length := by omega
        have e1 : K97.tearAt A i = some (K97.choices A.length i)[k] := by
          unfold K97.tearAt
          rw [List.find?_eq_some_iff_getElem]
          refine ⟨decide_eq_true hit, k, hk, rfl, fun j hj => ?_⟩
          have := hne (K97.choices A.length i)[j] (List.mem_take_iff_getElem.mpr ⟨j, by omega, rfl⟩)
          simp [this]
        have e2 : K97.bestTears A = some (K97.choices A.length i)[k] := findSome_at (by omega) hno e1
        rw [hbest] at e2
        cases e2
        exact s_ret c6 (ev_var rfl (up s6 hY5)) fun v g8 h8 c8 s8 p8 => q v g8 h8 c8.w p8
      · refine ⟨g6, w5.g.trans s6, _, rfl, c6, sG5.trans s6, fun u hu' => ?_⟩
        rw [← List.take_append_getElem hk] at hu'
        rcases List.mem_append.mp hu' with hu' | hu'
        · exact hne u hu'
        · rw [List.mem_singleton.mp hu']
          intro hit
          have hh := of_decide_eq_false hb
          rw [List.length_map, List.length_map] at hh
          exact hh (congrArg V.int (by omega))
    · rintro s' g4 h4 sg4 ⟨p2, rfl, c4, sG4, hne⟩
      rw [List.length_map, List.take_length] at hne
      refine ⟨g4, w2.g.trans sg4, _, _, rfl, c4, sG4, fun j hj => ?_⟩
      rcases Nat.lt_or_ge j i with h6 | h6
      · exact hno j h6
      · have : j = i := by omega
        subst this
        unfold K97.tearAt
        rw [List.find?_eq_none]
        intro u hu'
        simp [hne u hu']
  · rintro s' g h sg' ⟨o1, o2, rfl, cc, sG, hno⟩
    exfalso
    have : K97.bestTears A = none := by
      unfold K97.bestTears
      rw [List.findSome?_eq_none_iff]
      exact fun j hj => hno j (List.mem_range.mp hj)
    rw [hbest] at this
    cases this
/-! ### expressed -/
theorem dn_exp (Dd : Df K mg "expressed" sExp) (B : Kit P w K mg base C) : Dn P w K mg base "expressed" 5 ["row", "constant", "sums", "size", "column"] (spExp C) := by
  refine dn_of Dd scExp (fun _ _ _ _ _ _ us hl => match us, hl with | [_, _, _, _, _], _ => rfl) (fun vs H Q E h => h.1) (fun f cdv A0 outer s H vs Q E hr h => ?_)
  obtain ⟨_, G, ⟨r, cst, S, size, col, d, kvs, T, cc0⟩, sg, ⟨hF, pre⟩, hcl, ndc, q⟩ := h
  obtain ⟨v0, r1, rfl, h0, hF⟩ := hF.inv_cons
  obtain ⟨v1, r2, rfl, h1, hF⟩ := hF.inv_cons
  obtain ⟨v2, v3, v4, rfl, h2, h3, h4⟩ := three_of hF
  obtain ⟨sum, key, rowz, conz, smz, fit1, fit2, sizl, wide⟩ := pre
  dsimp only at *
  obtain rfl : v2 = _ := h2
  obtain rfl : v3 = _ := h3
  obtain rfl : v4 = _ := h4
  have nd := scExp.nd
  have hu := hu_of hr
  refine ⟨_, (pss_cons (ps_set (i := 5) nd rfl (.inr rfl) (pe_op op_rep (pe_lst (pa_cons (pe_ratio1 B.T B.gd (hr.mono (by decide)) (by rfl) (pa_cons pe_int pa_nil)) pa_nil)) (pv 3)))
  (pss_cons (ps_for PassesOwn.never rfl (pi_enum (by rfl) B.enum (pa_cons (pv 0) pa_nil)) (pg_tup rfl (pgs_cons (pg_name (i := 6) nd rfl (.inl rfl)) (pgs_cons (pg_name (i := 7) nd rfl (.inr rfl)) pgs_nil)))
  (pss_one (ps_if (pw_and (pt_not (pt_val (pe_dn B.isz (hr.mono (by decide)) (by rfl) (pa_cons (pv 7) pa_nil)))) (pw_and1 (pt_cmpR op_ne (pv 6) (pv 4) (nomark _)))).pt (pss_cons (ps_asg (pe_dget hu (pv 2) (pv 6) (fun _ _ => rfl)) (pg_tup rfl (pgs_cons (pg_name (i := 8) nd rfl (.inr rfl)) (pgs_cons (pg_name (i := 9) nd rfl (.inl rfl)) pgs_nil))))
      (pss_cons (ps_set (i := 5) nd rfl (.inr rfl) (pe_lc (own := [("k", 10)]) (tt := tYes) rfl nd (pi_range1 (by rfl) B.range (pa_cons (pv 3) pa_nil)) (blkOk_by (N := N_Exp) (sc := defScope sExp) (by decide +kernel)) (fun _ _ _ _ _ => (pg_name (i := 10) nd rfl (.inl rfl))) (fun _ _ _ _ _ => pts_nil) (fun _ _ _ _ _ => (pe_op (op_qadd B (hr.mono (by decide))) (pe_ix (r := rIxL K) ix_list (pv 5) (pv 10) (fun _ _ => rfl)) (pe_op (op_qmul B (hr.mono (by decide))) (pv 7) (pe_ix (r := rIxL K) ix_list (pv 8) (pv 10) (fun _ _ => rfl)))))))
      (pss_one (ps_set (i := 1) nd rfl (.inl rfl) (pe_op (op_qsub B (hr.mono (by decide))) (pv 1) (pe_op (op_qmul B (hr.mono (by decide))) (pv 7) (pv 9))))))) pss_nil)))
  (pss_one (ps_ret (pe_tup (pa_cons (pv 5) (pa_cons (pv 1) pa_nil))))))), ?_⟩
  have c := Cel.given sg hcl ndc
  have esz := exprTo_sz (size := size) (c := cst) rowz conz smz key
  refine q_set c (P := RRow C (List.replicate size 0)) (by
    unfold RRow
    rw [← rep_row]
    exact ev_op (ev_lst (ea_cons (ev_q0 (C := C) ev_c) ea_nil)) (ev_var rfl rfl) (rv_rep (by omega))) fun v5 G1 H1 c1 s1 p1 => ?_
  refine q_for (cs' := []) c1 (ew_enum (Rs := r.map (RQ C)) (ea_cons (ev_var rfl (up s1 h0)) ea_nil))
    (fun k s' g h => ∃ vc vf o6 o7 o8 o9, s' = [some v0, some vc, some (.ref d), some (.int (size : Int)), some (colV col), some vf, o6, o7, o8, o9, none] ∧ Cel G (mask H [(d, .dK kvs)]) g h [(d, .dK kvs)] ∧ L2.Same G g ∧ RRow C (exprTo r cst S size col k).1 vf g ∧ RQ C (exprTo r cst S size col k).2 vc g)
    (fun i s' g h ⟨_, _, _, _, _, _, _, cc, _⟩ => ⟨cc.s, .nil⟩) (fun G3 H3 c3 s3 => ⟨v1, v5, none, none, none, none, rfl, c3, s1.trans s3, up s3 p1, up (s1.trans s3) h1⟩) ?_ ?_
  · rintro k s' g h x hk sg' ⟨vc, vf, o6, o7, o8, o9, rfl, cc, sG, pf, pc⟩ g2 h2 w2 hY
    rw [List.length_map] at hk
    have cc2 := cc.go w2
    refine g_tup2 hY cc2.s fun yi yv q1 q2 => ?_
    obtain rfl : yi = .int (k : Int) := q1
    have q2 := q2.of (row_get hk)
    obtain ⟨z1, z2⟩ := esz k (by omega)
    have z1 : RowSz (cntE r col k * (T + 3)) _ := z1
    have z2 : Sz (2 + cntE r col k * (cc0 + 3)) _ := z2
    have hcs := cntE_succ r col k
    have hcl2 := cntE_le r col (show k + 1 ≤ r.length by omega)
    have elen := K97.exprTo_len r cst S size col k
    have edec : decide (V.int (k : Int) = colV col) = decide (some k = col) := by
      cases col with
      | none => rfl
      | some j => simp [colV]; omega
    refine s_if cc2 (et_and (et_not (et_B (ev_isz (ev_var rfl q2)))) (fun _ => et_test (ev_op (ev_var rfl rfl) (ev_var rfl rfl) (rv_ne (by cases col <;> rfl))))) (fun hb g3 h3 c3 s3 => ?_) (fun hb g3 h3 c3 s3 => ?_)
    · rw [edec, Bool.and_eq_true] at hb
      have hnz : at0 r k ≠ 0 := by simpa using hb.1
      have hnc : some k ≠ col := by simpa using hb.2
      rw [if_pos (by rw [decide_eq_true hnz, decide_eq_true hnc]; rfl)] at hcs
      have f1 : (cntE r col k + 1) * (T + 3) ≤ cntE r col r.length * (T + 3) := Nat.mul_le_mul_right _ (by omega)
      have f2 : (cntE r col k + 1) * (cc0 + 3) ≤ cntE r col r.length * (cc0 + 3) := Nat.mul_le_mul_right _ (by omega)
      rw [Nat.add_mul, Nat.one_mul] at f1 f2
      have hmem := key k hk hnz hnc
      obtain ⟨k1, k2, k3⟩ := smz k hmem
      obtain ⟨vs, hvs, hRs⟩ := sum.get k hmem
      have sG3 := (sG.trans w2.g).trans s3
      refine q_tup2 c3 (ev_dgetK (k := .inl (k : Int)) (P := RSm C (smAt S size k)) mem_head (.inl rfl) (ev_var rfl rfl) (ev_var rfl rfl) hvs (up sG3 hRs)) fun vco vot g4 h4 c4 s4 p4 p5 => ?_
      have s24 := (w2.g.trans s3).trans s4
      refine q_set c4 (ev_row (C := C) (g := fun j => at0 (exprTo r cst S size col k).1 j + at0 r k * at0 (smAt S size k).1 j) (ev_lcA (ew_range (n := size) (ea_cons (ev_var rfl rfl) ea_nil) (by omega)) (by omega) _ fun j x g' hj sg' hY h' s' kk qq => ?_)) fun vf6 g6 h6 c6 s6 p6 => ?_
      · refine qq _ rfl (ev_qop (ev_ixR (ev_var rfl (up (s24.trans sg') pf)) (ev_var rfl hY) (by rw [elen]; exact hj)) (ev_qop (ev_var rfl (up ((s3.trans s4).trans sg') q2)) (ev_ixR (ev_var rfl (up sg' p4)) (ev_var rfl hY) (by rw [k3]; exact hj)) ?_) ?_)
        · exact fit_of (rowz.at _) (k1.at _) (by omega)
        · exact fit_of (z1.at _) ((rowz.at _).mul (k1.at _)) (by omega)
      · refine s_set c6 (ev_qop (ev_var rfl (up (s24.trans s6) pc)) (ev_qop (ev_var rfl (up ((s3.trans s4).trans s6) q2)) (ev_var rfl (up s6 p5)) ?_) ?_) fun vc7 g7 h7 c7 s7 p7 => ?_
        · exact fit_of (rowz.at _) k2 (by omega)
        · exact fit_of z2 ((rowz.at _).mul k2) (by omega)
        · refine ⟨g7, (s24.trans s6).trans s7, vc7, vf6, _, _, _, _, rfl, c7, sG.trans ((s24.trans s6).trans s7), ?_, ?_⟩
          · rw [exprTo_succ]
            unfold exprStep
            rw [if_pos ⟨hnz, hnc⟩]
            exact up s7 p6
          · rw [exprTo_succ]
            unfold exprStep
            rw [if_pos ⟨hnz, hnc⟩]
            exact p7
    · rw [edec] at hb
      have hn : ¬ (at0 r k ≠ 0 ∧ some k ≠ col) := fun z => by simp [z.1, z.2] at hb
      refine ⟨g3, w2.g.trans s3, vc, vf, _, _, _, _, rfl, c3, (sG.trans w2.g).trans s3, ?_, ?_⟩
      · rw [exprTo_succ]
        unfold exprStep
        rw [if_neg hn]
        exact up (w2.g.trans s3) pf
      · rw [exprTo_succ]
        unfold exprStep
        rw [if_neg hn]
        exact up (w2.g.trans s3) pc
  · rintro s' g h sg' ⟨vc, vf, o6, o7, o8, o9, rfl, cc, sG, pf, pc⟩
    rw [List.length_map] at pf pc
    exact s_ret cc (ev_tup (ea_cons (ev_var rfl pf) (ea_cons (ev_var rfl pc) ea_nil))) fun v g8 h8 c8 s8 p8 => q v g8 h8 (c8.read hcl (fun _ h => h)) p8
end
end KW
end
section
set_option Elab.async false
set_option linter.all false
set_option maxRecDepth 100000
set_option maxHeartbeats 2000000
namespace KW
open PySem PySem.Spec PyProof.Rows L2
open K97 (at0 Sz RowSz Sm smAt exprTo exprStep addF expressed tearS unitT pairStep sumsOf restOf causal)
/-! ### the sizes of the forms -/
def tz : Nat → Nat
  | 0 => 0
  | j + 1 => 4 * (tz j + 3) + 2
def cz : Nat → Nat
  | 0 => 0
  | j + 1 => 4 * (cz j + 3) + 4
theorem torn_fit1 : ∀ p < 6, ∀ s < 6, p + s ≤ 5 → ∀ k < 6, k < s → K97.bb (5 * (tz p + 3)) k + K97.cb (5 * (tz p + 3)) (2 + 5 * (cz p + 3)) k ≤ 13400 := by decide +kernel
set_option synthInstance.maxSize 4096 in
set_option synthInstance.maxHeartbeats 400000 in
theorem torn_fit2 : ∀ p < 6, ∀ s < 6, p + s ≤ 5 → ∀ m < 6, ∀ i < 6, i < m → m ≤ s → K97.cb (5 * (tz p + 3)) (2 + 5 * (cz p + 3)) i + (m - 1 - i) * (K97.bb (5 * (tz p + 3)) i + 127 + 1) + K97.bb (5 * (tz p + 3)) i ≤ 13300 := by decide +kernel
theorem torn_fit3 : ∀ p < 6, ∀ s < 6, p + s ≤ 5 → cz p + s * (tz p + 128) ≤ 13200 := by decide +kernel
theorem torn_fit4 : ∀ p < 6, ∀ s < 6, p + s ≤ 5 → 0 < s → 5 * (tz p + 3) ≤ 13300 ∧ 2 + 5 * (cz p + 3) ≤ 13300 := by decide +kernel
theorem torn_fit (p : Nat) (hp : p < 6) (s : Nat) (hs : s < 6) (h : p + s ≤ 5) : (∀ k < 6, k < s → K97.bb (5 * (tz p + 3)) k + K97.cb (5 * (tz p + 3)) (2 + 5 * (cz p + 3)) k ≤ 13400) ∧
    (∀ m < 6, ∀ i < 6, i < m → m ≤ s → K97.cb (5 * (tz p + 3)) (2 + 5 * (cz p + 3)) i + (m - 1 - i) * (K97.bb (5 * (tz p + 3)) i + 127 + 1) + K97.bb (5 * (tz p + 3)) i ≤ 13300) ∧
    cz p + s * (tz p + 128) ≤ 13200 ∧ (0 < s → 5 * (tz p + 3) ≤ 13300 ∧ 2 + 5 * (cz p + 3) ≤ 13300) := ⟨torn_fit1 p hp s hs h, torn_fit2 p hp s hs h, torn_fit3 p hp s hs h, torn_fit4 p hp s hs h⟩
theorem pair_fit : ∀ j < 5, 4 * (tz j + 3) + 20 ≤ 13000 ∧ 4 * (cz j + 3) + 20 ≤ 13000 := by decide +kernel
theorem cntE_one {r : List Rat} {c n : Nat} (hc : c < n) : cntE r (some c) n ≤ n - 1 := by
  unfold cntE
  have h := K97.nodup_le (l := (List.range n).filter fun j => decide (at0 r j ≠ 0) && decide (some j ≠ some c)) (m := (List.range n).erase c) (List.nodup_range.filter _) fun x hx => by
    obtain ⟨h1, h2⟩ := List.mem_filter.mp hx
    rw [Bool.and_eq_true] at h2
    refine (List.mem_erase_of_ne ?_).mpr h1
    intro z
    exact of_decide_eq_true h2.2 (congrArg some z)
  rw [List.length_erase_of_mem (List.mem_range.mpr hc), List.length_range] at h
  exact h
theorem cntE_all {r : List Rat} {col : Option Nat} {n : Nat} : cntE r col n ≤ n := by
  unfold cntE
  exact Nat.le_trans (List.length_filter_le _ _) (by rw [List.length_range]; exact Nat.le_refl _)
theorem SmSz.snoc {S : Sm} {size T cc T' cc' : Nat} {c : Nat} {x : List Rat × Rat} (h : SmSz S size T cc) (hc : c ∉ S.map (·.1)) (h1 : RowSz T' x.1) (h2 : Sz cc' x.2) (h3 : x.1.length = size) (l1 : T ≤ T') (l2 : cc ≤ cc') : SmSz (S ++ [(c, x)]) size T' cc' := fun j hj => by
  unfold smAt
  rw [K97.lookup_snoc (K97.notKey hc)]
  by_cases e : j = c
  · rw [if_pos e]
    exact ⟨h1, h2, h3⟩
  · rw [if_neg e]
    rw [List.map_append, List.mem_append] at hj
    rcases hj with hj | hj
    · obtain ⟨k1, k2, k3⟩ := h j hj
      exact ⟨k1.mono l1, k2.mono l2, k3⟩
    · exact absurd (List.mem_singleton.mp hj) e
theorem SumR.put {C : Addr} {size : Nat} {S : Sm} {kvs : List (L2.Key × V)} {G : Hp} {c : Nat} {x : List Rat × Rat} {v : V} (h : SumR C size S kvs G) (hc : c ∉ S.map (·.1)) (hv : RSm C x v G) : SumR C size (S ++ [(c, x)]) (putK kvs (.inl (c : Int)) v) G := by
  refine ⟨fun j hj => ?_, ?_⟩
  · unfold smAt
    rw [K97.lookup_snoc (K97.notKey hc)]
    by_cases e : j = c
    · subst e
      rw [if_pos rfl]
      exact ⟨v, by rw [valV_put, if_pos rfl], hv⟩
    · rw [if_neg e]
      rw [List.map_append, List.mem_append] at hj
      rcases hj with hj | hj
      · obtain ⟨u, k1, k2⟩ := h.get j hj
        exact ⟨u, by rw [valV_put, if_neg (by intro z; injection z with z; omega), k1], k2⟩
      · exact absurd (List.mem_singleton.mp hj) e
  · have := length_putK kvs (.inl (c : Int)) v
    have := h.few
    rw [List.length_append]
    simp
    omega
theorem chain_at {A : List (List Rat)} : ∀ {ps : List (Nat × Nat)} {known taken : List Nat} {i : Nat} {p : Nat × Nat}, K97.Chain A known taken ps → ps[i]? = some p → p.1 < A.length ∧ K97.openCols (K97.row A p.1) (known ++ (ps.take i).map (·.2)) = [p.2]
  | [], _, _, _, _, _, h => by simp at h
  | q :: ps, known, taken, 0, p, hc, h => by
    simp at h
    subst h
    obtain ⟨h1, _, h3, _⟩ := hc
    refine ⟨h1, ?_⟩
    simpa using h3
  | q :: ps, known, taken, i + 1, p, hc, h => by
    obtain ⟨_, _, _, h4⟩ := hc
    have h : ps[i]? = some p := by simpa using h
    obtain ⟨k1, k2⟩ := chain_at h4 h
    refine ⟨k1, ?_⟩
    rw [List.take_succ_cons, List.map_cons]
    simpa using k2
/-- the forms behind i pairs -/
def pairsTo (A : List (List Rat)) (b : List Rat) (t : List Nat) (ps : List (Nat × Nat)) (i : Nat) : Sm := (ps.take i).foldl (pairStep A b t.length) (tearS t)
theorem pairsTo_succ {A : List (List Rat)} {b : List Rat} {t : List Nat} {ps : List (Nat × Nat)} {i : Nat} {p : Nat × Nat} (h : ps[i]? = some p) : pairsTo A b t ps (i + 1) = pairStep A b t.length (pairsTo A b t ps i) p := by
  unfold pairsTo
  obtain ⟨hi, rfl⟩ := List.getElem?_eq_some_iff.mp h
  rw [← List.take_append_getElem hi, List.foldl_append]
  rfl
theorem pairsTo_keys (A : List (List Rat)) (b : List Rat) (t : List Nat) (ps : List (Nat × Nat)) : ∀ i, i ≤ ps.length → (pairsTo A b t ps i).map (·.1) = t ++ (ps.take i).map (·.2)
  | 0, _ => by
    show (tearS t).map (·.1) = t ++ []
    rw [K97.tear_keys, List.append_nil]
  | i + 1, hi => by
    have e := List.getElem?_eq_getElem (show i < ps.length by omega)
    rw [pairsTo_succ e]
    unfold pairStep
    rw [List.map_append, pairsTo_keys A b t ps i (by omega), ← List.take_append_getElem (show i < ps.length by omega), List.map_append, List.append_assoc]
    rfl
/-- the first i forms of the tears -/
def tearTo (t : List Nat) (i : Nat) : Sm := (List.range i).map fun k => (t.getD k 0, unitT t.length k, (0 : Rat))
theorem tearTo_succ (t : List Nat) (i : Nat) : tearTo t (i + 1) = tearTo t i ++ [(t.getD i 0, unitT t.length i, 0)] := by
  unfold tearTo
  rw [List.range_succ, List.map_append]
  rfl
theorem tearTo_keys (t : List Nat) (i : Nat) (hi : i ≤ t.length) : (tearTo t i).map (·.1) = t.take i := by
  unfold tearTo
  rw [List.map_map]
  refine List.ext_getElem (by simp; omega) fun j h1 h2 => ?_
  simp at h1 h2
  simp [List.getD_eq_getElem?_getD]
  rw [List.getElem?_eq_getElem (by omega)]
  rfl
theorem not_take {t : List Nat} (nd : t.Nodup) {i : Nat} (hi : i < t.length) : t[i] ∉ t.take i := fun hm => by
  obtain ⟨j, hj, e⟩ := List.mem_take_iff_getElem.mp hm
  have := (List.getElem_inj nd).mp e
  omega
theorem unitT_sz (n k : Nat) : RowSz 0 (unitT n k) := fun q hq => by
  unfold unitT at hq
  obtain ⟨j, _, rfl⟩ := List.mem_map.mp hq
  split
  · exact Sz.one
  · exact Sz.zero
theorem unitT_len (n k : Nat) : (unitT n k).length = n := by unfold unitT; rw [List.length_map, List.length_range]
theorem tearTo_sz (t : List Nat) (nd : t.Nodup) : ∀ i, i ≤ t.length → SmSz (tearTo t i) t.length 0 0
  | 0, _ => fun j hj => by simp [tearTo] at hj
  | i + 1, hi => by
    rw [tearTo_succ]
    refine (tearTo_sz t nd i (by omega)).snoc ?_ (unitT_sz _ _) Sz.zero (unitT_len _ _) (Nat.le_refl _) (Nat.le_refl _)
    rw [tearTo_keys t i (by omega), getD_is (List.getElem?_eq_getElem (show i < t.length by omega))]
    exact not_take nd (by omega)
theorem tearTo_all (t : List Nat) : tearTo t t.length = tearS t := rfl
/-- the state of the torn system -/
structure TornFit (A : List (List Rat)) (b : List Rat) (n : Nat) (t : List Nat) (xs : List Rat) : Prop where
  sq : K97.Sq A n
  few : n ≤ 5
  lb : b.length = n
  szA : ∀ r ∈ A, RowSz 2 r
  szb : RowSz 2 b
  reg : K97.Reg A n
  tears : K97.Tears A n t
  sol : K97.Solves A b n fun j => at0 xs j
  lx : xs.length = n
  szx : RowSz 127 xs
theorem neg_sz {k : Nat} {q : Rat} (h : Sz k q) : Sz k (-q) := h.neg
section
variable {A : List (List Rat)} {b : List Rat} {n : Nat} {t : List Nat} {xs : List Rat}
theorem TornFit.lens (h : TornFit A b n t xs) : (causal A t).length ≤ 5 ∧ t.length ≤ 5 ∧ (causal A t).length + t.length = n ∧ A.length = n := by
  have h1 := h.tears.enough
  have h2 := h.few
  exact ⟨by omega, by omega, h1, h.sq.len⟩
/-- one pair: what is needed for the walk, and the sizes behind it -/
theorem TornFit.pair (h : TornFit A b n t xs) {i : Nat} {p : Nat × Nat} (hp : (causal A t)[i]? = some p) (hS : SmSz (pairsTo A b t (causal A t) i) t.length (tz i) (cz i)) :
    p.1 < n ∧ p.2 < n ∧ K97.ent A p.1 p.2 ≠ 0 ∧ (∀ j, j < (K97.row A p.1).length → at0 (K97.row A p.1) j ≠ 0 → some j ≠ some p.2 → j ∈ (pairsTo A b t (causal A t) i).map (·.1)) ∧ p.2 ∉ (pairsTo A b t (causal A t) i).map (·.1) ∧
    cntE (K97.row A p.1) (some p.2) (K97.row A p.1).length ≤ 4 ∧ RowSz (4 * (tz i + 3)) (expressed (K97.row A p.1) (at0 b p.1) (pairsTo A b t (causal A t) i) t.length (some p.2)).1 ∧ Sz (2 + 4 * (cz i + 3)) (expressed (K97.row A p.1) (at0 b p.1) (pairsTo A b t (causal A t) i) t.length (some p.2)).2 ∧
    SmSz (pairsTo A b t (causal A t) (i + 1)) t.length (tz (i + 1)) (cz (i + 1)) := by
  obtain ⟨hi, _⟩ := List.getElem?_eq_some_iff.mp hp
  obtain ⟨c1, c2⟩ := chain_at (K97.causalL_chain A (A.length + 1) t []) hp
  have ek := pairsTo_keys A b t (causal A t) i (by omega)
  have c2 : K97.openCols (K97.row A p.1) (t ++ ((causal A t).take i).map (·.2)) = [p.2] := c2
  rw [← ek] at c2
  obtain ⟨o1, o2, o3, o4⟩ := K97.openCols_one c2
  have hm := K97.row_mem c1
  have hl : (K97.row A p.1).length = n := h.sq.row _ hm
  rw [hl] at o1
  have few := h.few
  have key : ∀ j, j < (K97.row A p.1).length → at0 (K97.row A p.1) j ≠ 0 → some j ≠ some p.2 → j ∈ (pairsTo A b t (causal A t) i).map (·.1) := fun j hj hn hne => Classical.byContradiction fun hk => hne (congrArg some (o4 j hj hn hk))
  have hcnt : cntE (K97.row A p.1) (some p.2) (K97.row A p.1).length ≤ 4 := by
    rw [hl]
    have := cntE_one (r := K97.row A p.1) o1
    omega
  obtain ⟨e1, e2⟩ := exprTo_sz (size := t.length) (c := at0 b p.1) (h.szA _ hm) (h.szb.at _) hS key _ (Nat.le_refl _)
  have e1 : RowSz (4 * (tz i + 3)) (expressed (K97.row A p.1) (at0 b p.1) (pairsTo A b t (causal A t) i) t.length (some p.2)).1 := e1.mono (Nat.mul_le_mul_right _ hcnt)
  have e2 : Sz (2 + 4 * (cz i + 3)) (expressed (K97.row A p.1) (at0 b p.1) (pairsTo A b t (causal A t) i) t.length (some p.2)).2 := e2.mono (Nat.add_le_add_left (Nat.mul_le_mul_right _ hcnt) _)
  have hent : Sz 2 (K97.ent A p.1 p.2) := (h.szA _ hm).at _
  refine ⟨by rw [← h.sq.len]; exact c1, o1, o2, key, o3, hcnt, e1, e2, ?_⟩
  rw [pairsTo_succ hp]
  unfold pairStep
  refine hS.snoc o3 (fun q hq => ?_) ((e2.div hent).mono (by show _ ≤ 4 * (cz i + 3) + 4; omega)) ?_ (by show _ ≤ 4 * (tz i + 3) + 2; omega) (by show _ ≤ 4 * (cz i + 3) + 4; omega)
  · obtain ⟨v, hv, rfl⟩ := List.mem_map.mp hq
    exact ((e1 v hv).neg.div hent).mono (by show _ ≤ 4 * (tz i + 3) + 2; omega)
  · rw [List.length_map]
    exact K97.exprTo_len _ _ _ _ _ _
theorem TornFit.pairs (h : TornFit A b n t xs) : ∀ i, i ≤ (causal A t).length → SmSz (pairsTo A b t (causal A t) i) t.length (tz i) (cz i)
  | 0, _ => by
    have := tearTo_sz t h.tears.nd t.length (Nat.le_refl _)
    rw [tearTo_all] at this
    exact this
  | i + 1, hi => (h.pair (List.getElem?_eq_getElem (show i < (causal A t).length by omega)) (h.pairs i (by omega))).2.2.2.2.2.2.2.2
theorem pairsTo_all : pairsTo A b t (causal A t) (causal A t).length = sumsOf A b t (causal A t) := by
  unfold pairsTo sumsOf
  rw [List.take_length]
/-- the rest's rows -/
theorem TornFit.rest (h : TornFit A b n t xs) {i : Nat} (hi : i < n) : (∀ j, j < (K97.row A i).length → at0 (K97.row A i) j ≠ 0 → some j ≠ (none : Option Nat) → j ∈ (sumsOf A b t (causal A t)).map (·.1)) ∧ cntE (K97.row A i) none (K97.row A i).length ≤ 5 ∧
    RowSz (5 * (tz (causal A t).length + 3)) (expressed (K97.row A i) (at0 b i) (sumsOf A b t (causal A t)) t.length none).1 ∧ Sz (2 + 5 * (cz (causal A t).length + 3)) (expressed (K97.row A i) (at0 b i) (sumsOf A b t (causal A t)) t.length none).2 := by
  have T := K97.torn_ok h.sq h.reg h.tears h.sol h.lx
  have hS := h.pairs _ (Nat.le_refl _)
  rw [pairsTo_all] at hS
  have hm := K97.row_mem (A := A) (i := i) (by rw [h.sq.len]; exact hi)
  have hl : (K97.row A i).length = n := h.sq.row _ hm
  have few := h.few
  have key : ∀ j, j < (K97.row A i).length → at0 (K97.row A i) j ≠ 0 → some j ≠ (none : Option Nat) → j ∈ (sumsOf A b t (causal A t)).map (·.1) := fun j hj _ _ => T.keys j (by omega)
  have hcnt : cntE (K97.row A i) none (K97.row A i).length ≤ 5 := Nat.le_trans cntE_all (by omega)
  obtain ⟨e1, e2⟩ := exprTo_sz (size := t.length) (c := at0 b i) (h.szA _ hm) (h.szb.at _) hS key _ (Nat.le_refl _)
  exact ⟨key, hcnt, e1.mono (Nat.mul_le_mul_right _ hcnt), e2.mono (Nat.add_le_add_left (Nat.mul_le_mul_right _ hcnt) _)⟩
theorem rest_lt {ps : List (Nat × Nat)} : ∀ i ∈ restOf A ps, i < A.length := fun i hi => by
  unfold restOf at hi
  exact List.mem_range.mp (List.mem_filter.mp hi).1
theorem TornFit.small (h : TornFit A b n t xs) : FitA (K97.smallA A b t) (K97.smallB A b t) (5 * (tz (causal A t).length + 3)) (2 + 5 * (cz (causal A t).length + 3)) 127 := by
  have T := K97.torn_ok h.sq h.reg h.tears h.sol h.lx
  obtain ⟨l1, l2, l3, l4⟩ := h.lens
  have few := h.few
  have hw : K97.width (K97.smallA A b t) = t.length := K97.width_sq T.sq
  obtain ⟨f1, f2, f3, f4⟩ := torn_fit (causal A t).length (by omega) t.length (by omega) (by omega)
  have hin : ∀ q ∈ K97.smallOf A b (sumsOf A b t (causal A t)) t.length (restOf A (causal A t)), ∃ i, i < n ∧ q = expressed (K97.row A i) (at0 b i) (sumsOf A b t (causal A t)) t.length none := fun q hq => by
    unfold K97.smallOf at hq
    obtain ⟨i, hi, rfl⟩ := List.mem_map.mp hq
    exact ⟨i, by rw [← l4]; exact rest_lt i hi, rfl⟩
  refine ⟨fun r hr => by rw [hw]; exact T.sq.row r hr, by omega, by rw [T.sq.len]; omega, by rw [T.lb, T.sq.len], fun r hr => ?_, fun q hq => ?_, fun k hk => ?_, fun ys hy => ?_, by decide⟩
  · obtain ⟨q, hq, rfl⟩ := List.mem_map.mp hr
    obtain ⟨i, hi, rfl⟩ := hin q hq
    exact (h.rest hi).2.2.1
  · obtain ⟨q', hq', rfl⟩ := List.mem_map.mp hq
    obtain ⟨i, hi, rfl⟩ := hin q' hq'
    exact (h.rest hi).2.2.2
  · rw [T.sq.len] at hk
    exact f1 k (by omega) hk
  · rw [T.told] at hy
    cases hy
    refine ⟨fun q hq => ?_, fun i m hi hm => ?_⟩
    · obtain ⟨j, _, rfl⟩ := List.mem_map.mp hq
      exact h.szx.at j
    · rw [T.sq.len] at hm
      exact f2 m (by omega) i (by omega) hi hm
end
end KW
end
section
set_option Elab.async false
set_option linter.all false
set_option maxRecDepth 100000
set_option maxHeartbeats 2000000
namespace KW
open PySem PySem.Spec PyProof.Rows L2
open K97 (at0 Sz RowSz Sm smAt exprTo exprStep addF expressed tearS unitT pairStep sumsOf restOf causal)
abbrev sSto : Stmt := top 33
def N_Sto : List Str := ["rows", "constants", "tears", "pairs", "rest", "size", "sums", "at", "column", "k", "found", "constant", "lead", "small", "values", "result", "coefficients", "value", "row", "_"]
theorem scSto : FnScope N_Sto ["rows", "constants", "tears"] (defScope sSto) := ⟨rfl, rfl, rfl, by decide +kernel, rfl, by decide +kernel, by decide +kernel⟩
structure StoIn where
  A : List (List Rat)
  b : List Rat
  n : Nat
  t : List Nat
  xs : List Rat
def spSto (C : Addr) : Sp := spF (fun (x : StoIn) vs G => F2 [RMat C x.A, RRow C x.b, RI x.t] vs G ∧ TornFit x.A x.b x.n x.t x.xs) (fun x => RRow C x.xs) 3
theorem ev_sol {C CN CM : Addr} {σ : L2.St} {G : Hp} {cs : List (Addr × HO)} {ta tb : TE} {A : List (List Rat)} {bv xs : List Rat} {b c S : Nat} (h1 : EvP ta σ G cs (RMat C A)) (h2 : EvP tb σ G cs (RRow C bv)) (fa : FitA A bv b c S) (e : K97.solveL A bv = .sol xs) :
    EvP (tCall (spSol C CN CM) [] E0 (tCons ta (tCons tb tNil))) σ G cs (RRow C xs) := fun H s hc Q q =>
  (ea_cons h1 (ea_cons h2 ea_nil)) H s hc _ fun vs G1 H1 w1 p1 => by
    rw [List.append_nil]
    refine ⟨p1.len.symm, G1, A, bv, b, c, S, w1.s, p1, fa, ?_⟩
    unfold SolO
    rw [e]
    exact fun v G2 H2 w o => q v G2 H2 (w1.trans w) o
theorem outAt_succ (q : List Rat × Rat) (v : List Rat) (k : Nat) : K97.outAt q v (k + 1) = K97.outAt q v k + at0 q.1 k * at0 v k := by
  unfold K97.outAt
  rw [List.range_succ, List.foldl_append]
  rfl
theorem outAt_sz {q : List Rat × Rat} {v : List Rat} {T c S : Nat} (h1 : RowSz T q.1) (h2 : Sz c q.2) (h3 : RowSz S v) : ∀ k, Sz (c + k * (T + S + 1)) (K97.outAt q v k)
  | 0 => h2.mono (by omega)
  | k + 1 => by
    rw [outAt_succ]
    refine ((outAt_sz h1 h2 h3 k).add ((h1.at k).mul (h3.at k))).mono ?_
    rw [Nat.add_mul]
    omega
section
variable {P : Program} {w : World} {K : PySem.W.Frag} {mg : Str → Option Value} {base : Heap} {C CB CN CM : Addr}
theorem dn_sto (Dd : Df K mg "solve_torn" sSto) (B : Kit P w K mg base C) (D5 : Dn P w K mg base "torn" 5 ["rows", "tears"] (spTor C)) (D6 : Dn P w K mg base "expressed" 5 ["row", "constant", "sums", "size", "column"] (spExp C)) (DX : DnX P w K mg base "solve_linear" 6 ["rows", "constants"] (spSol C CN CM)) :
    Dn P w K mg base "solve_torn" 7 ["rows", "constants", "tears"] (spSto C) := by
  refine dn_of Dd scSto (fun _ _ _ _ _ _ us hl => match us, hl with | [_, _, _], _ => rfl) (fun vs H Q E h => h.1) (fun f cdv A0 outer s H vs Q E hr h => ?_)
  obtain ⟨_, G, ⟨A, b, n, t, xs⟩, sg, ⟨hF, tf⟩, q⟩ := h
  obtain ⟨v0, v1, v2, rfl, h0, h1, h2⟩ := three_of hF
  dsimp only at *
  have nd := scSto.nd
  have hu := hu_of hr
  refine ⟨_, (pss_cons (ps_asg (pe_dn D5 (hr.mono (by decide)) (by rfl) (pa_cons (pv 0) (pa_cons (pv 2) pa_nil))) (pg_tup rfl (pgs_cons (pg_name (i := 3) nd rfl (.inl rfl)) (pgs_cons (pg_name (i := 4) nd rfl (.inl rfl)) pgs_nil))))
  (pss_cons (ps_set (i := 5) nd rfl (.inr rfl) (pe_callB call_len_seq (by rfl) B.len PySem.boot_len (pa_cons (pv 2) pa_nil)))
  (pss_cons (ps_set (i := 6) nd rfl (.inr rfl) pe_dnewK)
  (pss_cons (ps_for PassesOwn.never rfl (pi_enum (by rfl) B.enum (pa_cons (pv 2) pa_nil)) (pg_tup rfl (pgs_cons (pg_name (i := 7) nd rfl (.inr rfl)) (pgs_cons (pg_name (i := 8) nd rfl (.inl rfl)) pgs_nil)))
  (pss_one (ps_dput hu (pv 6) (pv 8) (pe_tup (pa_cons (pe_lc (own := [("k", 9)]) (tt := tYes) rfl nd (pi_range1 (by rfl) B.range (pa_cons (pv 5) pa_nil)) (blkOk_by (N := N_Sto) (sc := defScope sSto) (by decide +kernel)) (fun _ _ _ _ _ => (pg_name (i := 9) nd rfl (.inl rfl))) (fun _ _ _ _ _ => pts_nil) (fun _ _ _ _ _ => (pe_ifExp (pt_cmpR op_eq (pv 9) (pv 7) (nomark _)) (pe_ratio1 B.T B.gd (hr.mono (by decide)) (by rfl) (pa_cons pe_int pa_nil)) (pe_ratio1 B.T B.gd (hr.mono (by decide)) (by rfl) (pa_cons pe_int pa_nil))))) (pa_cons (pe_ratio1 B.T B.gd (hr.mono (by decide)) (by rfl) (pa_cons pe_int pa_nil)) pa_nil))) rfl)))
  (pss_cons (ps_for PassesOwn.never rfl (pi_list (pv 3)) (pg_tup rfl (pgs_cons (pg_name (i := 7) nd rfl (.inr rfl)) (pgs_cons (pg_name (i := 8) nd rfl (.inl rfl)) pgs_nil)))
  (pss_cons (ps_asg (pe_dn D6 (hr.mono (by decide)) (by rfl) (pa_cons (pe_ix ix_list (pv 0) (pv 7) (fun _ _ => rfl)) (pa_cons (pe_ix ix_list (pv 1) (pv 7) (fun _ _ => rfl)) (pa_cons (pv 6) (pa_cons (pv 5) (pa_cons (pv 8) pa_nil)))))) (pg_tup rfl (pgs_cons (pg_name (i := 10) nd rfl (.inl rfl)) (pgs_cons (pg_name (i := 11) nd rfl (.inl rfl)) pgs_nil))))
    (pss_cons (ps_set (i := 12) nd rfl (.inr rfl) (pe_ix ix_list (pe_ix ix_list (pv 0) (pv 7) (fun _ _ => rfl)) (pv 8) (fun _ _ => rfl)))
    (pss_one (ps_dput hu (pv 6) (pv 8) (pe_tup (pa_cons (pe_lc (own := [("value", 17)]) (tt := tYes) rfl nd (pi_list (pv 10)) (blkOk_by (N := N_Sto) (sc := defScope sSto) (by decide +kernel)) (fun _ _ _ _ _ => (pg_name (i := 17) nd rfl (.inl rfl))) (fun _ _ _ _ _ => pts_nil) (fun _ _ _ _ _ => (pe_dn B.quo (hr.mono (by decide)) (by rfl) (pa_cons (pe_un (un_q B (hr.mono (by decide))) (pv 17)) (pa_cons (pv 12) pa_nil))))) (pa_cons (pe_dn B.quo (hr.mono (by decide)) (by rfl) (pa_cons (pv 11) (pa_cons (pv 12) pa_nil))) pa_nil))) rfl)))))
  (pss_cons (ps_setLc (i := 13) (own := [("at", 7)]) (tt := tYes) rfl nd rfl rfl (sw_true rfl rfl rfl (by decide +kernel)) (pi_list (pv 4)) (blkOk_by (N := N_Sto) (sc := defScope sSto) (by decide +kernel)) (fun _ _ _ _ _ => (pg_name (i := 7) nd rfl (.inl rfl))) (fun _ _ _ _ _ => pts_nil) (fun _ _ _ _ _ => (pe_dn D6 (hr.mono (by decide)) (by rfl) (pa_cons (pe_ix (r := rIxL K) ix_list (pv 0) (pv 7) (fun _ _ => rfl)) (pa_cons (pe_ix (r := rIxL K) ix_list (pv 1) (pv 7) (fun _ _ => rfl)) (pa_cons (pv 6) (pa_cons (pv 5) (pa_cons pe_non pa_nil))))))))
  (pss_cons (ps_try_thru0 (pss_one (ps_set (i := 14) nd rfl (.inl rfl) (pe_dnx DX (hr.mono (by decide)) (by rfl) (pa_cons (pe_lc (own := [("row", 18), ("_", 19)]) (g := gTup K 2 (gCons (gName 18) (gCons (gName 19) gNil))) (tt := tYes) rfl nd (pi_list (pv 13)) (blkOk_by (N := N_Sto) (sc := defScope sSto) (by decide +kernel)) (fun _ _ _ _ _ => (pg_tup rfl (pgs_cons (pg_name (i := 18) nd rfl (.inl rfl)) (pgs_cons (pg_name (i := 19) nd rfl (.inl rfl)) pgs_nil)))) (fun _ _ _ _ _ => pts_nil) (fun _ _ _ _ _ => (pv 18)))
      (pa_cons (pe_lc (own := [("_", 19), ("constant", 11)]) (g := gTup K 2 (gCons (gName 19) (gCons (gName 11) gNil))) (tt := tYes) rfl nd (pi_list (pv 13)) (blkOk_by (N := N_Sto) (sc := defScope sSto) (by decide +kernel)) (fun _ _ _ _ _ => (pg_tup rfl (pgs_cons (pg_name (i := 19) nd rfl (.inl rfl)) (pgs_cons (pg_name (i := 11) nd rfl (.inl rfl)) pgs_nil)))) (fun _ _ _ _ _ => pts_nil) (fun _ _ _ _ _ => (pv 11))) pa_nil))))))
  (pss_cons (ps_set (i := 15) nd rfl (.inl rfl) (pe_lst pa_nil))
  (pss_cons (ps_for PassesOwn.never rfl (pi_range1 (by rfl) B.range (pa_cons (pe_callB call_len_seq (by rfl) B.len PySem.boot_len (pa_cons (pv 0) pa_nil)) pa_nil)) (pg_name (i := 8) nd rfl (.inl rfl))
  (pss_cons (ps_asg (pe_dget hu (pv 6) (pv 8) (fun _ _ => rfl)) (pg_tup rfl (pgs_cons (pg_name (i := 16) nd rfl (.inl rfl)) (pgs_cons (pg_name (i := 11) nd rfl (.inl rfl)) pgs_nil))))
    (pss_cons (ps_for PassesOwn.never rfl (pi_range1 (by rfl) B.range (pa_cons (pv 5) pa_nil)) (pg_name (i := 9) nd rfl (.inl rfl))
    (pss_one (ps_set (i := 11) nd rfl (.inl rfl) (pe_op (op_qadd B (hr.mono (by decide))) (pv 11) (pe_op (op_qmul B (hr.mono (by decide))) (pe_ix ix_list (pv 16) (pv 9) (fun _ _ => rfl)) (pe_ix ix_list (pv 14) (pv 9) (fun _ _ => rfl)))))))
    (pss_one (ps_expr (pe_bm PySem.F.plainAttrs_list PySem.F.slot_list_append PySem.F.type_list_append mt_append (pv 15) (pa_cons (pv 11) pa_nil)))))))
  (pss_one (ps_ret (pv 15)))))))))))), ?_⟩
  have c := Cel.start sg
  have T := K97.torn_ok tf.sq tf.reg tf.tears tf.sol tf.lx
  obtain ⟨l1, l2, l3, l4⟩ := tf.lens
  have few := tf.few
  obtain ⟨_, _, fitO, fitR⟩ := torn_fit (causal A t).length (by omega) t.length (by omega) (by omega)
  have pre : TearPre ⟨A, t⟩ := ⟨tf.tears.nd, fun r hr => by have := tf.sq.row r hr; omega, (by show A.length ≤ 100; omega), (by show t.length ≤ 100; omega)⟩
  refine q_tup2 (P1 := RPs (causal A t)) (P2 := RI (restOf A (causal A t))) c (ev_callF (In := _) (Out := _) (n := 2) (⟨A, t⟩ : TearIn) (ea_cons (ev_var rfl h0) (ea_cons (ev_var rfl h2) ea_nil)) (F2.length_is rfl) (fun vs G2 s f => ⟨f, pre, by show (causal A t).length + t.length = A.length; omega⟩)) fun vp vr G1 H1 c1 s1 pp pr => ?_
  refine q_set c1 (P := RV (.int (t.length : Int))) (EvP.is (ev_len (ev_var rfl (up s1 h2))) (by rw [List.length_map])) fun vn G2 H2 c2 s2 pn => ?_
  obtain rfl : vn = _ := pn
  refine q_setN c2 en_dK fun dd o G3 H3 c3 s3 ho => ?_
  subst ho
  have s13 := (s1.trans s2).trans s3
  refine q_for (cs' := []) c3 (ew_enum (Rs := t.map fun i : Nat => RV (.int (i : Int))) (ea_cons (ev_var rfl (up s13 h2)) ea_nil))
    (fun i s' g h => ∃ o7 o8 kvs, s' = [some v0, some v1, some v2, some vp, some vr, some (.int (t.length : Int)), some (.ref dd), o7, o8, none, none, none, none, none, none, none, none, none, none, none] ∧ Cel G H g h [(dd, .dK kvs)] ∧ L2.Same G3 g ∧ SumR C t.length (tearTo t i) kvs g)
    (fun i s' g h ⟨_, _, _, _, cc, _⟩ => ⟨cc.s, .nil⟩) (fun G4 H4 c4 s4 => ⟨none, none, [], rfl, c4, s4, fun j hj => by simp [tearTo] at hj, Nat.le_refl _⟩) ?_ ?_
  · rintro i s' g h x hi sg' ⟨o7, o8, kvs, rfl, cc, sG, hS⟩ g2 h2' w2 hY
    rw [List.length_map] at hi
    have cc2 := cc.go w2
    refine g_tup2 hY cc2.s fun yi yc q1 q2 => ?_
    obtain rfl : yi = .int (i : Int) := q1
    have q2 := q2.of (map_get hi)
    obtain rfl : yc = _ := q2
    have hfew := hS.few
    have hkl : (tearTo t i).length = i := by unfold tearTo; rw [List.length_map, List.length_range]
    refine s_dputK (k := .inl ((t[i] : Nat) : Int)) (P := RSm C (unitT t.length i, 0)) cc2 (ev_tup (ea_cons (ev_row (C := C) (g := fun j => if j = i then 1 else 0) (ev_lcA (ew_range (n := t.length) (ea_cons (ev_var rfl rfl) ea_nil) (by omega)) (by omega) _ fun j x g' hj sg' hY h' s' kk qq => ?_)) (ea_cons (ev_q0 (C := C) ev_c) ea_nil))) (ev_var rfl rfl) (ev_var rfl rfl) (by omega) fun vv g4 h4 c4 s4 p4 => ?_
    · obtain rfl : x = _ := hY
      refine qq _ rfl (ev_if (et_test (ev_op (ev_var rfl rfl) (ev_var rfl rfl) (rv_eq rfl))) (fun hb => ?_) (fun hb => ?_))
      · have : j = i := by
          have := of_decide_eq_true hb
          injection this with this
          omega
        rw [if_pos this]
        exact ev_q1 ev_c
      · have : ¬ j = i := fun z => by
          have := of_decide_eq_false hb
          exact this (by rw [z])
        rw [if_neg this]
        exact ev_q0 ev_c
    · refine ⟨g4, w2.g.trans s4, _, _, _, rfl, c4, (sG.trans w2.g).trans s4, ?_⟩
      rw [tearTo_succ, getD_is (List.getElem?_eq_getElem hi)]
      refine (hS.mono (w2.g.trans s4)).put ?_ p4
      rw [tearTo_keys t i (by omega)]
      exact not_take tf.tears.nd hi
  rintro s' g h sg' ⟨o7, o8, kvs, rfl, cc, sG, hS⟩
  rw [List.length_map, tearTo_all] at hS
  have sG0 := s13.trans sG
  refine q_for (cs' := []) cc (ew_list (Rs := (causal A t).map RP) (ev_var rfl (up ((s2.trans s3).trans sG) pp)))
    (fun i s' g' h => ∃ o7 o8 o10 o11 o12 kvs, s' = [some v0, some v1, some v2, some vp, some vr, some (.int (t.length : Int)), some (.ref dd), o7, o8, none, o10, o11, o12, none, none, none, none, none, none, none] ∧ Cel G H g' h [(dd, .dK kvs)] ∧ L2.Same g g' ∧ SumR C t.length (pairsTo A b t (causal A t) i) kvs g')
    (fun i s' g h ⟨_, _, _, _, _, _, _, cc, _⟩ => ⟨cc.s, .nil⟩) (fun G4 H4 c4 s4 => ⟨_, _, none, none, none, kvs, rfl, c4, s4, hS.mono s4⟩) ?_ ?_
  · rintro i s' g1 h1' x hi sg1 ⟨p7, p8, p10, p11, p12, kvs1, rfl, cc1, sG1, hS1⟩ g2 h2' w2 hY
    rw [List.length_map] at hi
    have hp := List.getElem?_eq_getElem hi
    have hY := hY.map hp
    generalize (causal A t)[i] = p at hp hY
    have hsz := tf.pairs i (by omega)
    obtain ⟨b1, b2, b3, bkey, bnk, bcnt, bz1, bz2, _⟩ := tf.pair hp hsz
    obtain ⟨f1, f2⟩ := pair_fit i (by omega)
    have cc2 := cc1.go w2
    refine g_tup2 hY cc2.s fun yi yc q1 q2 => ?_
    obtain rfl : yi = _ := q1
    obtain rfl : yc = _ := q2
    have sA := (sG0.trans sG1).trans w2.g
    have hrl : (K97.row A p.1).length = n := tf.sq.row _ (K97.row_mem (by omega))
    have hkf := hS1.few
    have hkl : (pairsTo A b t (causal A t) i).length ≤ 5 := by
      have e := congrArg List.length (pairsTo_keys A b t (causal A t) i (by omega))
      rw [List.length_map, List.length_append, List.length_map, List.length_take] at e
      omega
    have bm : K97.row A p.1 ∈ A := K97.row_mem (by omega)
    refine q_tup2 (P1 := RRow C (expressed (K97.row A p.1) (at0 b p.1) (pairsTo A b t (causal A t) i) t.length (some p.2)).1) (P2 := RQ C (expressed (K97.row A p.1) (at0 b p.1) (pairsTo A b t (causal A t) i) t.length (some p.2)).2) cc2
      (ev_callC (In := _) (cells := _) (Out := _) (n := 5) (⟨K97.row A p.1, at0 b p.1, pairsTo A b t (causal A t) i, t.length, some p.2, dd, kvs1, tz i, cz i⟩ : ExpIn) (ea_cons (ev_op (ev_var rfl (up sA h0)) (ev_var rfl rfl) (rv_ixL (mat_get (by omega)))) (ea_cons (ev_ixR (ev_var rfl (up sA h1)) (ev_var rfl rfl) (by rw [tf.lb]; exact b1)) (ea_cons (P1 := RV (.ref dd)) (ev_var rfl rfl) (ea_cons (P1 := RV (.int (t.length : Int))) (ev_var rfl rfl) (ea_cons (P1 := RV (.int (p.2 : Int))) (ev_var rfl rfl) ea_nil))))) (F2.length_is rfl)
        (fun vs G2 s f => ⟨f, ⟨hS1.mono (w2.g.trans s), bkey, tf.szA _ bm, tf.szb.at _, hsz, Nat.le_trans (Nat.mul_le_mul_right _ bcnt) (by show 4 * (tz i + 3) ≤ 13300; omega), Nat.le_trans (Nat.add_le_add_left (Nat.mul_le_mul_right _ bcnt) _) (by show 2 + 4 * (cz i + 3) ≤ 13300; omega), (by show t.length ≤ 100; omega), (by show (K97.row A p.1).length ≤ 100; omega)⟩⟩) (by simp) (by simp)) fun vf vc g3 h3 c3 s3 p3 p4 => ?_
    have hel := K97.exprTo_len (K97.row A p.1) (at0 b p.1) (pairsTo A b t (causal A t) i) t.length (some p.2) (K97.row A p.1).length
    have hel : (expressed (K97.row A p.1) (at0 b p.1) (pairsTo A b t (causal A t) i) t.length (some p.2)).1.length = t.length := hel
    have hstep := pairsTo_succ (A := A) (b := b) (t := t) hp
    unfold pairStep at hstep
    generalize expressed (K97.row A p.1) (at0 b p.1) (pairsTo A b t (causal A t) i) t.length (some p.2) = eq at p3 p4 bz1 bz2 hel hstep
    have hlsz : Sz 2 (K97.ent A p.1 p.2) := (tf.szA _ bm).at _
    refine q_set c3 (P := RQ C (K97.ent A p.1 p.2)) (ev_ixR (ev_op (ev_var rfl (up (sA.trans s3) h0)) (ev_var rfl rfl) (rv_ixL (mat_get (by omega)))) (ev_var rfl rfl) (by rw [hrl]; exact b2)) fun vl g4 h4 c4 s4 p5 => ?_
    refine s_dputK (k := .inl (p.2 : Int)) (P := RSm C (eq.1.map (fun v => -v / K97.ent A p.1 p.2), eq.2 / K97.ent A p.1 p.2)) c4 (ev_tup (ea_cons (P1 := RRow C (eq.1.map (fun v => -v / K97.ent A p.1 p.2))) ?_ (ea_cons (ev_quo (ev_var rfl (up s4 p4)) (ev_var rfl p5) (fit_of bz2 hlsz (by omega)) b3) ea_nil))) (ev_var rfl rfl) (ev_var rfl rfl) (by omega) fun vv g5 h5 c5 s5 p6 => ?_
    · have e := range_getD eq.1 0 fun v => -v / K97.ent A p.1 p.2
      rw [← e]
      refine ev_row (C := C) (g := fun j => -(eq.1.getD j 0) / K97.ent A p.1 p.2) (ev_lcA (ew_listN (Rs := eq.1.map (RQ C)) (ev_var rfl (up s4 p3)) (by rw [List.length_map])) (by omega) _ fun j x g' hj sg' hY h' s' kk qq => ?_)
      have hY := hY.of (row_get hj)
      refine qq _ rfl (ev_quo (ev_qneg (ev_var rfl hY) ((bz1.at j).mono (by omega))) (ev_var rfl (up sg' p5)) (fit_of (bz1.at j).neg hlsz (by omega)) b3)
    · refine ⟨g5, ((w2.g.trans s3).trans s4).trans s5, _, _, _, _, _, _, rfl, c5, sG1.trans (((w2.g.trans s3).trans s4).trans s5), ?_⟩
      rw [hstep]
      exact (hS1.mono (((w2.g.trans s3).trans s4).trans s5)).put bnk p6
  rintro s' g1 h1' sg1 ⟨p7, p8, p10, p11, p12, kvs1, rfl, cc1, sG1, hS1⟩
  rw [List.length_map, pairsTo_all] at hS1
  have hsz := tf.pairs _ (Nat.le_refl _)
  rw [pairsTo_all] at hsz
  have sA := sG0.trans sG1
  have hrestl := T.rest
  have hsA : (K97.smallA A b t) = (restOf A (causal A t)).map fun i => (expressed (K97.row A i) (at0 b i) (sumsOf A b t (causal A t)) t.length none).1 := by
    unfold K97.smallA K97.smallOf
    rw [List.map_map]
    rfl
  have hsB : (K97.smallB A b t) = (restOf A (causal A t)).map fun i => (expressed (K97.row A i) (at0 b i) (sumsOf A b t (causal A t)) t.length none).2 := by
    unfold K97.smallB K97.smallOf
    rw [List.map_map]
    rfl
  refine q_set cc1 (P := RL ((restOf A (causal A t)).map fun i => RSm C (expressed (K97.row A i) (at0 b i) (sumsOf A b t (causal A t)) t.length none))) ?_ fun vs1 g2 h2' c2 s2' p2 => ?_
  · rw [← range_getD (restOf A (causal A t)) 0 fun i => RSm C (expressed (K97.row A i) (at0 b i) (sumsOf A b t (causal A t)) t.length none)]
    refine ev_lcA (ew_listN (Rs := (restOf A (causal A t)).map fun i : Nat => RV (.int (i : Int))) (ev_var rfl (up (((s2.trans s3).trans sG).trans sG1) pr)) (by rw [List.length_map])) (by omega) _ fun j x g' hj sg' hY h' s' kk qq => ?_
    have hej := List.getElem?_eq_getElem hj
    have hY := hY.map hej
    have hi := rest_lt (A := A) _ (List.getElem_mem hj)
    refine qq _ rfl ?_
    simp only [getD_is hej]
    generalize (restOf A (causal A t))[j] = i at hY hi
    obtain rfl : x = _ := hY
    obtain ⟨rk, rc, rz1, rz2⟩ := tf.rest (i := i) (by omega)
    obtain ⟨fr1, fr2⟩ := fitR (by omega)
    have hrl : (K97.row A i).length = n := tf.sq.row _ (K97.row_mem hi)
    exact (ev_callC (In := _) (cells := _) (Out := _) (n := 5) (⟨K97.row A i, at0 b i, sumsOf A b t (causal A t), t.length, none, dd, kvs1, tz (causal A t).length, cz (causal A t).length⟩ : ExpIn) (ea_cons (ev_op (ev_var rfl (up (sA.trans sg') h0)) (ev_var rfl rfl) (rv_ixL (mat_get hi))) (ea_cons (ev_ixR (ev_var rfl (up (sA.trans sg') h1)) (ev_var rfl rfl) (by rw [tf.lb]; omega)) (ea_cons (P1 := RV (.ref dd)) (ev_var rfl rfl) (ea_cons (P1 := RV (.int (t.length : Int))) (ev_var rfl rfl) (ea_cons (P1 := RV .non) ev_c ea_nil))))) (F2.length_is rfl)
        (fun vs G2 s f => ⟨f, ⟨hS1.mono (sg'.trans s), rk, tf.szA _ (K97.row_mem hi), tf.szb.at _, hsz, Nat.le_trans (Nat.mul_le_mul_right _ rc) fr1, Nat.le_trans (Nat.add_le_add_left (Nat.mul_le_mul_right _ rc) _) fr2, (by show t.length ≤ 100; omega), (by show (K97.row A i).length ≤ 100; omega)⟩⟩) (by simp) (by simp))
  have hfit := tf.small
  have hrl5 : (restOf A (causal A t)).length ≤ 100 := by omega
  have hmem : ∀ {gg : Hp}, L2.Same g2 gg → RL ((restOf A (causal A t)).map fun i => RSm C (expressed (K97.row A i) (at0 b i) (sumsOf A b t (causal A t)) t.length none)) vs1 gg := fun {gg} s => up s p2
  refine q_set c2 (P := RRow C (t.map fun j => at0 xs j)) (ev_sol (A := K97.smallA A b t) (bv := K97.smallB A b t) ?_ ?_ hfit T.told) fun vv g3 h3 c3 s3' p3 => ?_
  · rw [hsA]
    unfold RMat
    rw [List.map_map]
    show EvP _ _ _ _ (RL ((restOf A (causal A t)).map fun i => RRow C (expressed (K97.row A i) (at0 b i) (sumsOf A b t (causal A t)) t.length none).1))
    rw [← range_getD (restOf A (causal A t)) 0 fun i => RRow C (expressed (K97.row A i) (at0 b i) (sumsOf A b t (causal A t)) t.length none).1]
    refine ev_lcA (ew_listN (Rs := (restOf A (causal A t)).map fun i => RSm C (expressed (K97.row A i) (at0 b i) (sumsOf A b t (causal A t)) t.length none)) (ev_var rfl p2) (by rw [List.length_map])) (by omega) _ fun j x g' hj sg' hY h' s' kk qq => ?_
    have hej := List.getElem?_eq_getElem hj
    have hY := hY.map hej
    refine g_tup2 hY s' fun y z q1 q2 => ?_
    refine qq _ rfl ?_
    simp only [getD_is hej]
    exact ev_var rfl q1
  · rw [hsB]
    unfold RRow
    rw [List.map_map]
    show EvP _ _ _ _ (RL ((restOf A (causal A t)).map fun i => RQ C (expressed (K97.row A i) (at0 b i) (sumsOf A b t (causal A t)) t.length none).2))
    rw [← range_getD (restOf A (causal A t)) 0 fun i => RQ C (expressed (K97.row A i) (at0 b i) (sumsOf A b t (causal A t)) t.length none).2]
    refine ev_lcA (ew_listN (Rs := (restOf A (causal A t)).map fun i => RSm C (expressed (K97.row A i) (at0 b i) (sumsOf A b t (causal A t)) t.length none)) (ev_var rfl p2) (by rw [List.length_map])) (by omega) _ fun j x g' hj sg' hY h' s' kk qq => ?_
    have hej := List.getElem?_eq_getElem hj
    have hY := hY.map hej
    refine g_tup2 hY s' fun y z q1 q2 => ?_
    refine qq _ rfl ?_
    simp only [getD_is hej]
    exact ev_var rfl q2
  refine q_setN c3 en_nil fun lr o g4 h4 c4 s4' ho => ?_
  subst ho
  have s24 := s3'.trans s4'
  have c4 := c4.swap
  have hS4 := hS1.mono (s2'.trans s24)
  refine q_for (cs' := []) c4 (ew_range (n := n) (ea_cons (EvP.is (ev_len (ev_var rfl (up ((sA.trans s2').trans s24) h0))) (by rw [List.length_map, l4])) ea_nil) (by omega))
    (fun i s' g' h => ∃ o8 o9 o11 o16 rs, s' = [some v0, some v1, some v2, some vp, some vr, some (.int (t.length : Int)), some (.ref dd), p7, o8, o9, p10, o11, p12, some vs1, some vv, some (.ref lr), o16, none, none, none] ∧ Cel G H g' h [(lr, .lst rs), (dd, .dK kvs1)] ∧ L2.Same g4 g' ∧
      F2 ((List.range i).map fun j => RQ C (K97.outAt (smAt (sumsOf A b t (causal A t)) t.length j) (t.map fun j => at0 xs j) t.length)) rs g')
    (fun i s' g h ⟨_, _, _, _, _, _, cc, _⟩ => ⟨cc.s, .nil⟩) (fun G5 H5 c5 s5 => ⟨_, _, _, _, [], rfl, c5.swap, s5, trivial⟩) ?_ ?_
  · rintro i s' g5 h5 x hi sg5 ⟨o8', o9', o11', o16', rs, rfl, cc5, sG5, hrs⟩ g6 h6 w6 hY
    obtain rfl : x = _ := hY
    have cc6 := cc5.go w6
    have hmk := T.keys i hi
    obtain ⟨k1, k2, k3⟩ := hsz i hmk
    obtain ⟨vg, hvg, hRg⟩ := hS4.get i hmk
    refine q_tup2 cc6 (ev_dgetK (k := .inl (i : Int)) (P := RSm C (smAt (sumsOf A b t (causal A t)) t.length i)) mem_2 (.inl rfl) (ev_var rfl rfl) (ev_var rfl rfl) hvg (up (sG5.trans w6.g) hRg)) fun vco vcc g7 h7 c7 s7 p71 p72 => ?_
    have osz := outAt_sz (S := 127) k1 k2 (v := t.map fun j => at0 xs j) (fun q hq => by
      obtain ⟨j, _, rfl⟩ := List.mem_map.mp hq
      exact tf.szx.at j)
    have fitO2 : ∀ k, k ≤ t.length → cz (causal A t).length + k * (tz (causal A t).length + 127 + 1) ≤ 13200 := fun k hk => Nat.le_trans (Nat.add_le_add_left (Nat.mul_le_mul_right _ hk) _) fitO
    generalize hsm : smAt (sumsOf A b t (causal A t)) t.length i = sm at *
    have s67 := (sG5.trans w6.g).trans s7
    refine q_for (cs' := []) c7 (ew_range (n := t.length) (ea_cons (ev_var rfl rfl) ea_nil) (by omega))
      (fun k s' g' h => ∃ o9 vc, s' = [some v0, some v1, some v2, some vp, some vr, some (.int (t.length : Int)), some (.ref dd), p7, some (.int (i : Int)), o9, p10, some vc, p12, some vs1, some vv, some (.ref lr), some vco, none, none, none] ∧ Cel G H g' h [(lr, .lst rs), (dd, .dK kvs1)] ∧ L2.Same g7 g' ∧ RQ C (K97.outAt sm (t.map fun j => at0 xs j) k) vc g')
      (fun i s' g h ⟨_, _, _, cc, _⟩ => ⟨cc.s, .nil⟩) (fun G8 H8 c8 s8 => ⟨_, vcc, rfl, c8, s8, up s8 p72⟩) ?_ ?_
    · rintro k s' g8 h8 x8 hk sg8 ⟨o9, vc, rfl, c8, sG8, pc⟩ g9 h9 w9 hY9
      obtain rfl : x8 = _ := hY9
      have c9 := c8.go w9
      have f3 := fitO2 (k + 1) (by omega)
      rw [Nat.add_mul] at f3
      have hvsz : Sz 127 (at0 (t.map fun j => at0 xs j) k) := RowSz.at (fun q hq => by
        obtain ⟨j, _, rfl⟩ := List.mem_map.mp hq
        exact tf.szx.at j) k
      refine s_set c9 (ev_qop (ev_var rfl (up w9.g pc)) (ev_qop (ev_ixR (ev_var rfl (up (sG8.trans w9.g) p71)) (ev_var rfl rfl) (by rw [k3]; exact hk)) (ev_ixR (ev_var rfl (up ((s4'.trans s67).trans (sG8.trans w9.g)) p3)) (ev_var rfl rfl) (by rw [List.length_map]; exact hk)) ?_) ?_) fun vn g10 h10 c10 s10 p10' => ?_
      · exact fit_of (k1.at k) hvsz (by omega)
      · exact fit_of (osz k) ((k1.at k).mul hvsz) (by omega)
      · refine ⟨g10, w9.g.trans s10, _, vn, rfl, c10, (sG8.trans w9.g).trans s10, ?_⟩
        rw [outAt_succ]
        exact p10'
    · rintro s' g8 h8 sg8 ⟨o9, vc, rfl, c8, sG8, pc⟩
      refine s_app c8 rfl (ev_var rfl pc) (by rw [← hrs.len, List.length_map, List.length_range]; omega) fun vn g9 h9 c9 s9 p9 => ?_
      refine ⟨g9, ((w6.g.trans s7).trans sG8).trans s9, _, _, _, _, rs ++ [vn], rfl, c9, (s67.trans sG8).trans s9, ?_⟩
      rw [List.range_succ, List.map_append]
      refine (hrs.mono moA_map.mo (((w6.g.trans s7).trans sG8).trans s9)).snoc ?_
      show RQ C (K97.outAt (smAt (sumsOf A b t (causal A t)) t.length i) (t.map fun j => at0 xs j) t.length) vn g9
      rw [hsm]
      exact p9
  · rintro s' g5 h5 sg5 ⟨o8', o9', o11', o16', rs, rfl, cc5, sG5, hrs⟩
    obtain ⟨c6, s6⟩ := cc5.freeze
    refine s_ret c6 (ev_var rfl (P := RRow C xs) ⟨lr, rs, rfl, upd_same, ?_⟩) fun v g8 h8 c8 s8 p8 => q v g8 h8 c8.w p8
    have e := T.out
    unfold K97.tornOut at e
    rw [l4] at e
    have hrs2 := hrs.mono (moA_map (f := fun j => RQ C (K97.outAt (smAt (sumsOf A b t (causal A t)) t.length j) (t.map fun j => at0 xs j) t.length))).mo s6
    rw [← e, List.map_map]
    exact hrs2
end
end KW
end
section
set_option Elab.async false
set_option linter.all false
set_option maxRecDepth 100000
set_option maxHeartbeats 2000000
namespace KW
open PySem PySem.Spec PyProof.Rows L2
open K97 (Gr OW jn putO augL kuhn Ow uns)
/-! ### names and keys -/
def eS (i : Nat) : Str := Str.ofString "e" ++ Str.ofString (toString ((i : Nat) : Int))
def xS (i : Nat) : Str := Str.ofString "x" ++ Str.ofString (toString ((i : Nat) : Int))
def eK (i : Nat) : L2.Key := .inr (eS i)
def kK (i : Nat) : List L2.Key := [.inr (Str.ofString "var"), .inr (xS i), .inl 0]
theorem eS_inj8 : ∀ i < 8, ∀ j < 8, eS i = eS j → i = j := by decide +kernel
theorem xS_inj8 : ∀ i < 8, ∀ j < 8, xS i = xS j → i = j := by decide +kernel
theorem eK_inj {i j : Nat} (hi : i < 8) (hj : j < 8) (h : eK i = eK j) : i = j := eS_inj8 i hi j hj (by unfold eK at h; injection h)
theorem kK_inj {i j : Nat} (hi : i < 8) (hj : j < 8) (h : kK i = kK j) : i = j := xS_inj8 i hi j hj (by
  unfold kK at h
  injection h with _ h
  injection h with h _
  injection h)
/-- the owners as they stand in the dict -/
def oV (o : OW) : List (List L2.Key × V) := o.map fun p => (kK p.1, .str (eS p.2))
def sV (s : List Nat) : List (List L2.Key × V) := s.map fun k => (kK k, .bl true)
theorem look_oV {o : OW} {k : Nat} (ho : ∀ p ∈ o, p.1 < 8) (hk : k < 8) : valV (oV o) (kK k) = (o.lookup k).map fun nm => .str (eS nm) := by
  induction o with
  | nil => rfl
  | cons a r ih =>
    obtain ⟨x, y⟩ := a
    have h0 := ho (x, y) List.mem_cons_self
    have ih := ih fun p hp => ho p (List.mem_cons_of_mem _ hp)
    by_cases e : k = x
    · subst e
      show valV ((kK k, .str (eS y)) :: oV r) (kK k) = _
      rw [valV_pos rfl]
      simp [List.lookup]
    · show valV ((kK x, .str (eS y)) :: oV r) (kK k) = _
      rw [valV_neg (fun z => e (kK_inj hk h0 z.symm)), ih]
      simp [List.lookup, beq_eq_false_iff_ne.mpr e]
theorem map_oV {k nm w : Nat} (hk : k < 8) : ∀ (o : OW), (∀ p ∈ o, p.1 < 8) → (o.map (·.1)).Nodup → o.lookup k = some w → (oV o).map (fun kv => if kv.1 = kK k then (kv.1, V.str (eS nm)) else kv) = oV (putO k nm o)
  | [], _, _, e => by cases e
  | (x, y) :: r, ho, hn, e => by
    have h0 := ho (x, y) List.mem_cons_self
    rw [List.map_cons, List.nodup_cons] at hn
    show (if kK x = kK k then (kK x, V.str (eS nm)) else (kK x, V.str (eS y))) :: (oV r).map _ = _
    by_cases z : x = k
    · subst z
      rw [if_pos rfl]
      unfold putO
      rw [if_pos rfl]
      show _ = (kK x, V.str (eS nm)) :: oV r
      congr 1
      conv => rhs; rw [← List.map_id (oV r)]
      refine List.map_congr_left fun p hp => ?_
      obtain ⟨q, hq, rfl⟩ := List.mem_map.mp hp
      rw [if_neg]
      · rfl
      · intro z
        have := kK_inj (ho q (List.mem_cons_of_mem _ hq)) hk z
        exact hn.1 (this ▸ List.mem_map.mpr ⟨q, hq, rfl⟩)
    · rw [if_neg fun q => z (kK_inj h0 hk q)]
      unfold putO
      rw [if_neg z]
      show _ = (kK x, V.str (eS y)) :: oV (putO k nm r)
      rw [map_oV hk r (fun p hp => ho p (List.mem_cons_of_mem _ hp)) hn.2 (by simpa [List.lookup, beq_eq_false_iff_ne.mpr (Ne.symm z)] using e)]
theorem put_oV {o : OW} {k nm : Nat} (ho : ∀ p ∈ o, p.1 < 8) (hn : (o.map (·.1)).Nodup) (hk : k < 8) : putK (oV o) (kK k) (.str (eS nm)) = oV (putO k nm o) := by
  cases e : o.lookup k with
  | none =>
    rw [putK_new _ (by rw [look_oV ho hk, e]; rfl), K97.putO_new e]
    unfold oV
    rw [List.map_append]
    rfl
  | some w =>
    unfold putK
    rw [if_pos (by rw [valV_any, look_oV ho hk, e]; rfl)]
    exact map_oV hk o ho hn e
theorem has_sV {s : List Nat} {k : Nat} (hs : ∀ x ∈ s, x < 8) (hk : k < 8) : (valV (sV s) (kK k)).isSome = s.contains k := by
  rw [Bool.eq_iff_iff, valV_hasP, List.contains_iff_mem]
  unfold sV
  rw [List.map_map]
  constructor
  · intro h
    obtain ⟨x, hx, e⟩ := List.mem_map.mp h
    exact kK_inj (hs x hx) hk e ▸ hx
  · exact fun h => List.mem_map.mpr ⟨k, h, rfl⟩
theorem put_sV {s : List Nat} {k : Nat} (hs : ∀ x ∈ s, x < 8) (hk : k < 8) (hn : k ∉ s) : putK (sV s) (kK k) (.bl true) = sV (s ++ [k]) := by
  rw [putK_new]
  · unfold sV; rw [List.map_append]; rfl
  · have := has_sV hs hk
    rw [show s.contains k = false by simpa using hn] at this
    cases h : valV (sV s) (kK k) with
    | none => rfl
    | some v => rw [h] at this; cases this
theorem drop_sV {s : List Nat} {k : Nat} (hs : ∀ x ∈ s, x < 8) (hk : k < 8) (hn : k ∉ s) : dropK (sV (s ++ [k])) (kK k) = sV s := by
  unfold dropK sV
  rw [List.map_append, List.filter_append]
  have h1 : (s.map fun k => (kK k, V.bl true)).filter (fun kv => decide (kv.1 ≠ kK k)) = s.map fun k => (kK k, V.bl true) := List.filter_eq_self.mpr fun p hp => by
    obtain ⟨x, hx, rfl⟩ := List.mem_map.mp hp
    exact decide_eq_true fun z => hn (kK_inj (hs x hx) hk z ▸ hx)
  rw [h1]
  simp
def RKs (ks : List Nat) : VP := RL (ks.map fun k => RK (kK k))
instance {ks : List Nat} : Mo (RKs ks) := inferInstanceAs (Mo (RL _))
def RS (i : Nat) : VP := RV (.str (eS i))
instance {i : Nat} : Mo (RS i) := inferInstanceAs (Mo (RV _))
def RSs (l : List Nat) : VP := RL (l.map RS)
instance {l : List Nat} : Mo (RSs l) := inferInstanceAs (Mo (RL _))
/-- a dict of the graph: what each name joins -/
structure JR (N : Gr) (jvs : List (L2.Key × V)) (G : Hp) : Prop where
  get : ∀ i : Nat, i ∈ N.map (·.1) → ∃ v, valV jvs (eK i) = some v ∧ RKs (jn N i) v G
theorem JR.mono {N : Gr} {jvs : List (L2.Key × V)} {G G' : Hp} (h : JR N jvs G) (e : L2.Same G G') : JR N jvs G' := ⟨fun i hi => by
  obtain ⟨v, h1, h2⟩ := h.get i hi
  exact ⟨v, h1, up e h2⟩⟩
/-- the graph is small -/
structure GOk (N : Gr) (U : List Nat) : Prop where
  sub : ∀ nm, ∀ k ∈ jn N nm, k ∈ U
  lt : ∀ k ∈ U, k < 8
  few : U.length < 7
  nm : ∀ p ∈ N, p.1 < 8
  len : ∀ nm, (jn N nm).length ≤ 100
theorem jn_in {N : Gr} {nm k : Nat} (h : k ∈ jn N nm) : nm ∈ N.map (·.1) := by
  unfold K97.jn at h
  cases e : N.lookup nm with
  | none => rw [e] at h; simp at h
  | some l =>
    clear h
    induction N with
    | nil => cases e
    | cons a r ih =>
      obtain ⟨x, y⟩ := a
      by_cases z : nm = x
      · subst z; exact List.mem_cons_self
      · simp [List.lookup, beq_eq_false_iff_ne.mpr z] at e
        exact List.mem_cons_of_mem _ (ih e)
theorem GOk.nm8 {N : Gr} {U : List Nat} (h : GOk N U) {i : Nat} (hi : i ∈ N.map (·.1)) : i < 8 := by
  obtain ⟨p, hp, rfl⟩ := List.mem_map.mp hi
  exact h.nm p hp
theorem GOk.key8 {N : Gr} {U : List Nat} (h : GOk N U) {o : OW} (ho : Ow N o) : ∀ p ∈ o, p.1 < 8 := fun p hp => h.lt _ (h.sub _ _ (ho.ok p hp))
theorem GOk.len8 {N : Gr} {U : List Nat} (h : GOk N U) {o : OW} (ho : Ow N o) : o.length ≤ 100 := by
  have := K97.nodup_le ho.nd (m := U) fun x hx => by
    obtain ⟨p, hp, rfl⟩ := List.mem_map.mp hx
    exact h.sub _ _ (ho.ok p hp)
  rw [List.length_map] at this
  have := h.few
  omega
theorem augL_sub {U : List Nat} {rec : OW → List Nat → Nat → K97.AugR} (hrec : ∀ o s nm, (∀ x ∈ s, x ∈ U) → ∀ x ∈ (rec o s nm).2.2, x ∈ U) (name : Nat) : ∀ (ks : List Nat) (o : OW) (s : List Nat), (∀ x ∈ s, x ∈ U) → (∀ k ∈ ks, k ∈ U) → ∀ x ∈ (augL rec name ks o s).2.2, x ∈ U
  | [], _, _, hs, _ => hs
  | k :: ks, o, s, hs, hk => by
    have hs2 : ∀ x ∈ s ++ [k], x ∈ U := fun x hx => by
      rcases List.mem_append.mp hx with hx | hx
      · exact hs x hx
      · rw [List.mem_singleton.mp hx]; exact hk k List.mem_cons_self
    have ht : ∀ j ∈ ks, j ∈ U := fun j hj => hk j (List.mem_cons_of_mem _ hj)
    unfold augL
    split
    · exact augL_sub hrec name ks o s hs ht
    · split
      · exact hs2
      · rename_i nm _
        split
        · exact hrec _ _ _ hs2
        · exact augL_sub hrec name ks _ _ (hrec _ _ _ hs2) ht
theorem kuhn_sub {N : Gr} {U : List Nat} (h : ∀ nm, ∀ k ∈ jn N nm, k ∈ U) : ∀ (f : Nat) (o : OW) (s : List Nat) (nm : Nat), (∀ x ∈ s, x ∈ U) → ∀ x ∈ (kuhn N f o s nm).2.2, x ∈ U
  | 0, _, _, _, hs => hs
  | f + 1, o, s, nm, hs => augL_sub (fun o s nm hs => kuhn_sub h f o s nm hs) nm _ o s hs (h nm)
/-! ### calls that write two of the caller's cells -/
section
variable {G0 H0 G H G2 H2 : Hp} {cs : List (Addr × HO)} {a b : Addr} {oa ob oa' ob' : HO}
theorem Cel.wrote2 (c : Cel G0 H0 G H ((a, oa) :: (b, ob) :: cs)) (w : Gw G (mask H [(a, oa), (b, ob)]) G2 H2) (ha : H2 a = some oa') (ga : G2 a = none) (hb : H2 b = some ob') (gb : G2 b = none) : Cel G0 H0 G2 H2 ((a, oa') :: (b, ob') :: cs) := by
  obtain ⟨h1, h2, h3⟩ := c.at_ (a, oa) List.mem_cons_self
  obtain ⟨k1, k2, k3⟩ := c.at_ (b, ob) (List.mem_cons_of_mem _ List.mem_cons_self)
  have hn := (List.nodup_cons.mp c.nd).1
  have hn2 := (List.nodup_cons.mp (List.nodup_cons.mp c.nd).2).1
  have ne : ∀ {x : Addr}, x ≠ a → x ≠ b → mask H [(a, oa), (b, ob)] x = H x := fun {x} z1 z2 => mask_out (by simp; exact ⟨z1, z2⟩)
  refine ⟨⟨c.w.g.trans w.g, fun x u e => ?_, w.s, fun x u e1 e2 => ?_⟩, fun x hx => ?_, c.nd⟩
  · have z1 : x ≠ a := fun z => by subst z; rw [h3] at e; cases e
    have z2 : x ≠ b := fun z => by subst z; rw [k3] at e; cases e
    exact w.h x u (by rw [ne z1 z2]; exact c.w.h x u e)
  · have z1 : x ≠ a := fun z => by subst z; rw [h3] at e1; cases e1
    have z2 : x ≠ b := fun z => by subst z; rw [k3] at e1; cases e1
    exact w.f x u (by rw [ne z1 z2]; exact c.w.h x u e1) (c.w.f x u e1 e2)
  · rcases List.mem_cons.mp hx with rfl | hx
    · exact ⟨ha, ga, h3⟩
    rcases List.mem_cons.mp hx with rfl | hx
    · exact ⟨hb, gb, k3⟩
    obtain ⟨j1, j2, j3⟩ := c.at_ x (List.mem_cons_of_mem _ (List.mem_cons_of_mem _ hx))
    have hm : x.1 ∈ cs.map (·.1) := List.mem_map_of_mem hx
    have z1 : x.1 ≠ a := fun z => hn (List.mem_cons_of_mem _ (by rw [← z]; exact hm))
    have z2 : x.1 ≠ b := fun z => hn2 (by rw [← z]; exact hm)
    exact ⟨w.h _ _ (by rw [ne z1 z2]; exact j1), w.f _ _ (by rw [ne z1 z2]; exact j1) j2, j3⟩
theorem mask_app {ro rw' : List (Addr × HO)} : mask H (ro ++ rw') = mask (mask H rw') ro := by
  funext x
  by_cases h1 : x ∈ ro.map (·.1)
  · unfold mask
    rw [if_pos (by rw [List.map_append]; exact List.mem_append_left _ h1), if_pos h1]
  · by_cases h2 : x ∈ rw'.map (·.1)
    · unfold mask
      rw [if_pos (by rw [List.map_append]; exact List.mem_append_right _ h2), if_neg h1, if_pos h2]
    · unfold mask
      rw [if_neg (by rw [List.map_append, List.mem_append]; exact fun z => z.elim h1 h2), if_neg h1, if_neg h2]
/-- some of the caller's cells were only read -/
theorem Cel.readSome {ro rw' : List (Addr × HO)} (c : Cel G0 (mask H0 (ro ++ rw')) G H cs) (hc : HC ro G0 H0) (hs : ∀ x ∈ ro, x ∈ cs) (nd : ((ro ++ rw').map (·.1)).Nodup) : Gw G0 (mask H0 rw') G H := by
  rw [mask_app] at c
  refine c.read (fun x hx => ⟨?_, (hc x hx).2⟩) hs
  rw [mask_out]
  · exact (hc x hx).1
  · intro hm
    rw [List.map_append] at nd
    exact (List.nodup_append.mp nd).2.2 _ (List.mem_map_of_mem hx) _ hm rfl
end
end KW
end
section
set_option Elab.async false
set_option linter.all false
set_option maxRecDepth 100000
set_option maxHeartbeats 2000000
namespace KW
open PySem PySem.Spec PyProof.Rows L2
open K97 (Gr OW jn putO augL kuhn Ow uns)
abbrev sAug : Stmt := top 12
def N_Aug : List Str := ["joined", "owner", "name", "seen", "key"]
theorem scAug : FnScope N_Aug ["joined", "owner", "name", "seen"] (defScope sAug) := ⟨rfl, rfl, rfl, by decide +kernel, rfl, by decide +kernel, by decide +kernel⟩
structure AugIn where
  N : Gr
  U : List Nat
  dj : Addr
  jo : HO
  jvs : List (L2.Key × V)
  ow : Addr
  se : Addr
  o : OW
  s : List Nat
  nm : Nat
structure AugPre (x : AugIn) (f : Nat) (G : Hp) : Prop where
  g : GOk x.N x.U
  k : IsK x.jo x.jvs
  j : JR x.N x.jvs G
  ow : Ow x.N x.o
  su : ∀ k ∈ x.s, k ∈ x.U
  nd : x.s.Nodup
  nm : x.nm ∈ x.N.map (·.1)
  fu : uns x.U x.s < f
theorem AugPre.mono {x : AugIn} {f : Nat} {G G' : Hp} (h : AugPre x f G) (e : L2.Same G G') : AugPre x f G' := ⟨h.g, h.k, h.j.mono e, h.ow, h.su, h.nd, h.nm, h.fu⟩
def spAug (f : Nat) : Sp := fun vs H Q _ => vs.length = 4 ∧ ∃ (G : Hp) (x : AugIn), L2.Same G H ∧ vs = [.ref x.dj, .ref x.ow, .str (eS x.nm), .ref x.se] ∧ AugPre x f G ∧ HC [(x.dj, x.jo), (x.ow, .dT (oV x.o)), (x.se, .dT (sV x.s))] G H ∧
  ([(x.dj, x.jo), (x.ow, HO.dT (oV x.o)), (x.se, HO.dT (sV x.s))].map (·.1)).Nodup ∧
  ∀ G2 H2, Gw G (mask H [(x.ow, .dT (oV x.o)), (x.se, .dT (sV x.s))]) G2 H2 → H2 x.ow = some (.dT (oV (kuhn x.N f x.o x.s x.nm).2.1)) → G2 x.ow = none → H2 x.se = some (.dT (sV (kuhn x.N f x.o x.s x.nm).2.2)) → G2 x.se = none → Q (.bl (kuhn x.N f x.o x.s x.nm).1) H2
theorem uns_le {U s r : List Nat} (h : ∀ x ∈ s, x ∈ r) : uns U r ≤ uns U s := by
  unfold K97.uns
  have e : (U.filter fun j => !r.contains j) = (U.filter fun j => !s.contains j).filter fun j => !r.contains j := by
    rw [List.filter_filter]
    refine List.filter_congr fun j _ => ?_
    by_cases h1 : j ∈ s
    · simp [h1, h j h1]
    · simp [h1]
  rw [e]
  exact List.length_filter_le _ _
theorem four_of {P1 P2 P3 P4 : VP} {vs : List V} {G : Hp} (h : F2 [P1, P2, P3, P4] vs G) : ∃ a b c d, vs = [a, b, c, d] ∧ P1 a G ∧ P2 b G ∧ P3 c G ∧ P4 d G := by
  obtain ⟨v, r, rfl, p1, p2⟩ := h.inv_cons
  obtain ⟨x, y, z, rfl, p3, p4, p5⟩ := three_of p2
  exact ⟨v, x, y, z, rfl, p1, p3, p4, p5⟩
section
variable {P : Program} {w : World} {K : PySem.W.Frag} {mg : Str → Option Value} {base : Heap} {C : Addr} {σ : L2.St} {G0 H0 G H : Hp} {cs : List (Addr × HO)}
theorem t_aug {f : Nat} {t : TA} {Q : VK} (x : AugIn) (c : Cel G0 H0 G H ((x.ow, .dT (oV x.o)) :: (x.se, .dT (sV x.s)) :: cs)) (hj : (x.dj, x.jo) ∈ cs) (h : EvA t σ G ((x.ow, .dT (oV x.o)) :: (x.se, .dT (sV x.s)) :: cs) (F2 [RV (.ref x.dj), RV (.ref x.ow), RS x.nm, RV (.ref x.se)])) (pre : AugPre x f G)
    (k : ∀ G2 H2, Cel G0 H0 G2 H2 ((x.ow, .dT (oV (kuhn x.N f x.o x.s x.nm).2.1)) :: (x.se, .dT (sV (kuhn x.N f x.o x.s x.nm).2.2)) :: cs) → L2.Same G G2 → Q (.bl (kuhn x.N f x.o x.s x.nm).1) H2) : tCall (spAug f) [] E0 t σ H Q :=
  h H c.s c.hc _ fun vs G1 H1 w1 p1 => by
    obtain ⟨a, b, d, e, rfl, rfl, rfl, rfl, rfl⟩ := four_of p1
    have c1 := c.go w1
    have nd := c1.nd
    rw [List.append_nil]
    refine ⟨rfl, G1, x, w1.s, rfl, pre.mono w1.g, fun y hy => ?_, ?_, fun G2 H2 w2 e1 e2 e3 e4 => k G2 H2 (c1.wrote2 w2 e1 e2 e3 e4) (w1.g.trans w2.g)⟩
    · refine c1.hc y ?_
      simp only [List.mem_cons, List.not_mem_nil, or_false] at hy ⊢
      rcases hy with rfl | rfl | rfl
      · exact .inr (.inr hj)
      · exact .inl rfl
      · exact .inr (.inl rfl)
    · have hm : x.dj ∈ cs.map (·.1) := List.mem_map.mpr ⟨_, hj, rfl⟩
      simp only [List.map_cons, List.nodup_cons, List.mem_cons, not_or] at nd
      simp only [List.map_cons, List.map_nil, List.nodup_cons, List.mem_cons, List.not_mem_nil, or_false, not_or, not_false_eq_true, List.nodup_nil, and_true]
      exact ⟨⟨fun z => nd.1.2 (z ▸ hm), fun z => nd.2.1 (z ▸ hm)⟩, nd.1.1⟩
theorem dn_aug (Dd : Df K mg "augmented" sAug) (B : Kit P w K mg base C) : ∀ f, Dn P w K mg base "augmented" (f + 1) ["joined", "owner", "name", "seen"] (spAug f)
  | 0 => by
    refine dn_of Dd scAug (fun _ _ _ _ _ _ us hl => match us, hl with | [_, _, _, _], _ => rfl) (fun vs H Q E h => h.1) (fun f cdv A0 outer s H vs Q E hr h => ?_)
    obtain ⟨_, G, x, _, _, pre, _⟩ := h
    exact absurd pre.fu (by omega)
  | f + 1 => by
    have IH := dn_aug Dd B f
    refine dn_of Dd scAug (fun _ _ _ _ _ _ us hl => match us, hl with | [_, _, _, _], _ => rfl) (fun vs H Q E h => h.1) (fun fa cdv A0 outer st H vs Q E hr h => ?_)
    obtain ⟨_, G, ⟨N, U, dj, jo, jvs, ow, se, o0, s0, nm⟩, sg, rfl, ⟨gok, isk, jr, how, hsu, hnd, hnm, hfu⟩, hcl, ndc, q⟩ := h
    dsimp only at *
    have nd := scAug.nd
    have hu := hu_of hr
    refine ⟨_, (pss_cons (ps_for PassesOwn.never rfl (pi_list (pe_dget hu (pv 0) (pv 2) (fun _ _ => rfl))) (pg_name (i := 4) nd rfl (.inl rfl))
  (pss_one (ps_if (pt_cmp (pc_dnotin hu (pv 4) (pv 3))) (pss_cons (ps_dput hu (pv 3) (pv 4) pe_bl rfl)
      (pss_one (ps_if (pw_or (pt_cmp (pc_dnotin hu (pv 4) (pv 1))) (pw_or1 (pt_val (pe_dn IH hr (by rfl) (pa_cons (pv 0) (pa_cons (pv 1) (pa_cons (pe_dget hu (pv 1) (pv 4) (fun _ _ => rfl)) (pa_cons (pv 3) pa_nil)))))))).pt (pss_cons (ps_dput hu (pv 1) (pv 4) (pv 2) rfl)
        (pss_one (ps_ret pe_bl))) pss_nil))) pss_nil)))
  (pss_one (ps_ret pe_bl))), ?_⟩
    have c := (Cel.given sg hcl ndc).rot.swap2
    have hgw : ∀ {g h o' s'}, Cel G (mask H [(dj, jo), (ow, .dT (oV o0)), (se, .dT (sV s0))]) g h [(se, .dT (sV s')), (ow, .dT (oV o')), (dj, jo)] → Gw G (mask H [(ow, .dT (oV o0)), (se, .dT (sV s0))]) g h := fun {g h o' s'} cc =>
      Cel.readSome (ro := [(dj, jo)]) (rw' := [(ow, .dT (oV o0)), (se, .dT (sV s0))]) cc (hcl.sub (by simp)) (by simp) ndc
    have fin : ∀ {b : Bool} {g h o' s'}, Cel G (mask H [(dj, jo), (ow, .dT (oV o0)), (se, .dT (sV s0))]) g h [(se, .dT (sV s')), (ow, .dT (oV o')), (dj, jo)] → kuhn N (f + 1) o0 s0 nm = (b, o', s') → Q (.bl b) h := fun {b g h o' s'} cc e => by
      have := q g h (hgw cc)
      rw [e] at this
      exact this (cc.hc _ mem_2).1 (cc.hc _ mem_2).2 (cc.hc _ mem_head).1 (cc.hc _ mem_head).2
    obtain ⟨vj, hvj, hRj⟩ := jr.get nm hnm
    refine q_for (cs' := [(dj, jo)]) c (ew_list (Rs := (jn N nm).map fun k => RK (kK k)) (ev_dgetK (k := eK nm) (P := RKs (jn N nm)) mem_head isk (ev_var rfl rfl) (ev_var rfl rfl) hvj hRj))
      (fun i s' g h => ∃ o s o4, s' = [some (.ref dj), some (.ref ow), some (.str (eS nm)), some (.ref se), o4] ∧ Cel G (mask H [(dj, jo), (ow, .dT (oV o0)), (se, .dT (sV s0))]) g h [(se, .dT (sV s)), (ow, .dT (oV o)), (dj, jo)] ∧ L2.Same G g ∧ Ow N o ∧ (∀ k ∈ s, k ∈ U) ∧ s.Nodup ∧ uns U s < f + 1 ∧ augL (kuhn N f) nm ((jn N nm).drop i) o s = kuhn N (f + 1) o0 s0 nm)
      (fun i s' g h ⟨_, _, _, _, cc, _⟩ => ⟨cc.s, cc.hc.sub (by simp)⟩) (fun G3 H3 c3 s3 => ⟨o0, s0, none, rfl, c3, s3, how, hsu, hnd, hfu, rfl⟩) ?_ ?_
    · rintro i s' g h x hi sg' ⟨o, s, o4, rfl, cc, sG, hO, hsU, hsN, hun, hau⟩ g2 h2 w2 hY
      rw [List.length_map] at hi
      have hY := hY.map (List.getElem?_eq_getElem hi)
      have hkU : (jn N nm)[i] ∈ U := gok.sub nm _ (List.getElem_mem hi)
      rw [List.drop_eq_getElem_cons hi] at hau
      generalize (jn N nm)[i] = k at hY hkU hau
      have hk8 := gok.lt k hkU
      have hs8 : ∀ y ∈ s, y < 8 := fun y hy => gok.lt y (hsU y hy)
      have ho8 := gok.key8 hO
      have hol := gok.len8 hO
      have hsl : s.length ≤ 100 := by
        have := K97.nodup_le hsN hsU
        have := gok.few
        omega
      have cc2 := cc.go w2
      refine s_if cc2 (et_B (ev_dninT (kt := kK k) mem_head (.inl rfl) (ev_var rfl hY) (ev_var rfl rfl))) (fun hb g4 h4 c4 s4 => ?_) (fun hb g4 h4 c4 s4 => ?_)
      · rw [has_sV hs8 hk8] at hb
        have hns : k ∉ s := by simpa using hb
        have eau : augL (kuhn N f) nm (k :: (jn N nm).drop (i + 1)) o s = (match o.lookup k with
          | none => (true, putO k nm o, s ++ [k])
          | some nm' => if (kuhn N f o (s ++ [k]) nm').1 then (true, putO k nm (kuhn N f o (s ++ [k]) nm').2.1, (kuhn N f o (s ++ [k]) nm').2.2) else augL (kuhn N f) nm ((jn N nm).drop (i + 1)) (kuhn N f o (s ++ [k]) nm').2.1 (kuhn N f o (s ++ [k]) nm').2.2) := by
          conv => lhs; unfold augL
          rw [if_neg (by simpa using hns)]
          all_goals (cases o.lookup k <;> rfl)
        rw [eau] at hau
        refine q_dputT (kt := kK k) (P := RV (.bl true)) c4 ev_c (ev_var rfl rfl) (ev_var rfl (up s4 hY)) (by unfold sV; rw [List.length_map]; omega) fun vt g5 h5 c5 s5 p5 => ?_
        obtain rfl : vt = .bl true := p5
        rw [put_sV hs8 hk8 hns] at c5
        have hs2U : ∀ y ∈ s ++ [k], y ∈ U := fun y hy => by
          rcases List.mem_append.mp hy with hy | hy
          · exact hsU y hy
          · rw [List.mem_singleton.mp hy]; exact hkU
        have hs2N : (s ++ [k]).Nodup := K97.nodup_snoc hsN hns
        have hun2 : uns U (s ++ [k]) < f := by
          have := K97.uns_snoc hkU hns
          omega
        have s45 := s4.trans s5
        refine (et_B (ev_dninT (kt := kK k) (kvt := oV o) mem_2 (.inl rfl) (ev_var rfl (up s45 hY)) (ev_var rfl rfl))) h5 c5.s c5.hc _ fun g6 h6 w6 => ?_
        have c6 := c5.go w6
        rw [look_oV ho8 hk8]
        -- owner[key] = name; return True
        have last : ∀ (D : Ends), D.rt = Q → ∀ (o' : OW) (s' : List Nat) (g h : Hp), L2.Same g2 g → Cel G (mask H [(dj, jo), (ow, .dT (oV o0)), (se, .dT (sV s0))]) g h [(se, .dT (sV s')), (ow, .dT (oV o')), (dj, jo)] → Ow N o' → kuhn N (f + 1) o0 s0 nm = (true, putO k nm o', s') →
            tSeq (sDPut (tVar 1) (tVar 4) (tVar 2)) (tRet (tC (.bl true))) D [some (.ref dj), some (.ref ow), some (.str (eS nm)), some (.ref se), some x] h := fun D hD o' s' g h sg2 cg hO' e => by
          refine q_dputT (kt := kK k) (P := RS nm) cg.swap (ev_var rfl rfl) (ev_var rfl rfl) (ev_var rfl (up sg2 hY)) (by unfold oV; rw [List.length_map]; exact Nat.le_trans (gok.len8 hO') (by decide)) fun vt g5 h5 c5 s5 p5 => ?_
          obtain rfl : vt = .str (eS nm) := p5
          rw [put_oV (gok.key8 hO') hO'.nd hk8] at c5
          refine s_ret c5 (ev_c (v := .bl true)) fun v g8 h8 c8 s8 p8 => ?_
          obtain rfl : v = .bl true := p8
          rw [hD]
          exact fin c8.swap e
        cases hlk : o.lookup k with
        | none =>
          rw [hlk] at hau
          exact iteT (iteT (last _ rfl o (s ++ [k]) g6 h6 (s45.trans w6.g) c6 hO hau.symm))
        | some nm' =>
          rw [hlk] at hau
          have hau : (if (kuhn N f o (s ++ [k]) nm').1 then (true, putO k nm (kuhn N f o (s ++ [k]) nm').2.1, (kuhn N f o (s ++ [k]) nm').2.2) else augL (kuhn N f) nm ((jn N nm).drop (i + 1)) (kuhn N f o (s ++ [k]) nm').2.1 (kuhn N f o (s ++ [k]) nm').2.2) = _ := hau
          have hkn : k ∈ jn N nm' := hO.ok _ (K97.lookup_mem hlk)
          have R := K97.kuhn_ok gok.sub f o (s ++ [k]) nm' hO hun2
          have hsub := kuhn_sub gok.sub f o (s ++ [k]) nm' hs2U
          have hRO : Ow N (kuhn N f o (s ++ [k]) nm').2.1 := by
            cases e : (kuhn N f o (s ++ [k]) nm').1 with
            | true => exact (R.yes e).1
            | false => rw [(R.no e).1]; exact hO
          have hlv : valV (oV o) (kK k) = some (.str (eS nm')) := by rw [look_oV ho8 hk8, hlk]; rfl
          have hmono : uns U (kuhn N f o (s ++ [k]) nm').2.2 ≤ uns U (s ++ [k]) := uns_le R.mono
          refine iteF ?_
          refine t_aug ⟨N, U, dj, jo, jvs, ow, se, o, s ++ [k], nm'⟩ c6.swap mem_head (ea_cons (ev_var rfl rfl) (ea_cons (ev_var rfl rfl) (ea_cons (ev_dgetT (kt := kK k) (kvt := oV o) (P := RS nm') mem_head (.inl rfl) (ev_var rfl rfl) (ev_var rfl (up (s45.trans w6.g) hY)) hlv rfl) (ea_cons (ev_var rfl rfl) ea_nil)))) ⟨gok, isk, jr.mono (((sG.trans w2.g).trans s45).trans w6.g), hO, hs2U, hs2N, jn_in hkn, hun2⟩ fun g7 h7 c7 s7 => ?_
          have s67 := (s45.trans w6.g).trans s7
          have c7 := c7.swap
          refine ⟨_, rfl, ?_⟩
          dsimp only at c7
          cases e : (kuhn N f o (s ++ [k]) nm').1 with
          | true =>
            rw [e] at hau
            exact iteT (last _ rfl _ _ g7 h7 s67 c7 hRO hau.symm)
          | false =>
            rw [e] at hau
            refine iteF ⟨g7, w2.g.trans s67, _, _, _, rfl, c7, (sG.trans w2.g).trans s67, hRO, hsub, R.nd hs2N, by omega, hau⟩
      · rw [has_sV hs8 hk8] at hb
        have hys : s.contains k = true := by simpa using hb
        refine ⟨g4, w2.g.trans s4, o, s, _, rfl, c4, (sG.trans w2.g).trans s4, hO, hsU, hsN, hun, ?_⟩
        rw [← hau]
        conv => rhs; unfold augL
        rw [if_pos hys]
    · rintro s' g h sg' ⟨o, s, o4, rfl, cc, sG, hO, hsU, hsN, hun, hau⟩
      rw [List.length_map, List.drop_length] at hau
      refine s_ret cc (ev_c (v := .bl false)) fun v g8 h8 c8 s8 p8 => ?_
      obtain rfl : v = .bl false := p8
      exact fin c8 hau.symm
end
end KW
end
section
set_option Elab.async false
set_option linter.all false
set_option maxRecDepth 100000
set_option maxHeartbeats 2000000
namespace KW
open PySem PySem.Spec PyProof.Rows L2
open K97 (Gr OW jn putO augL kuhn Ow uns)
abbrev sOwn : Stmt := top 13
abbrev sWit : Stmt := top 14
def N_Own : List Str := ["joined", "names", "owner", "name"]
def N_Wit : List Str := ["joined", "names", "used", "name", "key"]
theorem scOwn : FnScope N_Own ["joined", "names"] (defScope sOwn) := ⟨rfl, rfl, rfl, by decide +kernel, rfl, by decide +kernel, by decide +kernel⟩
theorem scWit : FnScope N_Wit ["joined", "names", "used"] (defScope sWit) := ⟨rfl, rfl, rfl, by decide +kernel, rfl, by decide +kernel, by decide +kernel⟩
def compScope : Expr → Scope
  | .DictComp _ _ _ sc _ => sc
  | .ListComp _ _ sc _ => sc
  | _ => { kind := .function, names := [], isGenerator := false, isCoroutine := false }
def retScope (st : Stmt) : Scope := match defBody st with
  | [.Return (some e) _] => compScope e
  | _ => { kind := .function, names := [], isGenerator := false, isCoroutine := false }
/-- the scope of a comprehension's block within a def -/
def nestS (inn out : Scope) : Scope := { inn with names := inn.names.map fun (n, k) => if (k == .free && out.kind == .function && out.names.lookup n == some .cell) then (n, .cell) else (n, k) }
structure OwnIn where
  N : Gr
  U : List Nat
  dj : Addr
  jo : HO
  jvs : List (L2.Key × V)
  names : List Nat
structure OwnPre (x : OwnIn) (G : Hp) : Prop where
  g : GOk x.N x.U
  k : IsK x.jo x.jvs
  j : JR x.N x.jvs G
  nm : ∀ i ∈ x.names, i ∈ x.N.map (·.1)
  few : x.names.length ≤ 100
def spOwn : Sp := spC (fun (x : OwnIn) vs G => F2 [RV (.ref x.dj), RSs x.names] vs G ∧ OwnPre x G) (fun x => [(x.dj, x.jo)]) (fun x v G => ∃ d, v = .ref d ∧ G d = some (.dT (oV (K97.owners x.N x.names)))) 2
theorem filter_getD {T : Type} (l : List T) (d : T) (p : T → Bool) : ((List.range l.length).filter fun j => p (l.getD j d)).map (fun j => l.getD j d) = l.filter p := by
  have h := range_getD l d (fun x => x)
  rw [List.map_id'] at h
  conv => rhs; rw [← h, List.filter_map]
  rfl
theorem nodup_map_inj {T : Type} {f : Nat → T} {l : List Nat} (hn : l.Nodup) (h : ∀ a ∈ l, ∀ b ∈ l, f a = f b → a = b) : (l.map f).Nodup := by
  induction l with
  | nil => exact List.nodup_nil
  | cons x l ih =>
    obtain ⟨h1, h2⟩ := List.nodup_cons.mp hn
    rw [List.map_cons, List.nodup_cons]
    refine ⟨fun hm => ?_, ih h2 fun a ha b hb => h a (List.mem_cons_of_mem _ ha) b (List.mem_cons_of_mem _ hb)⟩
    obtain ⟨y, hy, e⟩ := List.mem_map.mp hm
    have := h y (List.mem_cons_of_mem _ hy) x List.mem_cons_self e
    exact h1 (this ▸ hy)
theorem foldl_take {T S : Type} (g : S → T → S) (z : S) {l : List T} {i : Nat} {x : T} (h : l[i]? = some x) : (l.take (i + 1)).foldl g z = g ((l.take i).foldl g z) x := by
  obtain ⟨hi, rfl⟩ := List.getElem?_eq_some_iff.mp h
  rw [← List.take_append_getElem hi, List.foldl_append]
  rfl
theorem ownersF_ow {N : Gr} {U : List Nat} (h : GOk N U) {o : OW} (ho : Ow N o) (nm : Nat) : Ow N (K97.ownersF N o nm) := by
  have R := K97.kuhn_ok h.sub 7 o [] nm ho (Nat.lt_of_le_of_lt (List.length_filter_le _ _) h.few)
  unfold K97.ownersF K97.FU
  cases e : (kuhn N 7 o [] nm).1 with
  | true => exact (R.yes e).1
  | false => rw [(R.no e).1]; exact ho
/-- without: a new dict of the caller's -/
structure WitIn where
  N : Gr
  U : List Nat
  dj : Addr
  jo : HO
  jvs : List (L2.Key × V)
  names : List Nat
  du : Addr
  used : List Nat
structure WitPre (x : WitIn) (G : Hp) : Prop where
  g : GOk x.N x.U
  k : IsK x.jo x.jvs
  j : JR x.N x.jvs G
  nm : ∀ i ∈ x.names, i ∈ x.N.map (·.1)
  nd : x.names.Nodup
  us : ∀ k ∈ x.used, k < 8
  few : x.names.length ≤ 100
def spWit : Sp := fun vs H Q _ => vs.length = 3 ∧ ∃ (G : Hp) (x : WitIn), L2.Same G H ∧ F2 [RV (.ref x.dj), RSs x.names, RV (.ref x.du)] vs G ∧ WitPre x G ∧ HC [(x.dj, x.jo), (x.du, .dT (sV x.used))] G H ∧
  ∀ d G2 H2 wvs, H d = none → Gw G H G2 H2 → G2 d = none → H2 d = some (.dK wvs) → JR (K97.without x.N x.names x.used) wvs G2 → Q (.ref d) H2
section
variable {P : Program} {w : World} {K : PySem.W.Frag} {mg : Str → Option Value} {base : Heap} {C : Addr} {σ : L2.St} {G0 H0 G H : Hp} {cs : List (Addr × HO)}
theorem t_augS {f : Nat} {Q : VK} (x : AugIn) (c : Cel G0 H0 G H ((x.ow, .dT (oV x.o)) :: (x.se, .dT (sV x.s)) :: cs)) (hj : (x.dj, x.jo) ∈ cs) (pre : AugPre x f G)
    (k : ∀ G2 H2, Cel G0 H0 G2 H2 ((x.ow, .dT (oV (kuhn x.N f x.o x.s x.nm).2.1)) :: (x.se, .dT (sV (kuhn x.N f x.o x.s x.nm).2.2)) :: cs) → L2.Same G G2 → Q (.bl (kuhn x.N f x.o x.s x.nm).1) H2) : spAug f [.ref x.dj, .ref x.ow, .str (eS x.nm), .ref x.se] H Q E0 :=
  t_aug (σ := []) (f := f) (t := tCons (tC (.ref x.dj)) (tCons (tC (.ref x.ow)) (tCons (tC (.str (eS x.nm))) (tCons (tC (.ref x.se)) tNil)))) x c hj (ea_cons (P1 := RV (.ref x.dj)) ev_c (ea_cons (P1 := RV (.ref x.ow)) ev_c (ea_cons (P1 := RS x.nm) ev_c (ea_cons (P1 := RV (.ref x.se)) ev_c ea_nil)))) pre k
theorem dn_own (Dd : Df K mg "owners" sOwn) (B : Kit P w K mg base C) (IH : Dn P w K mg base "augmented" 8 ["joined", "owner", "name", "seen"] (spAug 7)) : Dn P w K mg base "owners" 9 ["joined", "names"] spOwn := by
  refine dn_of Dd scOwn (fun _ _ _ _ _ _ us hl => match us, hl with | [_, _], _ => rfl) (fun vs H Q E h => h.1) (fun fa cdv A0 outer st H vs Q E hr h => ?_)
  obtain ⟨_, G, ⟨N, U, dj, jo, jvs, names⟩, sg, ⟨hF, gok, isk, jr, hnm, few⟩, hcl, ndc, q⟩ := h
  obtain ⟨v0, v1, rfl, h0, h1⟩ := two_of hF
  dsimp only at *
  obtain rfl : v0 = .ref dj := h0
  have nd := scOwn.nd
  have hu := hu_of hr
  refine ⟨_, (pss_cons (ps_set (i := 2) nd rfl (.inl rfl) pe_dnewT)
  (pss_cons (ps_for PassesOwn.never rfl (pi_list (pv 1)) (pg_name (i := 3) nd rfl (.inl rfl))
  (pss_one (ps_expr (pe_dn IH hr (by rfl) (pa_cons (pv 0) (pa_cons (pv 2) (pa_cons (pv 3) (pa_cons pe_dnewT pa_nil))))))))
  (pss_one (ps_ret (pv 2))))), ?_⟩
  have c := Cel.given sg hcl ndc
  refine q_setN c en_dT fun ow o G1 H1 c1 s1 ho => ?_
  subst ho
  refine q_for (cs' := []) c1 (ew_list (Rs := names.map RS) (ev_var rfl (up s1 h1)))
    (fun i s' g h => ∃ o3, s' = [some (.ref dj), some v1, some (.ref ow), o3] ∧ Cel G (mask H [(dj, jo)]) g h [(ow, .dT (oV ((names.take i).foldl (K97.ownersF N) []))), (dj, jo)] ∧ L2.Same G g ∧ Ow N ((names.take i).foldl (K97.ownersF N) []))
    (fun i s' g h ⟨_, _, cc, _⟩ => ⟨cc.s, .nil⟩) (fun G3 H3 c3 s3 => ⟨none, rfl, c3, s1.trans s3, .nil⟩) ?_ ?_
  · rintro i s' g h x hi sg' ⟨o3, rfl, cc, sG, hO⟩ g2 h2 w2 hY
    rw [List.length_map] at hi
    have hei := List.getElem?_eq_getElem hi
    have hY := hY.map hei
    have hmem := hnm _ (List.getElem_mem hi)
    rw [foldl_take _ _ hei]
    generalize names[i] = nm at hY hmem
    obtain rfl : x = .str (eS nm) := hY
    have cc2 := cc.go w2
    generalize (names.take i).foldl (K97.ownersF N) [] = oi at cc2 hO
    have hO2 := ownersF_ow gok hO nm
    refine ⟨_, rfl, _, rfl, _, rfl, fun d hd => ?_⟩
    have cn := (cc2.new (o := .dT (sV [])) hd).swap
    refine (?_ : spAug 7 [.ref dj, .ref ow, .str (eS nm), .ref d] (upd h2 d (.dT [])) (fun _ h => ∃ g4, L2.Same g g4 ∧ ∃ o3, ([some (.ref dj), some v1, some (.ref ow), some (.str (eS nm))] : L2.St) = [some (.ref dj), some v1, some (.ref ow), o3] ∧ Cel G (mask H [(dj, jo)]) g4 h [(ow, .dT (oV (K97.ownersF N oi nm))), (dj, jo)] ∧ L2.Same G g4 ∧ Ow N (K97.ownersF N oi nm)) L2.E0)
    refine t_augS (f := 7) ⟨N, U, dj, jo, jvs, ow, d, oi, [], nm⟩ cn mem_head ⟨gok, isk, jr.mono (sG.trans w2.g), hO, fun k hk => by simp at hk, List.nodup_nil, hmem, Nat.lt_of_le_of_lt (List.length_filter_le _ _) gok.few⟩ fun g7 h7 c7 s7 => ?_
    exact ⟨g7, w2.g.trans s7, _, rfl, c7.swap.drop, (sG.trans w2.g).trans s7, hO2⟩
  · rintro s' g h sg' ⟨o3, rfl, cc, sG, hO⟩
    rw [List.length_map, List.take_length] at cc
    obtain ⟨c2, s2⟩ := cc.freeze
    refine s_ret c2 (ev_var rfl (P := RV (.ref ow)) rfl) fun v g8 h8 c8 s8 p8 => q v g8 h8 (c8.read hcl (by simp)) ⟨ow, p8, s8 _ _ upd_same⟩
theorem dn_wit (Dd : Df K mg "without" sWit) (B : Kit P w K mg base C) : Dn P w K mg base "without" 1 ["joined", "names", "used"] spWit := by
  refine dn_of Dd scWit (fun _ _ _ _ _ _ us hl => match us, hl with | [_, _, _], _ => rfl) (fun vs H Q E h => h.1) (fun fa cdv A0 outer st H vs Q E hr h => ?_)
  obtain ⟨_, G, ⟨N, U, dj, jo, jvs, names, du, used⟩, sg, hF, ⟨gok, isk, jr, hnm, hnd, hus, few⟩, hcl, q⟩ := h
  obtain ⟨v0, v1, v2, rfl, h0, h1, h2⟩ := three_of hF
  dsimp only at *
  obtain rfl : v0 = .ref dj := h0
  obtain rfl : v2 = .ref du := h2
  have nd := scWit.nd
  have hu := hu_of hr
  refine ⟨_, (pss_one (ps_ret (pe_dc (own := [("name", 3)]) (tt := tYes) rfl nd (pi_list (pv 1)) (blkOk_by (N := N_Wit) (sc := defScope sWit) (by decide +kernel)) (fun _ _ _ _ _ => (pg_name (i := 3) nd rfl (.inl rfl))) (fun _ _ _ _ _ => pts_nil) (fun _ _ _ _ _ => (pv 3)) (fun _ _ _ _ _ => (pe_lc (own := [("key", 4)]) (wi := iList K (tDGet (tVar 0) (tVar 3))) rfl nd (pi_list (pe_dget hu (pv 0) (pv 3) (fun _ _ => rfl))) (blkOk_by (N := N_Wit) (sc := nestS (retScope sWit) (defScope sWit)) (by decide +kernel)) (fun _ _ _ _ _ => (pg_name (i := 4) nd rfl (.inl rfl))) (fun _ _ _ _ _ => (pts_one (pt_cmp (pc_dnotin hu (pv 4) (pv 2))))) (fun _ _ _ _ _ => (pv 4))))))), ?_⟩
  have hn8 : ∀ i ∈ names, i < 8 := fun i hi => gok.nm8 (hnm i hi)
  have hkn : ((List.range names.length).map fun i => eK (names.getD i 0)).Nodup := by
    rw [range_getD names 0 eK]
    exact nodup_map_inj hnd fun a ha b hb e => eK_inj (hn8 a ha) (hn8 b hb) e
  refine en_dcA (cs := [(dj, jo), (du, .dT (sV used))]) (n := names.length) (ew_listN (Rs := names.map RS) (ev_var rfl h1) (by rw [List.length_map])) (by omega) (fun i => eK (names.getD i 0)) (fun i => RKs ((jn N (names.getD i 0)).filter fun k => !used.contains k)) hkn (fun i x g' hi sg' hY h' s' k qq => ?_) H sg hcl _ fun d o G2 H2 hd w hg ho hp => ?_
  · have hei := List.getElem?_eq_getElem hi
    have hY := hY.map hei
    have hmem := List.getElem_mem hi
    simp only [getD_is hei] at qq
    generalize names[i] = nm at hY hmem qq
    obtain rfl : x = .str (eS nm) := hY
    obtain ⟨vj, hvj, hRj⟩ := jr.get nm (hnm nm hmem)
    have hjl := gok.len nm
    refine qq _ rfl (ev_var rfl rfl) ?_
    have e : RKs ((jn N nm).filter fun k => !used.contains k) = RL (((List.range (jn N nm).length).filter fun j => !used.contains ((jn N nm).getD j 0)).map fun j => RK (kK ((jn N nm).getD j 0))) := by
      unfold RKs
      rw [← filter_getD (jn N nm) 0 (fun k => !used.contains k), List.map_map]
      rfl
    rw [e]
    refine ev_lc (ew_listN (Rs := (jn N nm).map fun k => RK (kK k)) (ev_dgetK (k := eK nm) (P := RKs (jn N nm)) mem_head isk (ev_var rfl rfl) (ev_var rfl rfl) hvj (up sg' hRj)) (by rw [List.length_map])) (by omega) _ _ fun j x g' hj sg' hY h' s' k qq => ?_
    have hej := List.getElem?_eq_getElem hj
    have hY := hY.map hej
    have hk8 := gok.lt _ (gok.sub nm _ (List.getElem_mem hj))
    simp only [getD_is hej] at qq
    generalize (jn N nm)[j] = k at hY hk8 qq
    refine qq _ rfl ((et_B (ev_dninT (kt := kK k) (kvt := sV used) mem_2 (.inl rfl) (ev_var rfl hY) (ev_var rfl rfl))).is ?_) fun _ => ev_var rfl hY
    rw [has_sV hus hk8]
  · obtain ⟨wvs, rfl, hrel⟩ := hp
    refine q d G2 H2 wvs hd w hg ho ⟨fun i hi => ?_⟩
    have hi : i ∈ names := by
      obtain ⟨p, hp, rfl⟩ := List.mem_map.mp hi
      unfold K97.without at hp
      obtain ⟨y, hy, rfl⟩ := List.mem_map.mp hp
      exact hy
    obtain ⟨j, hj, rfl⟩ := List.mem_iff_getElem.mp hi
    have hej := List.getElem?_eq_getElem hj
    obtain ⟨v, h1, _, h3⟩ := hrel.get hkn (i := j) (k := eK names[j]) (R := RKs ((jn N names[j]).filter fun k => !used.contains k)) (by rw [List.getElem?_map, List.getElem?_range hj]; simp only [Option.map, getD_is hej]) (by rw [List.getElem?_map, List.getElem?_range hj]; simp only [Option.map, getD_is hej])
    exact ⟨v, h1, by rw [K97.jn_without hi]; exact h3⟩
end
end KW
end
section
set_option Elab.async false
set_option linter.all false
set_option maxRecDepth 100000
set_option maxHeartbeats 2000000
namespace KW
open PySem PySem.Spec PyProof.Rows L2
open K97 (Gr OW jn putO augL kuhn Ow uns matchKey matchL matchM)
/-! ### d.pop(k) of a tuple that is there -/
def rPopT1 : V → List V → Hp → VK → Prop := fun x xs H Q => ∃ (dd : Addr) (pairs : List (List L2.Key × V)) (ky : List L2.Key) (tp : Addr) (old : V), x = .ref dd ∧ xs = [.ref tp] ∧ H dd = some (.dT pairs) ∧ H tp = some (.tup (ky.map kV)) ∧ valV pairs ky = some old ∧ Q old (upd H dd (.dT (dropK pairs ky)))
theorem mt_popT1 {X : Cx} (hroom : X.A.units + 1 < cLine) : MtR X "dict.pop" rPopT1 := by
  intro held st0 τ Hh x xs v us Q Iv rx rxs hyp
  obtain ⟨dd, pairs, ky, tp, old, rfl, rfl, hdd, htp, hold, q⟩ := hyp
  cases rx
  obtain ⟨u1, rfl, r1⟩ := vals1 rxs
  cases r1
  obtain ⟨zl, hsys, items, rel, dat⟩ := dt_of Iv.hok hdd
  have zl2 : items.length ≤ sizeLine := by rw [← Paired.length rel]; exact zl
  have hval := rel.val ky
  rw [hold] at hval
  obtain ⟨hit, ehit, rhit⟩ : ∃ hit, atKey items ky = some hit ∧ RelV old hit.2 := by
    cases e : atKey items ky with
    | none => rw [e] at hval; exact (show False from hval).elim
    | some p => rw [e] at hval; exact ⟨p, rfl, hval⟩
  refine call_pop_heap (knd := tupleKind (mixKind X.prog X.w)) (.inl rfl) (PySem.F.args_dict_pop_2 _ _) (tupleKind_room_in1 hroom) (key_of Iv.hok htp) hsys dat ehit (fun hp2 dat2 same2 => ?_) zl2
  obtain ⟨ob, ents, ep, g1, g2, g3, g4, _, g5⟩ := dat2
  have Iw : Inv X held τ (upd Hh dd (.dT (dropK pairs ky))) { st0 with heap := hp2, toks := st0.toks + (tupleKind (mixKind X.prog X.w)).draws ky } :=
    d_write Iv (by rw [hdd]; exact True.intro) same2 ⟨ob, g1⟩ ⟨Nat.le_trans (dropK_le pairs ky) zl, hsys, _, (L2.DX.KT_drop ky rel).keeps (fun c ys ec => (by rw [upd_ne (ne_of ec hdd (fun z => nomatch z))]; exact ec)), ob, ents, ep, g1, g2, g3, g4, g5⟩
  exact ⟨old, _, Iw, rhit, q⟩
/-! ### sorted names -/
def unE (s : Str) : Nat := ((List.range 8).find? fun i => decide (eS i = s)).getD 0
theorem unE_eS : ∀ i < 8, unE (eS i) = i := by decide +kernel
theorem ltS8 : ∀ i < 8, ∀ j < 8, ltCps (eS i).cps.toList (eS j).cps.toList = decide (i < j) := by decide +kernel
theorem rising_le : ∀ (zs : List Nat) (p : Nat), p < 8 → (∀ z ∈ zs, z < 8) → risingS (eS p) (zs.map eS) = true → (∀ z ∈ zs, p ≤ z) ∧ zs.Pairwise (· ≤ ·)
  | [], _, _, _, _ => ⟨fun z hz => by simp at hz, .nil⟩
  | z :: zs, p, hp, hz, h => by
    have hz0 := hz z List.mem_cons_self
    have h : (!ltCps (eS z).cps.toList (eS p).cps.toList && risingS (eS z) (zs.map eS)) = true := h
    rw [Bool.and_eq_true, ltS8 z hz0 p hp] at h
    obtain ⟨h1, h2⟩ := rising_le zs z hz0 (fun y hy => hz y (List.mem_cons_of_mem _ hy)) h.2
    have hpz : p ≤ z := by
      have := h.1
      simp at this
      exact this
    refine ⟨fun y hy => ?_, List.pairwise_cons.mpr ⟨h1, h2⟩⟩
    rcases List.mem_cons.mp hy with rfl | hy
    · exact hpz
    · exact Nat.le_trans hpz (h1 y hy)
theorem sorted_names {n : Nat} (hn : n ≤ 8) {ys : List Str} (hp : ys.Perm ((List.range n).map eS)) (hs : sortedS ys = true) : ys = (List.range n).map eS := by
  have hy : ∀ y ∈ ys, ∃ i, i < n ∧ y = eS i := fun y hy => by
    obtain ⟨i, hi, rfl⟩ := List.mem_map.mp (hp.mem_iff.mp hy)
    exact ⟨i, List.mem_range.mp hi, rfl⟩
  have e1 : ys = (ys.map unE).map eS := by
    rw [List.map_map]
    conv => lhs; rw [← List.map_id ys]
    refine List.map_congr_left fun y h => ?_
    obtain ⟨i, hi, rfl⟩ := hy y h
    show eS i = eS (unE (eS i))
    rw [unE_eS i (by omega)]
  have hz8 : ∀ z ∈ ys.map unE, z < 8 := fun z hz => by
    obtain ⟨y, h, rfl⟩ := List.mem_map.mp hz
    obtain ⟨i, hi, rfl⟩ := hy y h
    rw [unE_eS i (by omega)]
    omega
  have e2 : (ys.map unE).Perm (List.range n) := by
    refine (hp.map unE).trans ?_
    rw [List.map_map]
    have : (List.range n).map (unE ∘ eS) = List.range n := by
      conv => rhs; rw [← List.map_id (List.range n)]
      exact List.map_congr_left fun i hi => unE_eS i (by have := List.mem_range.mp hi; omega)
    rw [this]
  rw [e1] at hs ⊢
  generalize ys.map unE = zs at hs hz8 e2
  have hpw : zs.Pairwise (· ≤ ·) := by
    cases zs with
    | nil => exact .nil
    | cons z r =>
      obtain ⟨h1, h2⟩ := rising_le r z (hz8 z List.mem_cons_self) (fun y hy => hz8 y (List.mem_cons_of_mem _ hy)) hs
      exact List.pairwise_cons.mpr ⟨h1, h2⟩
  congr 1
  exact e2.eq_of_pairwise (le := (· ≤ ·)) (fun a b _ _ h1 h2 => Nat.le_antisymm h1 h2) hpw (List.pairwise_lt_range.imp fun h => Nat.le_of_lt h)
abbrev rSrtD : List V → Hp → VK → Prop := fun xs H Q => ∃ (a : Addr) (kvs : List (L2.Key × V)) (ks : List Str), xs = [.ref a] ∧ Rd H a (.dK kvs) ∧ kvs.map (·.1) = ks.map Sum.inr ∧ ks.length < 64 ∧ ∀ ys p, ys.Perm ks → sortedS ys = true → H p = none → Q (.ref p) (upd H p (.lst (ys.map V.str)))
section
variable {σ : L2.St} {G G0 H0 H : Hp} {cs : List (Addr × HO)} {ta tb te : TE} {d : Addr} {o : HO} {kvs : List (L2.Key × V)}
theorem F2.strs (l : List Nat) (G : Hp) : F2 (l.map RS) ((l.map eS).map V.str) G := by
  induction l with
  | nil => trivial
  | cons a r ih => exact ⟨rfl, ih⟩
theorem ev_sortedD {n : Nat} (h1 : EvP ta σ G cs (RV (.ref d))) (hm : (d, o) ∈ cs) (ho : IsK o kvs) (hk : kvs.map (·.1) = (List.range n).map eK) (hn : n ≤ 8) : EvP (tCB rSrtD (tCons ta tNil)) σ G cs (RSs (List.range n)) := fun H s hc Q q =>
  h1 H s hc _ fun x G1 H1 w1 p1 => by
    obtain rfl : x = .ref d := p1
    refine ⟨d, kvs, (List.range n).map eS, rfl, ho.rd ((hc.up w1) _ hm).1, ?_, ?_, fun ys p hp hs hH => ?_⟩
    · rw [hk, List.map_map]; rfl
    · rw [List.length_map, List.length_range]; omega
    · rw [sorted_names hn hp hs]
      exact q _ _ _ (w1.trans (.new w1.s hH)) ⟨p, _, rfl, upd_same, F2.strs _ _⟩
/-- the length of a dict of the ghost -/
theorem ev_lenG {kvt : List (List L2.Key × V)} (h1 : EvP ta σ G cs (fun v G => ∃ d, v = .ref d ∧ G d = some (.dT kvt))) : EvP (tCB rLenT (tCons ta tNil)) σ G cs (RV (.int (kvt.length : Int))) := fun H s hc Q q =>
  h1 H s hc _ fun x G1 H1 w1 p1 => by
    obtain ⟨d, rfl, hd⟩ := p1
    exact ⟨d, kvt, rfl, w1.s _ _ hd, q _ _ _ w1 rfl⟩
theorem tcall2 {t1 t2 t3 t4 : TE} {Q : VK} (h : (tCons t1 (tCons t2 (tCons t3 tNil))) σ H (fun vs H1 => spWit (vs ++ []) H1 (fun x H2 => t4 σ H2 fun y H3 => spOwn ([x, y] ++ []) H3 Q E0) E0)) :
    tCall spOwn [] E0 (tCons (tCall spWit [] E0 (tCons t1 (tCons t2 (tCons t3 tNil)))) (tCons t4 tNil)) σ H Q := h
/-- owners(without(..), rest) -/
theorem ev_ow {x : WitIn} (hj : (x.dj, x.jo) ∈ cs) (hu : (x.du, .dT (sV x.used)) ∈ cs) (pre : WitPre x G) {t1 t2 t3 t4 : TE} (h1 : EvP t1 σ G cs (RV (.ref x.dj))) (h2 : EvP t2 σ G cs (RSs x.names)) (h3 : EvP t3 σ G cs (RV (.ref x.du))) (h4 : EvP t4 σ G cs (RSs x.names)) :
    EvP (tCall spOwn [] E0 (tCons (tCall spWit [] E0 (tCons t1 (tCons t2 (tCons t3 tNil)))) (tCons t4 tNil))) σ G cs (fun v G => ∃ d, v = .ref d ∧ G d = some (.dT (oV (K97.owners (K97.without x.N x.names x.used) x.names)))) := fun H s hc Q q => by
    refine tcall2 ?_
    refine (ea_cons h1 (ea_cons h2 (ea_cons h3 ea_nil))) H s hc _ fun vs G1 H1 w1 p1 => ?_
    rw [List.append_nil]
    have hc1 := hc.up w1
    have pre1 : WitPre x G1 := ⟨pre.g, pre.k, pre.j.mono w1.g, pre.nm, pre.nd, pre.us, pre.few⟩
    refine ⟨p1.len.symm, G1, x, w1.s, p1, pre1, fun y hy => ?_, fun d G2 H2 wvs hd w2 gd ed jr => ?_⟩
    · simp only [List.mem_cons, List.not_mem_nil, or_false] at hy
      rcases hy with rfl | rfl
      · exact hc1 _ hj
      · exact hc1 _ hu
    · refine (h4.up (w1.g.trans w2.g)) H2 w2.s (hc1.up w2) _ fun y G3 H3 w3 p3 => ?_
      refine ⟨rfl, G3, ⟨K97.without x.N x.names x.used, x.U, d, .dK wvs, wvs, x.names⟩, w3.s, ⟨⟨rfl, p3, trivial⟩, ⟨⟨K97.without_U pre.g.sub, pre.g.lt, pre.g.few, fun p hp => ?_, fun nm => ?_⟩, .inl rfl, jr.mono w3.g, fun i hi => ?_, pre.few⟩⟩, fun y hy => ?_, by simp, fun v G4 H4 w4 o => q v G4 H4 (((w1.trans w2).trans w3).trans w4) o⟩
      · unfold K97.without at hp
        obtain ⟨nm, hnm, rfl⟩ := List.mem_map.mp hp
        exact pre.g.nm8 (pre.nm nm hnm)
      · by_cases hnm : nm ∈ x.names
        · rw [K97.jn_without hnm]
          exact Nat.le_trans (List.length_filter_le _ _) (pre.g.len nm)
        · have : jn (K97.without x.N x.names x.used) nm = [] := by
            cases e : jn (K97.without x.N x.names x.used) nm with
            | nil => rfl
            | cons k r =>
              have := jn_in (N := K97.without x.N x.names x.used) (nm := nm) (k := k) (by rw [e]; exact List.mem_cons_self)
              unfold K97.without at this
              rw [List.map_map] at this
              obtain ⟨y, hy, e⟩ := List.mem_map.mp this
              exact absurd (show nm ∈ x.names from e ▸ hy) hnm
          rw [this]
          exact Nat.zero_le _
      · show i ∈ (K97.without x.N x.names x.used).map (·.1)
        unfold K97.without
        rw [List.map_map]
        exact List.mem_map.mpr ⟨i, hi, rfl⟩
      · obtain rfl := List.mem_singleton.mp hy
        exact ⟨w3.h _ _ ed, w3.f _ _ ed gd⟩
/-- used.pop(key) -/
theorem s_popT {K : PySem.W.Frag} {D : Ends} {i : Nat} {kvt : List (List L2.Key × V)} {kt : List L2.Key} {v : V} (c : Cel G0 H0 G H ((d, .dT kvt) :: cs)) (hl : σ[i]? = some (some (.ref d))) (h : EvP te σ G ((d, .dT kvt) :: cs) (RK kt)) (hv : valV kvt kt = some v)
    (k : ∀ G2 H2, Cel G0 H0 G2 H2 ((d, .dT (dropK kvt kt)) :: cs) → L2.Same G G2 → D.nx σ H2) : tDrop (tBM K "dict" rPopT1 (tVar i) (tCons te tNil)) D σ H :=
  ⟨.ref d, hl, .inr (.inr (.inl ⟨rfl, .inr ⟨_, c.hd⟩⟩)), h H c.s c.hc _ fun x G1 H1 w p => by
    obtain ⟨b, rfl, hb⟩ := p
    exact ⟨d, kvt, kt, b, v, rfl, rfl, (c.go w).hd, w.s _ _ hb, hv, k G1 _ ((c.go w).put _) w.g⟩⟩
end
end KW
end
section
set_option Elab.async false
set_option linter.all false
set_option maxRecDepth 100000
set_option maxHeartbeats 2000000
namespace KW
open PySem PySem.Spec PyProof.Rows L2
open K97 (Gr OW jn putO augL kuhn Ow uns matchKey matchL matchM)
abbrev sMat : Stmt := top 15
def N_Mat : List Str := ["pair", "joined", "names", "left", "used", "found", "at", "name", "rest", "key"]
theorem scMat : FnScope N_Mat ["pair"] (defScope sMat) := ⟨rfl, rfl, rfl, by decide +kernel, rfl, by decide +kernel, by decide +kernel⟩
theorem val_sV {s : List Nat} {k : Nat} (hs : ∀ x ∈ s, x < 8) (hk : k < 8) (hm : k ∈ s) : valV (sV s) (kK k) = some (.bl true) := by
  induction s with
  | nil => simp at hm
  | cons a r ih =>
    show valV ((kK a, V.bl true) :: sV r) (kK k) = _
    by_cases e : a = k
    · subst e; exact valV_pos rfl
    · rw [valV_neg fun z => e (kK_inj (hs a List.mem_cons_self) hk z)]
      refine ih (fun x hx => hs x (List.mem_cons_of_mem _ hx)) ?_
      rcases List.mem_cons.mp hm with h | h
      · exact absurd h.symm e
      · exact h
structure MatIn where
  keys : List Nat
  N : Gr
  U : List Nat
  n : Nat
  dj : Addr
  jo : HO
  jvs : List (L2.Key × V)
structure MatPre (x : MatIn) (G : Hp) : Prop where
  g : GOk x.N x.U
  k : IsK x.jo x.jvs
  j : JR x.N x.jvs G
  nm : x.N.map (·.1) = List.range x.n
  ks : x.jvs.map (·.1) = (List.range x.n).map eK
  few : x.n ≤ 6
/-- what is found: a key to each name -/
def FR (ms : List (Nat × Nat)) (fvs : List (L2.Key × V)) (G : Hp) : Prop := DRel (ms.map fun p => eK p.1) (ms.map fun p => RK (kK p.2)) fvs G
def spMat : Sp := fun vs H Q _ => vs.length = 1 ∧ ∃ (G : Hp) (x : MatIn), L2.Same G H ∧ F2 [RT [RKs x.keys, RV (.ref x.dj)]] vs G ∧ MatPre x G ∧ HC [(x.dj, x.jo)] G H ∧
  ∀ d G2 H2 fvs, H d = none → Gw G H G2 H2 → G2 d = none → H2 d = some (.dK fvs) → FR (matchM x.N (List.range x.n)) fvs G2 → Q (.ref d) H2
/-- a cell of a body that began with the caller's cells: it is new to the caller -/
theorem Cel.fresh {G0 H0 G H : Hp} {cs cs0 : List (Addr × HO)} {l : Addr} {o : HO} (c : Cel G0 (mask H0 cs0) G H cs) (h : (l, o) ∈ cs) (hn : l ∉ cs0.map (·.1)) : H l = some o ∧ G l = none ∧ H0 l = none := by
  obtain ⟨h1, h2, h3⟩ := c.at_ (l, o) h
  exact ⟨h1, h2, by rw [← mask_out (H := H0) hn]; exact h3⟩
section
variable {P : Program} {w : World} {K : PySem.W.Frag} {mg : Str → Option Value} {base : Heap} {C : Addr} {σ : L2.St} {G0 H0 G H : Hp} {cs : List (Addr × HO)}
theorem dn_mat (Dd : Df K mg "match" sMat) (B : Kit P w K mg base C) (D2 : Dn P w K mg base "owners" 9 ["joined", "names"] spOwn) (D3 : Dn P w K mg base "without" 1 ["joined", "names", "used"] spWit) : Dn P w K mg base "match" 10 ["pair"] spMat := by
  refine dn_of Dd scMat (fun _ _ _ _ _ _ us hl => match us, hl with | [_], _ => rfl) (fun vs H Q E h => h.1) (fun fa cdv A0 outer st H vs Q E hr h => ?_)
  obtain ⟨_, G, ⟨keys, N, U, n, dj, jo, jvs⟩, sg, hF, ⟨gok, isk, jr, hnm, hks, few⟩, hcl, q⟩ := h
  obtain ⟨v0, rfl, h0⟩ := one_of hF
  dsimp only at *
  have nd := scMat.nd
  have hu := hu_of hr
  refine ⟨_, (pss_cons (ps_set (i := 1) nd rfl (.inl rfl) (pe_ix ix_tup (pv 0) pe_int (fun _ _ => rfl)))
  (pss_cons (ps_set (i := 2) nd rfl (.inl rfl) (pe_callB (call_sortedD rfl) (by rfl) B.sorted boot_sorted (pa_cons (pv 1) pa_nil)))
  (pss_cons (ps_set (i := 3) nd rfl (.inl rfl) (pe_callB call_len_dT (by rfl) B.len PySem.boot_len (pa_cons (pe_dn D2 (hr.mono (by decide)) (by rfl) (pa_cons (pv 1) (pa_cons (pv 2) pa_nil))) pa_nil)))
  (pss_cons (ps_set (i := 4) nd rfl (.inl rfl) pe_dnewT)
  (pss_cons (ps_set (i := 5) nd rfl (.inl rfl) pe_dnewK)
  (pss_cons (ps_for PassesOwn.never rfl (pi_enum (by rfl) B.enum (pa_cons (pv 2) pa_nil)) (pg_tup rfl (pgs_cons (pg_name (i := 6) nd rfl (.inl rfl)) (pgs_cons (pg_name (i := 7) nd rfl (.inl rfl)) pgs_nil)))
  (pss_cons (ps_set (i := 8) nd rfl (.inl rfl) (pe_slice sl_list (pv 2) (po_some (pe_op op_add (pv 6) pe_int)) po_none))
    (pss_one (ps_for PassesOwn.never rfl (pi_list (pe_dget hu (pv 1) (pv 7) (fun _ _ => rfl))) (pg_name (i := 9) nd rfl (.inl rfl))
    (pss_one (ps_if (pt_cmp (pc_dnotin hu (pv 9) (pv 4))) (pss_cons (ps_dput hu (pv 4) (pv 9) pe_bl rfl)
        (pss_cons (ps_if (pt_cmpR op_eq (pe_callB call_len_dT (by rfl) B.len PySem.boot_len (pa_cons (pe_dn D2 (hr.mono (by decide)) (by rfl) (pa_cons (pe_dn D3 (hr.mono (by decide)) (by rfl) (pa_cons (pv 1) (pa_cons (pv 8) (pa_cons (pv 4) pa_nil)))) (pa_cons (pv 8) pa_nil))) pa_nil)) (pe_op op_sub (pv 3) pe_int) (nomark _)) (pss_cons (ps_dput hu (pv 5) (pv 7) (pv 9) rfl)
          (pss_cons (ps_aug (i := 3) nd rfl (.inl rfl) pe_int ip_sub)
          (pss_one ps_break))) pss_nil)
        (pss_one (ps_expr (pe_bm PySem.F.plainAttrs_dict PySem.F.slot_dict_pop PySem.F.type_dict_pop (mt_popT1 hu) (pv 4) (pa_cons (pv 9) pa_nil)))))) pss_nil))))))
  (pss_one (ps_ret (pv 5))))))))), ?_⟩
  have c := Cel.given sg hcl (by simp)
  refine q_set c (P := RV (.ref dj)) (ev_op (ev_var rfl h0) ev_c (rv_ixT (i := 1) rfl)) fun v1 G1 H1 c1 s1 p1 => ?_
  obtain rfl : v1 = .ref dj := p1
  refine q_set c1 (P := RSs (List.range n)) (ev_sortedD (ev_var rfl rfl) mem_head isk hks (by omega)) fun vn G2 H2 c2 s2 pn => ?_
  have s12 := s1.trans s2
  refine q_set c2 (P := RV (.int ((K97.owners N (List.range n)).length : Int))) (EvP.is (ev_lenG (kvt := oV (K97.owners N (List.range n))) (ev_callC (In := _) (cells := _) (Out := fun (x : OwnIn) v G => ∃ d, v = .ref d ∧ G d = some (.dT (oV (K97.owners x.N x.names)))) (n := 2) (⟨N, U, dj, jo, jvs, List.range n⟩ : OwnIn) (ea_cons (P1 := RV (.ref dj)) (ev_var rfl rfl) (ea_cons (P1 := RSs (List.range n)) (ev_var rfl pn) ea_nil)) (F2.length_is rfl) (fun vs G2 s f => ⟨f, ⟨gok, isk, jr.mono (s12.trans s), fun i hi => by rw [hnm]; exact hi, (by rw [List.length_range]; omega)⟩⟩) (by simp) (by simp))) (by unfold oV; rw [List.length_map])) fun vl G3 H3 c3 s3 pl => ?_
  obtain rfl : vl = _ := pl
  refine q_setN c3 en_dT fun du o G4 H4 c4 s4 ho => ?_
  subst ho
  refine q_setN c4 en_dK fun df o G5 H5 c5 s5 ho => ?_
  subst ho
  have c5 := c5.swap
  have s25 := (s3.trans s4).trans s5
  refine q_for (cs' := []) c5 (ew_enum (Rs := (List.range n).map RS) (ea_cons (ev_var rfl (up s25 pn)) ea_nil))
    (fun i s' g h => ∃ o6 o7 o8 o9 u ms fvs l, s' = [some v0, some (.ref dj), some vn, some (.int ((l : Nat) : Int)), some (.ref du), some (.ref df), o6, o7, o8, o9] ∧ Cel G (mask H [(dj, jo)]) g h [(du, .dT (sV u)), (df, .dK fvs), (dj, jo)] ∧ L2.Same G2 g ∧
      FR ms fvs g ∧ (∀ k ∈ u, k ∈ U) ∧ u.Nodup ∧ (∀ p ∈ ms, p.1 < i) ∧ ms.length ≤ i ∧ matchL N ((List.range n).drop i) u ms l = matchM N (List.range n))
    (fun i s' g h ⟨_, _, _, _, _, _, _, _, _, cc, _⟩ => ⟨cc.s, .nil⟩) (fun G6 H6 c6 s6 => ⟨none, none, none, none, [], [], [], _, rfl, c6, s25.trans s6, .nil, fun k hk => by simp at hk, List.nodup_nil, fun p hp => by simp at hp, Nat.le_refl _, rfl⟩) ?_ ?_
  · rintro i s' g h x hi sg' ⟨o6, o7, o8, o9, u, ms, fvs, l, rfl, cc, sG, hf, huU, huN, hms, hml, hmat⟩ g2 h2 w2 hY
    rw [List.length_map, List.length_range] at hi
    have cc2 := cc.go w2
    refine g_tup2 hY cc2.s fun yi yn q1 q2 => ?_
    obtain rfl : yi = .int (i : Int) := q1
    have q2 := q2.map (x := i) (List.getElem?_range hi)
    obtain rfl : yn = .str (eS i) := q2
    have hi8 : i < 8 := by omega
    have hmem : i ∈ N.map (·.1) := by rw [hnm]; exact List.mem_range.mpr hi
    have edrop : (List.range n).drop i = i :: (List.range n).drop (i + 1) := by
      rw [List.drop_eq_getElem_cons (by rw [List.length_range]; exact hi), List.getElem_range]
    rw [edrop] at hmat
    have hmat : (match matchKey N ((List.range n).drop (i + 1)) u l (jn N i) with
      | none => matchL N ((List.range n).drop (i + 1)) u ms l
      | some k => matchL N ((List.range n).drop (i + 1)) (u ++ [k]) (ms ++ [(i, k)]) (l - 1)) = matchM N (List.range n) := hmat
    refine q_set cc2 (P := RSs ((List.range n).drop (i + 1))) ?_ fun vr g3 h3 c3' s3' pr => ?_
    · unfold RSs
      rw [List.map_drop]
      refine ev_from (m := by rw [← List.map_drop]; exact moA_map) (ev_var rfl (up (sG.trans w2.g) pn)) (EvP.is (a := .int ((i : Int) + 1)) (ev_add (ev_var rfl rfl) ev_c) (congrArg V.int (by omega))) (by rw [List.length_map, List.length_range]; omega)
    obtain ⟨vj, hvj, hRj⟩ := jr.get i hmem
    have sA := ((s12.trans sG).trans w2.g).trans s3'
    have hrest : ∀ y ∈ (List.range n).drop (i + 1), y ∈ N.map (·.1) := fun y hy => by rw [hnm]; exact List.mem_of_mem_drop hy
    have hrnd : ((List.range n).drop (i + 1)).Nodup := List.nodup_range.sublist (List.drop_sublist _ _)
    have hrlen : ((List.range n).drop (i + 1)).length ≤ 100 := by rw [List.length_drop, List.length_range]; omega
    generalize (List.range n).drop (i + 1) = rest at hmat pr hrest hrnd hrlen
    have hu8 : ∀ k ∈ u, k < 8 := fun k hk => gok.lt k (huU k hk)
    have hul : u.length ≤ 100 := by
      have := K97.nodup_le huN huU
      have := gok.few
      omega
    refine s_for (cs' := [(dj, jo)]) c3' (ew_list (Rs := (jn N i).map fun k => RK (kK k)) (ev_dgetK (k := eK i) (P := RKs (jn N i)) mem_head isk (ev_var rfl rfl) (ev_var rfl rfl) hvj (up sA hRj)))
      (fun j s' g' h => ∃ o9, s' = [some v0, some (.ref dj), some vn, some (.int ((l : Nat) : Int)), some (.ref du), some (.ref df), some (.int (i : Int)), some (.str (eS i)), some vr, o9] ∧ Cel G (mask H [(dj, jo)]) g' h [(du, .dT (sV u)), (df, .dK fvs), (dj, jo)] ∧ L2.Same g3 g' ∧
        matchKey N rest u l ((jn N i).drop j) = matchKey N rest u l (jn N i))
      (fun i s' g h ⟨_, _, cc, _⟩ => ⟨cc.s, cc.hc.sub (by simp)⟩) (fun G6 H6 c6 s6 => ⟨_, rfl, c6, s6, rfl⟩) ?_ ?_
    · rintro j s' g4 h4 x4 hj sg4 ⟨p9, rfl, c4', sG4, hmk⟩ g5 h5 w5 hY5
      rw [List.length_map] at hj
      have hY5 := hY5.map (List.getElem?_eq_getElem hj)
      have hkU : (jn N i)[j] ∈ U := gok.sub i _ (List.getElem_mem hj)
      rw [List.drop_eq_getElem_cons hj] at hmk
      generalize (jn N i)[j] = k at hY5 hkU hmk
      have hk8 := gok.lt k hkU
      have hmk : (if u.contains k then matchKey N rest u l ((jn N i).drop (j + 1)) else if (K97.owners (K97.without N rest (u ++ [k])) rest).length + 1 = l then some k else matchKey N rest u l ((jn N i).drop (j + 1))) = matchKey N rest u l (jn N i) := hmk
      have c5' := c4'.go w5
      refine s_if c5' (et_B (ev_dninT (kt := kK k) mem_head (.inl rfl) (ev_var rfl hY5) (ev_var rfl rfl))) (fun hb g6 h6 c6 s6 => ?_) (fun hb g6 h6 c6 s6 => ?_)
      · rw [has_sV hu8 hk8] at hb
        have hnu : k ∉ u := by simpa using hb
        rw [if_neg (by simpa using hnu)] at hmk
        refine q_dputT (kt := kK k) (P := RV (.bl true)) c6 ev_c (ev_var rfl rfl) (ev_var rfl (up s6 hY5)) (by unfold sV; rw [List.length_map]; omega) fun vt g7 h7 c7 s7 p7 => ?_
        obtain rfl : vt = .bl true := p7
        rw [put_sV hu8 hk8 hnu] at c7
        have hu8' : ∀ y ∈ u ++ [k], y < 8 := fun y hy => by
          rcases List.mem_append.mp hy with hy | hy
          · exact hu8 y hy
          · rw [List.mem_singleton.mp hy]; exact hk8
        have s37 := ((sG4.trans w5.g).trans s6).trans s7
        refine q_if c7 (et_test (ev_op (ev_lenG (kvt := oV (K97.owners (K97.without N rest (u ++ [k])) rest)) (ev_ow (x := ⟨N, U, dj, jo, jvs, rest, du, u ++ [k]⟩) mem_3 mem_head ⟨gok, isk, jr.mono (sA.trans s37), hrest, hrnd, hu8', hrlen⟩ (ev_var rfl rfl) (ev_var rfl (up s37 pr)) (ev_var rfl rfl) (ev_var rfl (up s37 pr)))) (ev_sub (ev_var rfl rfl) ev_c) (rv_eq rfl))) (fun hb g8 h8 c8 s8 => ?_) (fun hb g8 h8 c8 s8 => ?_)
        · have hlen : (K97.owners (K97.without N rest (u ++ [k])) rest).length + 1 = l := by
            have := of_decide_eq_true hb
            injection this with this
            unfold oV at this
            rw [List.length_map] at this
            omega
          rw [if_pos hlen] at hmk
          rw [← hmk] at hmat
          have hnk : eK i ∉ ms.map fun p => eK p.1 := fun hm => by
            obtain ⟨p, hp, e⟩ := List.mem_map.mp hm
            have := hms p hp
            have := eK_inj (by omega) hi8 e
            omega
          have sF := ((w2.g.trans s3').trans s37).trans s8
          have hfl : fvs.length ≤ 1000 := by
            have := hf.len.1
            rw [List.length_map] at this
            omega
          refine q_dputK (k := eK i) (P := RK (kK k)) c8.swap (ev_var rfl (up ((s6.trans s7).trans s8) hY5)) (ev_var rfl rfl) (ev_var rfl rfl) hfl fun vk g9 h9 c9 s9 p9 => ?_
          refine ⟨_, rfl, _, _, rfl, rfl, ?_⟩
          have hl1 : ((l : Int) - 1) = ((l - 1 : Nat) : Int) := by omega
          refine ⟨g9, sF.trans s9, some (.int (i : Int)), some (.str (eS i)), some vr, some x4, u ++ [k], ms ++ [(i, k)], putK fvs (eK i) vk, l - 1, ?_, c9.swap, (sG.trans sF).trans s9, ?_, ?_, K97.nodup_snoc huN hnu, ?_, ?_, hmat⟩
          · rw [← hl1]; rfl
          · unfold FR
            rw [List.map_append, List.map_append]
            exact (hf.mono (m := moA_map) (sF.trans s9)).put hnk p9
          · intro y hy
            rcases List.mem_append.mp hy with hy | hy
            · exact huU y hy
            · rw [List.mem_singleton.mp hy]; exact hkU
          · intro p hp
            rcases List.mem_append.mp hp with hp | hp
            · have := hms p hp; omega
            · rw [List.mem_singleton.mp hp]; show i < i + 1; omega
          · rw [List.length_append]; simp; omega
        · have hlen : ¬ (K97.owners (K97.without N rest (u ++ [k])) rest).length + 1 = l := fun z => by
            have := of_decide_eq_false hb
            apply this
            unfold oV
            rw [List.length_map]
            exact congrArg V.int (by omega)
          rw [if_neg hlen] at hmk
          refine s_popT (kt := kK k) (v := .bl true) c8 rfl (ev_var rfl (up ((s6.trans s7).trans s8) hY5)) ?_ fun g9 h9 c9 s9 => ?_
          · exact val_sV hu8' hk8 (List.mem_append_right _ (List.mem_singleton.mpr rfl))
          · rw [drop_sV hu8 hk8 hnu] at c9
            exact ⟨g9, ((w5.g.trans s6).trans s7).trans (s8.trans s9), _, rfl, c9, s37.trans (s8.trans s9), hmk⟩
      · rw [has_sV hu8 hk8] at hb
        have hyu : u.contains k = true := by simpa using hb
        rw [if_pos hyu] at hmk
        exact ⟨g6, w5.g.trans s6, _, rfl, c6, (sG4.trans w5.g).trans s6, hmk⟩
    · rintro s' g4 h4 sg4 ⟨p9, rfl, c4', sG4, hmk⟩
      rw [List.length_map, List.drop_length] at hmk
      rw [← hmk] at hmat
      have sF := (w2.g.trans s3').trans sG4
      exact ⟨g4, sF, _, _, _, _, u, ms, fvs, l, rfl, c4', sG.trans sF, hf.mono (m := moA_map) sF, huU, huN, fun p hp => by have := hms p hp; omega, by omega, hmat⟩
  · rintro s' g h sg' ⟨o6, o7, o8, o9, u, ms, fvs, l, rfl, cc, sG, hf, huU, huN, hms, hml, hmat⟩
    rw [List.length_map, List.length_range, List.drop_eq_nil_of_le (by rw [List.length_range]; exact Nat.le_refl _)] at hmat
    have hmat : ms = matchM N (List.range n) := hmat
    have hne : df ∉ ([(dj, jo)] : List (Addr × HO)).map (·.1) := by
      have := cc.nd
      simp at this ⊢
      intro z
      exact this.2 z
    obtain ⟨k1, k2, k3⟩ := cc.fresh mem_2 hne
    refine ⟨_, rfl, q df g h fvs k3 (cc.read hcl (by simp)) k2 k1 ?_⟩
    rw [← hmat]
    exact hf
end
end KW
end
section
set_option Elab.async false
set_option linter.all false
set_option maxRecDepth 100000
set_option maxHeartbeats 2000000
namespace KW
open PySem PySem.Spec PyProof.Rows L2
open K97 (Gr jn reachL visit)
/-! ### dicts whose keys are names -/
def tV (s : List Nat) : List (L2.Key × V) := s.map fun k => (eK k, .bl true)
theorem has_tV {s : List Nat} {k : Nat} (hs : ∀ x ∈ s, x < 8) (hk : k < 8) : (valV (tV s) (eK k)).isSome = s.contains k := by
  rw [Bool.eq_iff_iff, valV_hasP, List.contains_iff_mem]
  unfold tV
  rw [List.map_map]
  constructor
  · intro h
    obtain ⟨x, hx, e⟩ := List.mem_map.mp h
    exact eK_inj (hs x hx) hk e ▸ hx
  · exact fun h => List.mem_map.mpr ⟨k, h, rfl⟩
theorem put_tV {s : List Nat} {k : Nat} (hs : ∀ x ∈ s, x < 8) (hk : k < 8) (hn : k ∉ s) : putK (tV s) (eK k) (.bl true) = tV (s ++ [k]) := by
  rw [putK_new]
  · unfold tV; rw [List.map_append]; rfl
  · have := has_tV hs hk
    rw [show s.contains k = false by simpa using hn] at this
    cases h : valV (tV s) (eK k) with
    | none => rfl
    | some v => rw [h] at this; cases this
/-- what each name needs -/
structure NR (N : Gr) (nvs : List (L2.Key × V)) (G : Hp) : Prop where
  get : ∀ i : Nat, i ∈ N.map (·.1) → ∃ v, valV nvs (eK i) = some v ∧ RSs (jn N i) v G
theorem NR.mono {N : Gr} {nvs : List (L2.Key × V)} {G G' : Hp} (h : NR N nvs G) (e : L2.Same G G') : NR N nvs G' := ⟨fun i hi => by
  obtain ⟨v, h1, h2⟩ := h.get i hi
  exact ⟨v, h1, up e h2⟩⟩
structure NOk (N : Gr) (n : Nat) : Prop where
  nm : N.map (·.1) = List.range n
  sub : ∀ nm, ∀ k ∈ jn N nm, k < n
  len : ∀ nm, (jn N nm).length ≤ 100
  few : n ≤ 6
abbrev sRea : Stmt := top 17
def N_Rea : List Str := ["needs", "start", "found", "waiting", "name"]
theorem scRea : FnScope N_Rea ["needs", "start"] (defScope sRea) := ⟨rfl, rfl, rfl, by decide +kernel, rfl, by decide +kernel, by decide +kernel⟩
structure ReaIn where
  N : Gr
  n : Nat
  dn : Addr
  no : HO
  nvs : List (L2.Key × V)
  x : Nat
structure ReaPre (x : ReaIn) (G : Hp) : Prop where
  g : NOk x.N x.n
  k : IsK x.no x.nvs
  j : NR x.N x.nvs G
  lt : x.x < x.n
def RTV (s : List Nat) : VP := fun v G => ∃ d, v = .ref d ∧ G d = some (.dK (tV s))
instance {s : List Nat} : Mo (RTV s) := ⟨fun _ _ _ e ⟨d, h1, h2⟩ => ⟨d, h1, e _ _ h2⟩⟩
def spRea : Sp := spC (fun (x : ReaIn) vs G => F2 [RV (.ref x.dn), RS x.x] vs G ∧ ReaPre x G) (fun x => [(x.dn, x.no)]) (fun x => RTV (K97.reached x.N x.x)) 2
section
variable {P : Program} {w : World} {K : PySem.W.Frag} {mg : Str → Option Value} {base : Heap} {C : Addr} {σ : L2.St} {G0 H0 G H : Hp} {cs : List (Addr × HO)}
theorem et_truthC {te : TE} {l : Addr} {xs : List V} (h : EvP te σ G cs (RV (.ref l))) (hm : (l, .lst xs) ∈ cs) : EvT (fun σ H Q => te σ H fun x H' => ∃ k, TruV K x H' k ∧ Q k H') σ G cs (!xs.isEmpty) := fun H s hc Q q =>
  h H s hc _ fun v G2 H2 w p => by
    obtain rfl : v = .ref l := p
    exact ⟨!xs.isEmpty, .inl ⟨xs, .inl (.inl ((hc.up w) _ hm).1), rfl⟩, q _ _ w⟩
theorem dn_rea (Dd : Df K mg "reached" sRea) (B : Kit P w K mg base C) : Dn P w K mg base "reached" 1 ["needs", "start"] spRea := by
  refine dn_of Dd scRea (fun _ _ _ _ _ _ us hl => match us, hl with | [_, _], _ => rfl) (fun vs H Q E h => h.1) (fun fa cdv A0 outer st H vs Q E hr h => ?_)
  obtain ⟨_, G, ⟨N, n, dn, no, nvs, x0⟩, sg, ⟨hF, gok, isk, nr, hlt⟩, hcl, ndc, q⟩ := h
  obtain ⟨v0, v1, rfl, h0, h1⟩ := two_of hF
  dsimp only at *
  obtain rfl : v0 = .ref dn := h0
  obtain rfl : v1 = .str (eS x0) := h1
  have nd := scRea.nd
  have hu := hu_of hr
  have few := gok.few
  refine ⟨_, (pss_cons (ps_set (i := 2) nd rfl (.inl rfl) pe_dnewK)
  (pss_cons (ps_set (i := 3) nd rfl (.inl rfl) (pe_lst (pa_cons (pv 1) pa_nil)))
  (pss_cons (ps_while PassesOwn.never (pt_truth (pv 3) (by intro _; rfl))
  (pss_one (ps_for PassesOwn.never rfl (pi_list (pe_dget hu (pv 0) (pe_bm0 PySem.F.plainAttrs_list PySem.F.slot_list_pop PySem.F.type_list_pop mt_pop (pv 3)) (fun _ _ => rfl))) (pg_name (i := 4) nd rfl (.inl rfl))
    (pss_one (ps_if (pt_cmp (pc_dnotin hu (pv 4) (pv 2))) (pss_cons (ps_dput hu (pv 2) (pv 4) pe_bl rfl)
        (pss_one (ps_expr (pe_bm PySem.F.plainAttrs_list PySem.F.slot_list_append PySem.F.type_list_append mt_append (pv 3) (pa_cons (pv 4) pa_nil))))) pss_nil)))))
  (pss_one (ps_ret (pv 2)))))), ?_⟩
  have c := Cel.given sg hcl ndc
  refine q_setN c en_dK fun df o G1 H1 c1 s1 ho => ?_
  subst ho
  refine q_setN (P := fun o G => o = .lst [.str (eS x0)]) c1 (fun H s hc Q q => ⟨_, rfl, by simp [sizeLine_eq], fun p hp => q p _ G1 _ hp (.newH s hp) (s.free hp) upd_same rfl⟩) fun lw o G2 H2 c2 s2 ho => ?_
  subst ho
  have c2 := c2
  refine while_le (fun m σ' h' => ∃ g f ws o4, σ' = [some (.ref dn), some (.str (eS x0)), some (.ref df), some (.ref lw), o4] ∧ Cel G (mask H [(dn, no)]) g h' [(lw, .lst (ws.map fun i => .str (eS i))), (df, .dK (tV f)), (dn, no)] ∧ L2.Same G g ∧ f.Nodup ∧ (∀ x ∈ f, x < n) ∧ (∀ x ∈ ws, x < n) ∧
    ws.length + (n - f.length) < m ∧ m ≤ 9 ∧ reachL N m f ws = K97.reached N x0) 9 ⟨G2, [], [x0], none, rfl, c2, s1.trans s2, List.nodup_nil, fun x h => by simp at h, fun x h => by rw [List.mem_singleton.mp h]; exact hlt, by simp; omega, Nat.le_refl _, rfl⟩ ?_
  rintro m σ' h' ⟨g, f, ws, o4, rfl, cc, sG, hfN, hfU, hwU, hm, hm9, hre⟩
  refine (et_truthC (ev_var rfl rfl) mem_head) h' cc.s cc.hc _ fun g2 h2 w2 => ?_
  have cc2 := cc.go w2
  cases m with
  | zero => omega
  | succ m =>
    cases hgl : ws.getLast? with
    | none =>
      have hw : ws = [] := List.getLast?_eq_none_iff.mp hgl
      subst hw
      refine iteF ?_
      have e : reachL N (m + 1) f [] = f := rfl
      rw [e] at hre
      obtain ⟨c3, s3⟩ := cc2.swap.freeze
      refine s_ret c3 (ev_var rfl (P := RTV f) ⟨df, rfl, upd_same⟩) fun v g8 h8 c8 s8 p8 => q v g8 h8 (c8.read hcl (by simp)) ?_
      rw [← hre]
      exact p8
    | some x =>
      have hne : ws ≠ [] := fun z => by rw [z] at hgl; cases hgl
      have hemp : (!(ws.map fun i => V.str (eS i)).isEmpty) = true := by
        cases ws with
        | nil => exact absurd rfl hne
        | cons a r => rfl
      rw [hemp]
      have ere : reachL N (m + 1) f ws = reachL N m ((jn N x).foldl visit (f, ws.dropLast)).1 ((jn N x).foldl visit (f, ws.dropLast)).2 := by
        show (match ws.getLast? with | none => f | some x => _) = _
        rw [hgl]
      have hxw : x ∈ ws := List.mem_of_getLast? hgl
      have hxn := hwU x hxw
      obtain ⟨vj, hvj, hRj⟩ := nr.get x (by rw [gok.nm]; exact List.mem_range.mpr hxn)
      refine iteT ⟨fun σ' h' => ∃ g f ws o4, σ' = [some (.ref dn), some (.str (eS x0)), some (.ref df), some (.ref lw), o4] ∧ Cel G (mask H [(dn, no)]) g h' [(lw, .lst (ws.map fun i => .str (eS i))), (df, .dK (tV f)), (dn, no)] ∧ L2.Same G g ∧ f.Nodup ∧ (∀ x ∈ f, x < n) ∧ (∀ x ∈ ws, x < n) ∧
        ws.length + (n - f.length) < m ∧ m ≤ 9 ∧ reachL N m f ws = K97.reached N x0, fun σ' h' hh => ⟨m, Nat.lt_succ_self m, hh⟩, ?_⟩
      have V0 := K97.visit_ok N (jn N x) (f, ws.dropLast)
      have hwl : ws.dropLast.length + 1 = ws.length := by
        rw [List.length_dropLast]
        have : ws.length ≠ 0 := fun z => hne (List.eq_nil_of_length_eq_zero z)
        omega
      have hlast : (ws.map fun i => V.str (eS i))[(ws.map fun i => V.str (eS i)).length - 1]? = some (.str (eS x)) := by
        rw [List.length_map, List.getElem?_map, ← List.getLast?_eq_getElem?, hgl]
        rfl
      have cp := cc2.put (.lst (ws.dropLast.map fun i => .str (eS i)))
      have key : ∀ D : Ends, D.nx = (fun σ' h' => ∃ g f ws o4, σ' = [some (.ref dn), some (.str (eS x0)), some (.ref df), some (.ref lw), o4] ∧ Cel G (mask H [(dn, no)]) g h' [(lw, .lst (ws.map fun i => .str (eS i))), (df, .dK (tV f)), (dn, no)] ∧ L2.Same G g ∧ f.Nodup ∧ (∀ x ∈ f, x < n) ∧ (∀ x ∈ ws, x < n) ∧
          ws.length + (n - f.length) < m ∧ m ≤ 9 ∧ reachL N m f ws = K97.reached N x0) →
          tFor (iList K (tC vj)) (gName 4) (tIfS (tB (tDNotIn (tVar 4) (tVar 2))) (tSeq (sDPut (tVar 2) (tVar 4) (tC (.bl true))) (tDrop (tBM K "list" rAppend (tVar 3) (tCons (tVar 4) tNil)))) tNext) D [some (.ref dn), some (.str (eS x0)), some (.ref df), some (.ref lw), o4] (upd h2 lw (.lst (ws.dropLast.map fun i => .str (eS i)))) := fun D hD => by
        refine s_for (cs' := []) cp (ew_list (Rs := (jn N x).map RS) (fun H s hc Q q => q vj _ H (.refl s) (up (sG.trans w2.g) hRj)))
          (fun j s' g h => ∃ o4, s' = [some (.ref dn), some (.str (eS x0)), some (.ref df), some (.ref lw), o4] ∧ Cel G (mask H [(dn, no)]) g h [(lw, .lst ((((jn N x).take j).foldl visit (f, ws.dropLast)).2.map fun i => .str (eS i))), (df, .dK (tV (((jn N x).take j).foldl visit (f, ws.dropLast)).1)), (dn, no)] ∧ L2.Same G g)
          (fun i s' g h ⟨_, _, cc, _⟩ => ⟨cc.s, .nil⟩) (fun G6 H6 c6 s6 => ⟨_, rfl, c6, (sG.trans w2.g).trans s6⟩) ?_ ?_
        · rintro j s' g4 h4 x4 hj sg4 ⟨p4, rfl, c4', sG4⟩ g5 h5 w5 hY5
          rw [List.length_map] at hj
          have hej := List.getElem?_eq_getElem hj
          have hY5 := hY5.map hej
          have hkn : (jn N x)[j] < n := gok.sub x _ (List.getElem_mem hj)
          have V1 := K97.visit_ok N ((jn N x).take j) (f, ws.dropLast)
          rw [foldl_take _ _ hej]
          generalize ((jn N x).take j).foldl visit (f, ws.dropLast) = r at c4' V1
          have hr1 : ∀ y ∈ r.1, y < n := fun y hy => (V1.new1 y hy).elim (fun h => hfU y h) (fun h => gok.sub x _ (List.mem_of_mem_take h))
          have hr2 : r.2.length ≤ 100 := by
            have h1 := V1.len
            have h2 := K97.nodup_le (V1.nd hfN) (m := List.range n) fun y hy => List.mem_range.mpr (hr1 y hy)
            rw [List.length_range] at h2
            dsimp only at h1
            omega
          have hr1l : r.1.length ≤ 100 := by
            have h2 := K97.nodup_le (V1.nd hfN) (m := List.range n) fun y hy => List.mem_range.mpr (hr1 y hy)
            rw [List.length_range] at h2
            omega
          generalize (jn N x)[j] = k at hY5 hkn
          obtain rfl : x4 = .str (eS k) := hY5
          have c5' := c4'.go w5
          refine s_if c5' (et_B (ev_dninK (k := eK k) mem_2 (.inl rfl) (ev_var rfl rfl) (ev_var rfl rfl))) (fun hb g6 h6 c6 s6 => ?_) (fun hb g6 h6 c6 s6 => ?_)
          · rw [has_tV (fun y hy => by have := hr1 y hy; omega) (by omega)] at hb
            have hnk : k ∉ r.1 := by simpa using hb
            refine q_dputK (k := eK k) (P := RV (.bl true)) c6.swap ev_c (ev_var rfl rfl) (ev_var rfl rfl) (by unfold tV; rw [List.length_map]; omega) fun vt g7 h7 c7 s7 p7 => ?_
            obtain rfl : vt = .bl true := p7
            rw [put_tV (fun y hy => by have := hr1 y hy; omega) (by omega) hnk] at c7
            refine s_app (P := RS k) c7.swap rfl (ev_var rfl rfl) (by rw [List.length_map]; omega) fun vn g8 h8 c8 s8 p8 => ?_
            obtain rfl : vn = .str (eS k) := p8
            have ev : visit r k = (r.1 ++ [k], r.2 ++ [k]) := if_neg (by simpa using hnk)
            rw [ev]
            refine ⟨g8, ((w5.g.trans s6).trans s7).trans s8, _, rfl, ?_, sG4.trans (((w5.g.trans s6).trans s7).trans s8)⟩
            rw [List.map_append]
            exact c8
          · rw [has_tV (fun y hy => by have := hr1 y hy; omega) (by omega)] at hb
            have ev : visit r k = r := if_pos (by simpa using hb)
            rw [ev]
            exact ⟨g6, w5.g.trans s6, _, rfl, c6, sG4.trans (w5.g.trans s6)⟩
        · rintro s' g4 h4 sg4 ⟨p4, rfl, c4', sG4⟩
          rw [List.length_map, List.take_length] at c4'
          rw [hD]
          have hr1 : ∀ y ∈ ((jn N x).foldl visit (f, ws.dropLast)).1, y < n := fun y hy => (V0.new1 y hy).elim (fun h => hfU y h) (fun h => gok.sub x _ h)
          refine ⟨g4, _, _, _, rfl, c4', sG4, V0.nd hfN, hr1, fun y hy => (V0.new2 y hy).elim (fun h => hwU y (List.dropLast_subset _ h)) (fun h => gok.sub x _ h), ?_, by omega, ere.symm.trans hre⟩
          have h1 := V0.len
          dsimp only at h1
          have h2 := K97.nodup_le (V0.nd hfN) (m := List.range n) fun y hy => List.mem_range.mpr (hr1 y hy)
          have h3 := K97.nodup_le hfN (m := ((jn N x).foldl visit (f, ws.dropLast)).1) V0.sub1
          rw [List.length_range] at h2
          omega
      have full : ∀ D : Ends, D.nx = (fun σ' h' => ∃ g f ws o4, σ' = [some (.ref dn), some (.str (eS x0)), some (.ref df), some (.ref lw), o4] ∧ Cel G (mask H [(dn, no)]) g h' [(lw, .lst (ws.map fun i => .str (eS i))), (df, .dK (tV f)), (dn, no)] ∧ L2.Same G g ∧ f.Nodup ∧ (∀ x ∈ f, x < n) ∧ (∀ x ∈ ws, x < n) ∧
          ws.length + (n - f.length) < m ∧ m ≤ 9 ∧ reachL N m f ws = K97.reached N x0) →
          tFor (iList K (tDGet (tVar 0) (tBM0 K "list" rPop (tVar 3)))) (gName 4) (tIfS (tB (tDNotIn (tVar 4) (tVar 2))) (tSeq (sDPut (tVar 2) (tVar 4) (tC (.bl true))) (tDrop (tBM K "list" rAppend (tVar 3) (tCons (tVar 4) tNil)))) tNext) D [some (.ref dn), some (.str (eS x0)), some (.ref df), some (.ref lw), o4] h2 := fun D hD => by
        obtain ⟨a', ea, hsq, r⟩ := key D hD
        have e2 : (ws.map fun i => V.str (eS i)).dropLast = ws.dropLast.map fun i => V.str (eS i) := by rw [List.map_dropLast]
        refine ⟨_, rfl, _, rfl, .inl ⟨rfl, _, .inl (.inl cc2.hd)⟩, lw, _, _, rfl, rfl, cc2.hd, hlast, dn, vj, rfl, ?_, a', ea, ?_, ?_⟩
        · rw [e2]
          exact .inl ⟨nvs, eK x, isk.rd (cp.hc _ mem_3).1, rfl, hvj.symm⟩
        · rw [e2]; exact hsq
        · rw [e2]; exact r
      exact full _ rfl
end
end KW
end
section
set_option Elab.async false
set_option linter.all false
set_option maxRecDepth 100000
set_option maxHeartbeats 1000000
namespace KW
open PySem PySem.Spec PyProof.Rows L2
/-! ### dict comprehensions: tuple keys, two sources -/
theorem dTurn2_out (kx vx gA jA gB jB : Expr) (testsA testsB : List Expr) (scp : Scope) (pos : Pos) (it : Value) (D : Addr) (env : Env) :
    compTurn (.DictComp kx vx [⟨gA, jA, testsA, 0⟩, ⟨gB, jB, testsB, 0⟩] scp pos) 0 it (.ref D) env = (do
      standAt jA.pos
      match ← pyNext it with
      | none => pure (.done .next)
      | some v =>
        letOwnedTupleGo gA it v
        assign gA env v
        let mut ok := true
        for c in testsA do
          if ok then ok ← isTrue c env (eval c env)
        if ok then
          let x ← eval jB env
          standAt jB.pos
          let x ← foldedSetIterable jB env x
          let _ ← runOwn (.compStart (.DictComp kx vx [⟨gA, jA, testsA, 0⟩, ⟨gB, jB, testsB, 0⟩] scp pos) 1 (← holding [x] (pyIter x)) (.ref D) env) env
        again (.compLoop (.DictComp kx vx [⟨gA, jA, testsA, 0⟩, ⟨gB, jB, testsB, 0⟩] scp pos) 0 it (.ref D) env)) := by rfl
theorem dTurn2_in (kx vx gA jA gB jB : Expr) (testsA testsB : List Expr) (scp : Scope) (pos : Pos) (it : Value) (D : Addr) (env : Env) :
    compTurn (.DictComp kx vx [⟨gA, jA, testsA, 0⟩, ⟨gB, jB, testsB, 0⟩] scp pos) 1 it (.ref D) env = (do
      standAt jB.pos
      match ← pyNext it with
      | none => pure (.done .next)
      | some v =>
        letOwnedTupleGo gB it v
        assign gB env v
        let mut ok := true
        for c in testsB do
          if ok then ok ← isTrue c env (eval c env)
        if ok then
          (do
            let kv ← eval kx env
            let vv ← holding [kv] (eval vx env)
            standAt { kx.pos with endLine := vx.pos.endLine, endCol := vx.pos.endCol }
            holding [kv, vv] (dictSet D kv vv))
        again (.compLoop (.DictComp kx vx [⟨gA, jA, testsA, 0⟩, ⟨gB, jB, testsB, 0⟩] scp pos) 1 it (.ref D) env)) := by rfl
section
variable {prog : Program} {w : World} {A : Around} {R : Result → Shared → Prop} {s : Shared} {kx vx gA jA gB jB : Expr} {testsA testsB : List Expr} {scp : Scope} {pos : Pos} {it : Value} {D : Addr} {env : Env}
theorem dLoop2_out (hFold : ∀ x, foldedSetIterable jB env x = pure x) (I : Nat → Shared → Prop)
    (goes : ∀ n s, I n s → wpAny (model prog w) A (pyNext it) (fun r m₁ => match r with
      | none => R (.ok .next) m₁
      | some v => wpAny (model prog w) A (letOwnedTupleGo gA it v) (fun _ m₇ => wpAny (model prog w) A (assign gA env v) (fun _ m₂ =>
          wpAny (model prog w) A (forIn testsA true fun c r => if r = true then do let ok ← isTrue c env (eval c env); pure (ForInStep.yield ok) else pure (ForInStep.yield r)) (fun ok m₃ =>
            if ok = true then wpAny (model prog w) A (eval jB env) (fun x m₄ => wpAny (model prog w) A (pyIter x) (fun it1 m₅ =>
              codeAny (model prog w) A (.compStart (.DictComp kx vx [⟨gA, jA, testsA, 0⟩, ⟨gB, jB, testsB, 0⟩] scp pos) 1 it1 (.ref D) env) (fun r s' => match r with
                | .ok _ => ∃ m, m < n ∧ I m s'
                | .error _ => False) m₅) (notedBy (model prog w) A env fun e s' => R (.error e) s') m₄) (notedBy (model prog w) A env fun e s' => R (.error e) s') m₃
            else ∃ m, m < n ∧ I m m₃) (notedBy (model prog w) A env fun e s' => R (.error e) s') m₂) (notedBy (model prog w) A env fun e s' => R (.error e) s') m₇) (notedBy (model prog w) A env fun e s' => R (.error e) s') m₁) (notedBy (model prog w) A env fun e s' => R (.error e) s') s)
    (n : Nat) (h : I n s) :
    codeAny (model prog w) A (.compLoop (.DictComp kx vx [⟨gA, jA, testsA, 0⟩, ⟨gB, jB, testsB, 0⟩] scp pos) 0 it (.ref D) env) R s := by
  refine codeAny_loop rfl I (fun n s hI => ?_) n h
  show wpAny _ A ((compTurn (.DictComp kx vx [⟨gA, jA, testsA, 0⟩, ⟨gB, jB, testsB, 0⟩] scp pos) 0 it (.ref D) env).onRaise (fun x => do noteFrame x env; theTreesLotGoes x)) _ _ s
  refine wpAny_noted ?_
  rw [dTurn2_out]
  refine wpAny_bind (wpAny_standAt (wpAny_bind (wpAny_mono (goes n s hI) (fun r m₁ g₁ => ?_) fun _ _ h' => h')))
  cases r with
  | none => exact wpAny_pure g₁
  | some v =>
    refine wpAny_bind (wpAny_mono g₁ (fun _ m₇ g₇ => ?_) fun _ _ h' => h')
    refine wpAny_bind (wpAny_mono g₇ (fun _ m₂ g₂ => wpAny_bind (wpAny_mono g₂ (fun ok m₃ g₃ => ?_) fun _ _ h' => h')) fun _ _ h' => h')
    cases ok with
    | false => exact wpAny_pure ⟨rfl, g₃⟩
    | true =>
      refine wpAny_bind (wpAny_mono g₃ (fun x m₄ g₄ => ?_) fun _ _ h' => h')
      refine wpAny_bind (wpAny_standAt (wpAny_bind (wpAny_of_eq (hFold x) (wpAny_bind (wpAny_holding (wpAny_mono g₄ (fun it1 m₅ g₅ => ?_) fun _ _ h' => h'))))))
      refine wpAny_bind (wpAny_runOwn ?_)
      rw [Around.mark_none]
      refine codeAny_mono g₅ fun r s' hr => ?_
      cases r with
      | ok f =>
        first
          | exact wpAny_pure ⟨rfl, hr⟩
          | exact wpAny_bind (wpAny_pure (wpAny_pure ⟨rfl, hr⟩))
      | error e => exact hr.elim
theorem dLoop2_in (I : Nat → Shared → Prop)
    (goes : ∀ n s, I n s → wpAny (model prog w) A (pyNext it) (fun r m₁ => match r with
      | none => R (.ok .next) m₁
      | some v => wpAny (model prog w) A (letOwnedTupleGo gB it v) (fun _ m₇ => wpAny (model prog w) A (assign gB env v) (fun _ m₂ =>
          wpAny (model prog w) A (forIn testsB true fun c r => if r = true then do let ok ← isTrue c env (eval c env); pure (ForInStep.yield ok) else pure (ForInStep.yield r)) (fun ok m₃ =>
            if ok = true then wpAny (model prog w) A (eval kx env) (fun kv m₄ => wpAny (model prog w) A (eval vx env) (fun vv m₅ =>
              wpAny (model prog w) A (dictSet D kv vv) (fun _ m₆ => ∃ m, m < n ∧ I m m₆) (notedBy (model prog w) A env fun e s' => R (.error e) s') m₅) (notedBy (model prog w) A env fun e s' => R (.error e) s') m₄) (notedBy (model prog w) A env fun e s' => R (.error e) s') m₃
            else ∃ m, m < n ∧ I m m₃) (notedBy (model prog w) A env fun e s' => R (.error e) s') m₂) (notedBy (model prog w) A env fun e s' => R (.error e) s') m₇) (notedBy (model prog w) A env fun e s' => R (.error e) s') m₁) (notedBy (model prog w) A env fun e s' => R (.error e) s') s)
    (n : Nat) (h : I n s) :
    codeAny (model prog w) A (.compLoop (.DictComp kx vx [⟨gA, jA, testsA, 0⟩, ⟨gB, jB, testsB, 0⟩] scp pos) 1 it (.ref D) env) R s := by
  refine codeAny_loop rfl I (fun n s hI => ?_) n h
  show wpAny _ A ((compTurn (.DictComp kx vx [⟨gA, jA, testsA, 0⟩, ⟨gB, jB, testsB, 0⟩] scp pos) 1 it (.ref D) env).onRaise (fun x => do noteFrame x env; theTreesLotGoes x)) _ _ s
  refine wpAny_noted ?_
  rw [dTurn2_in]
  refine wpAny_bind (wpAny_standAt (wpAny_bind (wpAny_mono (goes n s hI) (fun r m₁ g₁ => ?_) fun _ _ h' => h')))
  cases r with
  | none => exact wpAny_pure g₁
  | some v =>
    refine wpAny_bind (wpAny_mono g₁ (fun _ m₇ g₇ => ?_) fun _ _ h' => h')
    refine wpAny_bind (wpAny_mono g₇ (fun _ m₂ g₂ => wpAny_bind (wpAny_mono g₂ (fun ok m₃ g₃ => ?_) fun _ _ h' => h')) fun _ _ h' => h')
    cases ok with
    | false => exact wpAny_pure ⟨rfl, g₃⟩
    | true =>
      exact wpAny_bind (wpAny_bind (wpAny_mono g₃ (fun kv m₄ g₄ => wpAny_bind (wpAny_holding (wpAny_mono g₄ (fun vv m₅ g₅ => wpAny_bind (wpAny_standAt (wpAny_holding (wpAny_mono g₅ (fun _ m₆ g₆ => wpAny_pure ⟨rfl, g₆⟩) fun _ _ h' => h')))) fun _ _ h' => h'))) fun _ _ h' => h'))
theorem dStart1_ok (h0 : codeAny (model prog w) A (.compLoop (.DictComp kx vx [⟨gA, jA, testsA, 0⟩, ⟨gB, jB, testsB, 0⟩] scp pos) 1 it (.ref D) env) R s)
    (h : wpAny (model prog w) A (pyIter it) (fun it' s' => codeAny (model prog w) A (.compLoop (.DictComp kx vx [⟨gA, jA, testsA, 0⟩, ⟨gB, jB, testsB, 0⟩] scp pos) 1 it' (.ref D) env) R s')
      (notedBy (model prog w) A env fun x s' => R (.error x) s') s) :
    codeAny (model prog w) A (.compStart (.DictComp kx vx [⟨gA, jA, testsA, 0⟩, ⟨gB, jB, testsB, 0⟩] scp pos) 1 it (.ref D) env) R s := by
  refine codeAny_of_tree ?_
  show wpAny _ _ ((compStart (.DictComp kx vx [⟨gA, jA, testsA, 0⟩, ⟨gB, jB, testsB, 0⟩] scp pos) 1 it (.ref D) env).onRaise (fun x => do noteFrame x env; standAt theWindowsPlace)) _ _ s
  refine wpAny_notedAt ?_
  unfold compStart
  show wpAny _ _ (ask >>= _) _ _ s
  refine wpAny_bind (wpAny_askSetting (wpAny_ite ?_))
  split
  · first
      | exact wpAny_bind (wpAny_pure (wpAny_pure (And.intro rfl h0)))
      | exact wpAny_pure (And.intro rfl h0)
  · first
      | exact wpAny_bind (wpAny_rule (wpAny_bind (wpAny_standAt (wpAny_bind (wpAny_mono h (fun it' s' h' => wpAny_pure (And.intro rfl h')) fun _ _ x => x)))))
      | (refine wpAny_bind (wpAny_rule ?_); show wpAny _ _ (standAt jB.pos >>= _) _ _ s; exact wpAny_bind (wpAny_standAt (wpAny_bind (wpAny_mono h (fun it' s' h' => wpAny_pure (And.intro rfl h')) fun _ _ x => x))))
end
/-- what a dict comprehension stores -/
theorem dset_put {X : Cx} {held : List (Addr × Obj)} {τ : L2.St} {Hh Hn : Hp} {st0 : Shared} {Er : Value → Shared → Prop} {dd : Addr} {y v : V} {u r : Value} {Qq : Unit → Shared → Prop} (hRoom : X.A.units + 1 < cLine) (Iv : Inv X held τ Hh st0) (dp : DPut Hh dd y v Hn) (ry : RelV y u) (rv : RelV v r)
    (q : ∀ s', Inv X held τ Hn s' → Qq () s') : wpAny (model X.prog X.w) X.A (dictSet dd u r) Qq Er st0 := by
  rcases dp with ⟨ps, ky, ed, rfl, lz, rfl⟩ | ⟨ps, ky, tp, ed, rfl, et, lz, rfl⟩
  · exact d_dictSet Iv ed lz ry rv q
  · cases (show u = Value.ref tp from ry)
    obtain ⟨zl, hsys, items, rel, dat⟩ := dt_of Iv.hok ed
    have zl2 : items.length ≤ sizeLine := by rw [← Paired.length rel]; exact zl
    have zl3 : (putK ps ky v).length ≤ sizeLine := by have := length_putK ps ky v; omega
    refine wpAny_dictSet_heap (hsz := zl2) (show X.A.units < cLine by omega) (key_of Iv.hok et) dat fun hp2 dat2 same2 => q _ ?_
    obtain ⟨ob, ents, ep, g1, g2, g3, g4, _, g5⟩ := dat2
    refine d_write Iv (by rw [ed]; exact True.intro) same2 ⟨ob, g1⟩ ⟨zl3, hsys, _, (rel.put ky et rv).keeps fun c ys ec => ?_, ob, ents, ep, g1, g2, g3, g4, g5⟩
    rw [upd_ne (ne_of ec ed (fun z => nomatch z))]
    exact ec
section
variable {X : Cx}
/-- {k: v for g in wi if tt}, laid as e0 -/
def tDcG (e0 : HO) (wi : TI) (g : TG) (tt : TT) (tk tv : TE) (vs : List Nat) : TE := fun σ H Q => wi σ H fun J H1 => ∀ D, H1 D = none → ∃ W : Nat → Nat → Hp → Prop, (∃ m, W 0 m (upd H1 D e0)) ∧ ∀ i m H, W i m H →
  ((J.stop i H ∧ Q (.ref D) H) ∨ (J.go i H ∧ ∃ Nx : Hp → Prop, (∀ H', Nx H' → ∃ m', m' < m ∧ W (i + 1) m' H') ∧ ∀ x H', J.yld i H x H' → g x (wipe σ vs) H' fun σ2 H2 => wipe σ2 vs = wipe σ vs ∧ tt σ2 H2 fun b H3 =>
    if b = true then tk σ2 H3 fun y H4 => tv σ2 H4 fun z H5 => ∃ H6, DPut H5 D y z H6 ∧ Nx H6 else Nx H3))
/-- .. with a second source within -/
def tDc2 (e0 : HO) (wi : TI) (g : TG) (tt : TT) (wi1 : TI) (g1 : TG) (tt1 : TT) (tk tv : TE) (vs vs1 : List Nat) : TE := fun σ H Q => wi σ H fun J H1 => ∀ D, H1 D = none → ∃ W : Nat → Nat → Hp → Prop, (∃ m, W 0 m (upd H1 D e0)) ∧ ∀ i m H, W i m H →
  ((J.stop i H ∧ Q (.ref D) H) ∨ (J.go i H ∧ ∃ Nx : Hp → Prop, (∀ H', Nx H' → ∃ m', m' < m ∧ W (i + 1) m' H') ∧ ∀ x H', J.yld i H x H' → g x (wipe σ vs) H' fun σ2 H2 => wipe σ2 vs = wipe σ vs ∧ tt σ2 H2 fun b H3 =>
    if b = true then wi1 σ2 H3 fun J1 H4 => ∃ W1 : Nat → Nat → Hp → Prop, (∃ m, W1 0 m H4) ∧ ∀ j k H, W1 j k H →
      ((J1.stop j H ∧ Nx H) ∨ (J1.go j H ∧ ∃ Nx1 : Hp → Prop, (∀ H', Nx1 H' → ∃ k', k' < k ∧ W1 (j + 1) k' H') ∧ ∀ x H', J1.yld j H x H' → g1 x (wipe σ2 vs1) H' fun σ3 H5 => wipe σ3 vs1 = wipe σ2 vs1 ∧ tt1 σ3 H5 fun b H6 =>
        if b = true then tk σ3 H6 fun y H7 => tv σ3 H7 fun z H8 => ∃ H9, DPut H8 D y z H9 ∧ Nx1 H9 else Nx1 H6))
    else Nx H3))
theorem dcG_core {held : List (Addr × Obj)} {s : Shared} {σ : L2.St} {H : Hp} {Q : VK} {kx vx tgA srcA : Expr} {tests : List Expr} {scp : Scope} {mine : List (Str × Nat)} {pos pos' : Pos} {wi : TI} {g : TG} {tt : TT} {tk tv : TE} {e0 : HO} {use : Option (Value → Sem Unit)} {Qf : Value → Shared → Prop}
    (hRoom : X.A.units + 1 < cLine) (hEmp : ∀ (hp : Heap), sysModules < hp.objs.size → ∀ H', ObjOk X.prog X.w H' (hp.push { cls := .type "dict", data := .dict #[] }) hp.objs.size e0) (hCalm : X.calm = true) (hNd : X.N.Nodup) (I : Inv X held σ H s) (hSrc : PI X tgA srcA wi) (ok : BlkOk X.N X.env.scope scp mine)
    (hTg : ∀ (s : Shared) (H : Hp) (C : Addr) (cl : List (Str × Addr)) (loose : List Addr), PG (X.blk s H scp (compEnvC scp cl C X.env) loose) tgA g) (hTt : ∀ (s : Shared) (H : Hp) (C : Addr) (cl : List (Str × Addr)) (loose : List Addr), PTs (X.blk s H scp (compEnvC scp cl C X.env) loose) tests tt)
    (hKey : ∀ (s : Shared) (H : Hp) (C : Addr) (cl : List (Str × Addr)) (loose : List Addr), PE (X.blk s H scp (compEnvC scp cl C X.env) loose) kx tk)
    (hVal : ∀ (s : Shared) (H : Hp) (C : Addr) (cl : List (Str × Addr)) (loose : List Addr), PE (X.blk s H scp (compEnvC scp cl C X.env) loose) vx tv) (hFold : ∀ x, foldedSetIterable srcA X.env x = pure x)
    (h : tDcG e0 wi g tt tk tv (mine.map (·.2)) σ H Q)
    (hback : ∀ D C s' m H', Inv X held σ H' s' → Q (.ref D) H' → s'.heap.Ns C m → FpOk X held H' C → compPost (model X.prog X.w) X.A X.xe use Qf (.ref D) C (.ok .next) s') :
    wpAny (model X.prog X.w) X.A (comprehension (.DictComp kx vx [⟨tgA, srcA, tests, 0⟩] scp pos) scp X.env pos' newDict false (eval srcA X.env) use) Qf X.xe s := by
  have hfree : ∀ y ∈ scp.names, y.2 = .free → ∃ c, X.env.cells.lookup y.1 = some c := fun y hy e => by
    rcases ok.free y hy e with k | k
    · exact I.ok.has _ (.inl k)
    · exact I.ok.has _ (.inr k)
  refine wpAny_comprehension_free (use := use) rfl hFold (closure_ok hfree) ok.kind (fun y hy e => by rw [ok.uniq y hy, e])
    (thn (hSrc.run held s σ H _ I h) fun xv s1 hx => thn hx fun itv u2x hh2x => ?_)
  obtain ⟨it, loose, tn, J, P2x, e, J2x, T, at2x, fr2x, q⟩ := hh2x
  subst e
  refine wpAny_newObj_type (newEnv_comp ?_)
  generalize hD : u2x.heap.objs.size = D
  have hDn : P2x D = none := J2x.hok.fresh (Nat.le_of_eq hD)
  obtain ⟨W, ⟨m0, w0⟩, goes⟩ := q D hDn
  -- the new list
  generalize hs3 : ({ u2x with heap := u2x.heap.push { cls := .type "dict", data := .dict #[] } } : Shared) = u3x
  have J3x : Inv X held σ (upd P2x D e0) u3x := by
    rw [← hs3]
    refine J2x.laid (t' := u2x.toks) (fun b o e => Heap.get?_push_of_some _ e) (Nat.le_of_eq hD) ?_
    rw [← hD]
    exact hEmp u2x.heap J2x.big _
  have hh3x : u3x.heap = u2x.heap.push { cls := .type "dict", data := .dict #[] } := by rw [← hs3]
  have sz : ∀ b ∈ loose, b < u2x.heap.objs.size := fun b hb => by
    obtain ⟨o, e, _⟩ := T.obj _ _ at2x b hb
    exact Heap.lt_size e
  have fr3x : ∀ b ∈ loose, FpOk X held (upd P2x D e0) b ∧ b < u3x.heap.objs.size := fun b hb => by
    have hlt := sz b hb
    refine ⟨⟨?_, (fr2x b hb).2⟩, by rw [hh3x, Heap.size_push]; exact Nat.lt_succ_of_lt hlt⟩
    rw [upd_ne (by rw [← hD]; exact Nat.ne_of_lt hlt)]
    exact (fr2x b hb).1
  have at3x : tn 0 u3x.heap := T.keep _ _ _ at2x fun b _ o e => by rw [hh3x]; exact Heap.get?_push_of_some _ e
  have J4x := block_start J3x ok hNd fr3x
  have runG := hTg u3x (upd P2x D e0) u3x.heap.objs.size (cellsFrom (u3x.heap.objs.size + 1) scp.names (cloFrom X.env.cells scp.names [])) loose
  have runT := hTt u3x (upd P2x D e0) u3x.heap.objs.size (cellsFrom (u3x.heap.objs.size + 1) scp.names (cloFrom X.env.cells scp.names [])) loose
  have runK := hKey u3x (upd P2x D e0) u3x.heap.objs.size (cellsFrom (u3x.heap.objs.size + 1) scp.names (cloFrom X.env.cells scp.names [])) loose
  have runV := hVal u3x (upd P2x D e0) u3x.heap.objs.size (cellsFrom (u3x.heap.objs.size + 1) scp.names (cloFrom X.env.cells scp.names [])) loose
  show codeAny _ _ (.compStart (.DictComp kx vx [⟨tgA, srcA, tests, 0⟩] scp pos) 0 (.ref it) (.ref D) (compEnvC scp (cellsFrom (u3x.heap.objs.size + 1) scp.names (cloFrom X.env.cells scp.names [])) u3x.heap.objs.size X.env)) (compPost (model X.prog X.w) X.A X.xe use Qf (.ref D) u3x.heap.objs.size) { u3x with heap := pushCells (u3x.heap.push { cls := .type "dict", data := .dict #[] }) scp.names }
  have nfp : ∀ b ∈ loose, (upd P2x D e0) b = none := fun b hb => (fr3x b hb).1.1
  generalize hce : compEnvC scp (cellsFrom (u3x.heap.objs.size + 1) scp.names (cloFrom X.env.cells scp.names [])) u3x.heap.objs.size X.env = cen at J4x runG runT runK runV ⊢
  have cL : cen.locals = u3x.heap.objs.size := by subst hce; rfl
  generalize hH3 : upd P2x D e0 = P3x at J3x J4x runG runT runK runV w0 nfp fr3x
  generalize hs4 : ({ u3x with heap := pushCells (u3x.heap.push { cls := .type "dict", data := .dict #[] }) scp.names } : Shared) = u4x at J4x ⊢
  have at4x : tn 0 u4x.heap := T.keep _ _ _ at3x fun b _ o e => by rw [← hs4]; exact pushCells_keeps _ _ _ _ (Heap.get?_push_of_some _ e)
  have stays : ∀ {σ' : L2.St} {H' : Hp} {s' : Shared}, Inv (X.blk u3x P3x scp cen loose) [] σ' H' s' → (∀ b ∈ loose, H' b = none) → ∀ b ∈ loose, FpOk (X.blk u3x P3x scp cen loose) [] H' b := fun {σ' H' s'} I' hn b hb =>
    ⟨hn b hb, (I'.ok.exf b hb).1, I'.ok.exfs b hb, .inl hb, fun x c e => (I'.ok.exf b hb).2 x c e, fun p hp => absurd (show p ∈ ([] : List (Addr × Obj)) ++ [] from hp) (by simp)⟩
  have whole : codeAny (model X.prog X.w) X.A (.compLoop (.DictComp kx vx [⟨tgA, srcA, tests, 0⟩] scp pos) 0 (.ref it) (.ref D) cen) (compPost (model X.prog X.w) X.A X.xe use Qf (.ref D) u3x.heap.objs.size) u4x := by
    refine compLoop_anyD (fun n s' => ∃ i H', Inv (X.blk u3x P3x scp cen loose) [] (wipe σ (mine.map (·.2))) H' s' ∧ tn i s'.heap ∧ (∀ b ∈ loose, H' b = none) ∧ W i n H') ?_ m0 ⟨0, P3x, J4x, at4x, nfp, w0⟩
    rintro n u5x ⟨i, P5x, J5x, at5x, no5x, ww5x⟩
    rcases goes i n P5x ww5x with ⟨isEnd, qq⟩ | ⟨isOn, Nx, hNx, each⟩
    · have td := T.done (X.blk u3x P3x scp cen loose) rfl rfl rfl hCalm i [] u5x _ P5x (fun _ _ => False) J5x (stays J5x no5x) at5x isEnd
      refine thnF td fun r u6x ⟨hr, J6x⟩ => ?_
      subst hr
      -- back in the def's context
      have J7x : Inv X held σ P5x u6x := J3x.call' (ch := loose) J6x.os J6x.base J6x.hok J6x.bare fun b hb => ⟨(fr3x b hb).1.2.2.2.1, (fr3x b hb).1.2.1, (fr3x b hb).1.2.2.2.2.1, (fr3x b hb).1.2.2.2.2.2⟩
      have nC : P5x u3x.heap.objs.size = none := by
        have z : P5x cen.locals = none := J6x.free
        rw [cL] at z
        exact z
      obtain ⟨m, hn, _⟩ := J6x.loc
      have hn : u6x.heap.Ns cen.locals m := hn
      rw [cL] at hn
      exact hback D u3x.heap.objs.size u6x m P5x J7x qq hn (J3x.fpOk (Nat.le_refl _) nC)
    · have ti := T.item (X.blk u3x P3x scp cen loose) rfl rfl rfl hCalm i [] u5x _ P5x (fun _ _ => False) J5x (stays J5x no5x) at5x isOn
      refine thnF ti fun r u6x ⟨u, hr, hh6x⟩ => ?_
      subst hr
      refine thnF hh6x fun _ u7x ⟨x, P7x, J7x, rr7x, yy7x, at7x, no7x⟩ => ?_
      have I7' := J7x.pinned (stays J7x no7x) (T.obj _ _ at7x)
      refine thnF (runG.run _ u7x _ P7x x u _ I7' rr7x (each x P7x yy7x)) fun _ u8x ⟨σ8, P8x, J8x, hww8x, z8x⟩ => ?_
      refine thnF (runT.run _ u8x σ8 P8x _ J8x z8x) fun b u9x ⟨P9x, J9x, z9x⟩ => ?_
      -- the turn's end
      have ends : ∀ {s' : Shared} {H' : Hp}, Inv (X.blk u3x P3x scp cen loose) ([] ++ pinsAt loose u7x.heap) σ8 H' s' → Nx H' → ∃ m, m < n ∧ ∃ i H', Inv (X.blk u3x P3x scp cen loose) [] (wipe σ (mine.map (·.2))) H' s' ∧ tn i s'.heap ∧ (∀ b ∈ loose, H' b = none) ∧ W i m H' := fun {s' H'} I' nx => by
        obtain ⟨m', hm, w'⟩ := hNx H' nx
        have pin' : ∀ b ∈ loose, ∀ o, u7x.heap.get? b = some o → s'.heap.get? b = some o ∧ H' b = none := fun b hb o e =>
          let z := I'.pin (b, o) (List.mem_append_right _ (List.mem_append_right _ (mem_pinsAt hb e)))
          ⟨z.1, z.2.1⟩
        have hl : (wipe σ (mine.map (·.2))).length = σ8.length := by rw [← hww8x, wipe_length]
        refine ⟨m', hm, i + 1, H', (I'.unpinned (pins := [])).weak hl (fun j v e => ?_), T.keep _ _ _ at7x fun b hb o e => (pin' b hb o e).1, fun b hb => ?_, w'⟩
        · rw [← hww8x] at e
          exact (wipe_some e).1
        · obtain ⟨o, e, _⟩ := T.obj _ _ at7x b hb
          exact (pin' b hb o e).2
      cases b with
      | false =>
        simp only [Bool.false_eq_true, if_false] at z9x ⊢
        exact ends J9x z9x
      | true =>
        simp only [if_true] at z9x ⊢
        refine thnF (runK.run _ u9x σ8 P9x _ J9x z9x) fun z u10x ⟨yk, P10x, J10x, rr10x, z10x⟩ => ?_
        refine thnF (runV.run _ u10x σ8 P10x _ J10x z10x) fun z2 u11x ⟨yv, P11x, J11x, rr11x, P12x, dp, nx⟩ => ?_
        exact dset_put (X := X.blk u3x P3x scp cen loose) hRoom J11x dp rr10x rr11x fun u12x J12x => ends J12x nx
  exact codeAny_compStart_dict whole (T.self X.A 0 _ _ _ at4x whole)
theorem dc2_core {held : List (Addr × Obj)} {s : Shared} {σ : L2.St} {H : Hp} {Q : VK} {kx vx tgA srcA tgB srcB : Expr} {tests testsB : List Expr} {scp : Scope} {mine : List (Str × Nat)} {vs1 : List Nat} {pos pos' : Pos} {wi wi1 : TI} {g g1 : TG} {tt tst1 : TT} {tk tv : TE} {e0 : HO} {use : Option (Value → Sem Unit)} {Qf : Value → Shared → Prop}
    (hRoom : X.A.units + 1 < cLine) (hEmp : ∀ (hp : Heap), sysModules < hp.objs.size → ∀ H', ObjOk X.prog X.w H' (hp.push { cls := .type "dict", data := .dict #[] }) hp.objs.size e0) (hCalm : X.calm = true) (hNd : X.N.Nodup) (I : Inv X held σ H s) (hSrc : PI X tgA srcA wi) (ok : BlkOk X.N X.env.scope scp mine) (hv : ∀ i ∈ vs1, i ∈ mine.map (·.2))
    (hTg : ∀ (s : Shared) (H : Hp) (C : Addr) (cl : List (Str × Addr)) (loose : List Addr), PG (X.blk s H scp (compEnvC scp cl C X.env) loose) tgA g) (hTt : ∀ (s : Shared) (H : Hp) (C : Addr) (cl : List (Str × Addr)) (loose : List Addr), PTs (X.blk s H scp (compEnvC scp cl C X.env) loose) tests tt)
    (hKey : ∀ (s : Shared) (H : Hp) (C : Addr) (cl : List (Str × Addr)) (loose : List Addr), PE (X.blk s H scp (compEnvC scp cl C X.env) loose) kx tk)
    (hVal : ∀ (s : Shared) (H : Hp) (C : Addr) (cl : List (Str × Addr)) (loose : List Addr), PE (X.blk s H scp (compEnvC scp cl C X.env) loose) vx tv) (hFold : ∀ x, foldedSetIterable srcA X.env x = pure x)
    (hSrcB : ∀ (s : Shared) (H : Hp) (C : Addr) (cl : List (Str × Addr)) (loose : List Addr), PI (X.blk s H scp (compEnvC scp cl C X.env) loose) tgB srcB wi1)
    (hTgB : ∀ (s : Shared) (H : Hp) (C : Addr) (cl : List (Str × Addr)) (loose : List Addr), PG (X.blk s H scp (compEnvC scp cl C X.env) loose) tgB g1)
    (hTtB : ∀ (s : Shared) (H : Hp) (C : Addr) (cl : List (Str × Addr)) (loose : List Addr), PTs (X.blk s H scp (compEnvC scp cl C X.env) loose) testsB tst1)
    (hFoldB : ∀ env x, foldedSetIterable srcB env x = pure x)
    (h : tDc2 e0 wi g tt wi1 g1 tst1 tk tv (mine.map (·.2)) vs1 σ H Q)
    (hback : ∀ D C s' m H', Inv X held σ H' s' → Q (.ref D) H' → s'.heap.Ns C m → FpOk X held H' C → compPost (model X.prog X.w) X.A X.xe use Qf (.ref D) C (.ok .next) s') :
    wpAny (model X.prog X.w) X.A (comprehension (.DictComp kx vx [⟨tgA, srcA, tests, 0⟩, ⟨tgB, srcB, testsB, 0⟩] scp pos) scp X.env pos' newDict false (eval srcA X.env) use) Qf X.xe s := by
  have hfree : ∀ y ∈ scp.names, y.2 = .free → ∃ c, X.env.cells.lookup y.1 = some c := fun y hy e => by
    rcases ok.free y hy e with k | k
    · exact I.ok.has _ (.inl k)
    · exact I.ok.has _ (.inr k)
  refine wpAny_comprehension_free (use := use) rfl hFold (closure_ok hfree) ok.kind (fun y hy e => by rw [ok.uniq y hy, e])
    (thn (hSrc.run held s σ H _ I h) fun xv s1 hx => thn hx fun itv u2x hh2x => ?_)
  obtain ⟨it, loose, tn, J, P2x, e, J2x, T, at2x, fr2x, q⟩ := hh2x
  subst e
  refine wpAny_newObj_type (newEnv_comp ?_)
  generalize hD : u2x.heap.objs.size = D
  have hDn : P2x D = none := J2x.hok.fresh (Nat.le_of_eq hD)
  obtain ⟨W, ⟨m0, w0⟩, goes⟩ := q D hDn
  -- the new list
  generalize hs3 : ({ u2x with heap := u2x.heap.push { cls := .type "dict", data := .dict #[] } } : Shared) = u3x
  have J3x : Inv X held σ (upd P2x D e0) u3x := by
    rw [← hs3]
    refine J2x.laid (t' := u2x.toks) (fun b o e => Heap.get?_push_of_some _ e) (Nat.le_of_eq hD) ?_
    rw [← hD]
    exact hEmp u2x.heap J2x.big _
  have hh3x : u3x.heap = u2x.heap.push { cls := .type "dict", data := .dict #[] } := by rw [← hs3]
  have sz : ∀ b ∈ loose, b < u2x.heap.objs.size := fun b hb => by
    obtain ⟨o, e, _⟩ := T.obj _ _ at2x b hb
    exact Heap.lt_size e
  have fr3x : ∀ b ∈ loose, FpOk X held (upd P2x D e0) b ∧ b < u3x.heap.objs.size := fun b hb => by
    have hlt := sz b hb
    refine ⟨⟨?_, (fr2x b hb).2⟩, by rw [hh3x, Heap.size_push]; exact Nat.lt_succ_of_lt hlt⟩
    rw [upd_ne (by rw [← hD]; exact Nat.ne_of_lt hlt)]
    exact (fr2x b hb).1
  have at3x : tn 0 u3x.heap := T.keep _ _ _ at2x fun b _ o e => by rw [hh3x]; exact Heap.get?_push_of_some _ e
  have J4x := block_start J3x ok hNd fr3x
  have runG := hTg u3x (upd P2x D e0) u3x.heap.objs.size (cellsFrom (u3x.heap.objs.size + 1) scp.names (cloFrom X.env.cells scp.names [])) loose
  have runT := hTt u3x (upd P2x D e0) u3x.heap.objs.size (cellsFrom (u3x.heap.objs.size + 1) scp.names (cloFrom X.env.cells scp.names [])) loose
  have runK := hKey u3x (upd P2x D e0) u3x.heap.objs.size (cellsFrom (u3x.heap.objs.size + 1) scp.names (cloFrom X.env.cells scp.names [])) loose
  have runV := hVal u3x (upd P2x D e0) u3x.heap.objs.size (cellsFrom (u3x.heap.objs.size + 1) scp.names (cloFrom X.env.cells scp.names [])) loose
  have runS := hSrcB u3x (upd P2x D e0) u3x.heap.objs.size (cellsFrom (u3x.heap.objs.size + 1) scp.names (cloFrom X.env.cells scp.names [])) loose
  have runGB := hTgB u3x (upd P2x D e0) u3x.heap.objs.size (cellsFrom (u3x.heap.objs.size + 1) scp.names (cloFrom X.env.cells scp.names [])) loose
  have runTB := hTtB u3x (upd P2x D e0) u3x.heap.objs.size (cellsFrom (u3x.heap.objs.size + 1) scp.names (cloFrom X.env.cells scp.names [])) loose
  show codeAny _ _ (.compStart (.DictComp kx vx [⟨tgA, srcA, tests, 0⟩, ⟨tgB, srcB, testsB, 0⟩] scp pos) 0 (.ref it) (.ref D) (compEnvC scp (cellsFrom (u3x.heap.objs.size + 1) scp.names (cloFrom X.env.cells scp.names [])) u3x.heap.objs.size X.env)) (compPost (model X.prog X.w) X.A X.xe use Qf (.ref D) u3x.heap.objs.size) { u3x with heap := pushCells (u3x.heap.push { cls := .type "dict", data := .dict #[] }) scp.names }
  have nfp : ∀ b ∈ loose, (upd P2x D e0) b = none := fun b hb => (fr3x b hb).1.1
  generalize hce : compEnvC scp (cellsFrom (u3x.heap.objs.size + 1) scp.names (cloFrom X.env.cells scp.names [])) u3x.heap.objs.size X.env = cen at J4x runG runT runK runV runS runGB runTB ⊢
  have cL : cen.locals = u3x.heap.objs.size := by subst hce; rfl
  generalize hH3 : upd P2x D e0 = P3x at J3x J4x runG runT runK runV runS runGB runTB w0 nfp fr3x
  generalize hs4 : ({ u3x with heap := pushCells (u3x.heap.push { cls := .type "dict", data := .dict #[] }) scp.names } : Shared) = u4x at J4x ⊢
  have at4x : tn 0 u4x.heap := T.keep _ _ _ at3x fun b _ o e => by rw [← hs4]; exact pushCells_keeps _ _ _ _ (Heap.get?_push_of_some _ e)
  have stays : ∀ {σ' : L2.St} {H' : Hp} {s' : Shared}, Inv (X.blk u3x P3x scp cen loose) [] σ' H' s' → (∀ b ∈ loose, H' b = none) → ∀ b ∈ loose, FpOk (X.blk u3x P3x scp cen loose) [] H' b := fun {σ' H' s'} I' hn b hb =>
    ⟨hn b hb, (I'.ok.exf b hb).1, I'.ok.exfs b hb, .inl hb, fun x c e => (I'.ok.exf b hb).2 x c e, fun p hp => absurd (show p ∈ ([] : List (Addr × Obj)) ++ [] from hp) (by simp)⟩
  have whole : codeAny (model X.prog X.w) X.A (.compLoop (.DictComp kx vx [⟨tgA, srcA, tests, 0⟩, ⟨tgB, srcB, testsB, 0⟩] scp pos) 0 (.ref it) (.ref D) cen) (compPost (model X.prog X.w) X.A X.xe use Qf (.ref D) u3x.heap.objs.size) u4x := by
    refine dLoop2_out (hFoldB cen) (fun n s' => ∃ i H', Inv (X.blk u3x P3x scp cen loose) [] (wipe σ (mine.map (·.2))) H' s' ∧ tn i s'.heap ∧ (∀ b ∈ loose, H' b = none) ∧ W i n H') ?_ m0 ⟨0, P3x, J4x, at4x, nfp, w0⟩
    rintro n u5x ⟨i, P5x, J5x, at5x, no5x, ww5x⟩
    rcases goes i n P5x ww5x with ⟨isEnd, qq⟩ | ⟨isOn, Nx, hNx, each⟩
    · have td := T.done (X.blk u3x P3x scp cen loose) rfl rfl rfl hCalm i [] u5x _ P5x (fun _ _ => False) J5x (stays J5x no5x) at5x isEnd
      refine thnF td fun r u6x ⟨hr, J6x⟩ => ?_
      subst hr
      -- back in the def's context
      have J7x : Inv X held σ P5x u6x := J3x.call' (ch := loose) J6x.os J6x.base J6x.hok J6x.bare fun b hb => ⟨(fr3x b hb).1.2.2.2.1, (fr3x b hb).1.2.1, (fr3x b hb).1.2.2.2.2.1, (fr3x b hb).1.2.2.2.2.2⟩
      have nC : P5x u3x.heap.objs.size = none := by
        have z : P5x cen.locals = none := J6x.free
        rw [cL] at z
        exact z
      obtain ⟨m, hn, _⟩ := J6x.loc
      have hn : u6x.heap.Ns cen.locals m := hn
      rw [cL] at hn
      exact hback D u3x.heap.objs.size u6x m P5x J7x qq hn (J3x.fpOk (Nat.le_refl _) nC)
    · have ti := T.item (X.blk u3x P3x scp cen loose) rfl rfl rfl hCalm i [] u5x _ P5x (fun _ _ => False) J5x (stays J5x no5x) at5x isOn
      refine thnF ti fun r u6x ⟨u, hr, hh6x⟩ => ?_
      subst hr
      refine thnF hh6x fun _ u7x ⟨x, P7x, J7x, rr7x, yy7x, at7x, no7x⟩ => ?_
      have I7' := J7x.pinned (stays J7x no7x) (T.obj _ _ at7x)
      refine thnF (runG.run _ u7x _ P7x x u _ I7' rr7x (each x P7x yy7x)) fun _ u8x ⟨σ8, P8x, J8x, hww8x, z8x⟩ => ?_
      refine thnF (runT.run _ u8x σ8 P8x _ J8x z8x) fun b u9x ⟨P9x, J9x, z9x⟩ => ?_
      -- the turn's end, from any slots that know what the block knew at its start
      have ends : ∀ {σ9 : L2.St} {s' : Shared} {H' : Hp}, Inv (X.blk u3x P3x scp cen loose) ([] ++ pinsAt loose u7x.heap) σ9 H' s' → (wipe σ (mine.map (·.2))).length = σ9.length → (∀ (j : Nat) v, (wipe σ (mine.map (·.2)))[j]? = some (some v) → σ9[j]? = some (some v)) → Nx H' →
          ∃ m, m < n ∧ ∃ i H', Inv (X.blk u3x P3x scp cen loose) [] (wipe σ (mine.map (·.2))) H' s' ∧ tn i s'.heap ∧ (∀ b ∈ loose, H' b = none) ∧ W i m H' := fun {σ9 s' H'} I' hl hKey nx => by
        obtain ⟨m', hm, w'⟩ := hNx H' nx
        have pin' : ∀ b ∈ loose, ∀ o, u7x.heap.get? b = some o → s'.heap.get? b = some o ∧ H' b = none := fun b hb o e =>
          let z := I'.pin (b, o) (List.mem_append_right _ (List.mem_append_right _ (mem_pinsAt hb e)))
          ⟨z.1, z.2.1⟩
        refine ⟨m', hm, i + 1, H', (I'.unpinned (pins := [])).weak hl hKey, T.keep _ _ _ at7x fun b hb o e => (pin' b hb o e).1, fun b hb => ?_, w'⟩
        obtain ⟨o, e, _⟩ := T.obj _ _ at7x b hb
        exact (pin' b hb o e).2
      have hl8 : (wipe σ (mine.map (·.2))).length = σ8.length := by rw [← hww8x, wipe_length]
      have hk8 : ∀ (j : Nat) v, (wipe σ (mine.map (·.2)))[j]? = some (some v) → σ8[j]? = some (some v) := fun j v e => by
        rw [← hww8x] at e
        exact (wipe_some e).1
      have hk9 : ∀ (j : Nat) v, (wipe σ (mine.map (·.2)))[j]? = some (some v) → (wipe σ8 vs1)[j]? = some (some v) := fun j v e => by
        rw [← hww8x] at e
        obtain ⟨e1, e2⟩ := wipe_some e
        rw [wipe_out fun z => e2 (hv j z)]
        exact e1
      cases b with
      | false =>
        simp only [Bool.false_eq_true, if_false] at z9x ⊢
        exact ends J9x hl8 hk8 z9x
      | true =>
        simp only [if_true] at z9x ⊢
        refine thnF (runS.run _ u9x σ8 P9x _ J9x z9x) fun xv u10x hx => thnF hx fun itv u11x hh11x => ?_
        obtain ⟨it1, fp1, tn1, J1, P11x, e1, J11x, T1, at11x, fr11x, W1, ⟨m1, w1⟩, goesB⟩ := hh11x
        subst e1
        -- the inner whole
        have stat1 : ∀ {H' : Hp}, (∀ b ∈ fp1, H' b = none) → ∀ b ∈ fp1, FpOk (X.blk u3x P3x scp cen loose) ([] ++ pinsAt loose u7x.heap) H' b := fun hn b hb => ⟨hn b hb, (fr11x b hb).2⟩
        have wholeB : codeAny (model X.prog X.w) X.A (.compLoop (.DictComp kx vx [⟨tgA, srcA, tests, 0⟩, ⟨tgB, srcB, testsB, 0⟩] scp pos) 1 (.ref it1) (.ref D) cen)
            (fun r s' => match r with
              | .ok _ => ∃ m, m < n ∧ ∃ i H', Inv (X.blk u3x P3x scp cen loose) [] (wipe σ (mine.map (·.2))) H' s' ∧ tn i s'.heap ∧ (∀ b ∈ loose, H' b = none) ∧ W i m H'
              | .error _ => False) u11x := by
          refine dLoop2_in (fun k s' => ∃ j H', Inv (X.blk u3x P3x scp cen loose) ([] ++ pinsAt loose u7x.heap) (wipe σ8 vs1) H' s' ∧ tn1 j s'.heap ∧ (∀ b ∈ fp1, H' b = none) ∧ W1 j k H') ?_ m1 ⟨0, P11x, J11x.weak (wipe_length _ _) (fun j v e => (wipe_some e).1), at11x, fun b hb => (fr11x b hb).1, w1⟩
          rintro k u12x ⟨j, P12x, J12x, at12x, no12x, ww12x⟩
          rcases goesB j k P12x ww12x with ⟨isEndB, nx1⟩ | ⟨isOnB, Nx1, hNx1, eachB⟩
          · refine thnF (T1.done (X.blk u3x P3x scp cen loose) rfl rfl rfl hCalm j _ u12x (wipe σ8 vs1) P12x (fun _ _ => False) J12x (stat1 no12x) at12x isEndB) fun r u13x ⟨hr, J13x⟩ => ?_
            subst hr
            exact ends J13x (hl8.trans (wipe_length σ8 vs1).symm) hk9 nx1
          · refine thnF (T1.item (X.blk u3x P3x scp cen loose) rfl rfl rfl hCalm j _ u12x (wipe σ8 vs1) P12x (fun _ _ => False) J12x (stat1 no12x) at12x isOnB) fun r u13x ⟨u1, hr, hh13x⟩ => ?_
            subst hr
            refine thnF hh13x fun _ u14x ⟨x1, P14x, J14x, rr14x, yy14x, at14x, no14x⟩ => ?_
            have I14' := J14x.pinned (stat1 no14x) (T1.obj _ _ at14x)
            refine thnF (runGB.run _ u14x (wipe σ8 vs1) P14x x1 u1 _ I14' rr14x (eachB x1 P14x yy14x)) fun _ u15x ⟨σ15, P15x, J15x, hww15x, z15x⟩ => ?_
            refine thnF (runTB.run _ u15x σ15 P15x _ J15x z15x) fun b1 u16x ⟨P16x, J16x, z16x⟩ => ?_
            have endsB : ∀ {s' : Shared} {H' : Hp}, Inv (X.blk u3x P3x scp cen loose) (([] ++ pinsAt loose u7x.heap) ++ pinsAt fp1 u14x.heap) σ15 H' s' → Nx1 H' → ∃ m, m < k ∧ ∃ j H', Inv (X.blk u3x P3x scp cen loose) ([] ++ pinsAt loose u7x.heap) (wipe σ8 vs1) H' s' ∧ tn1 j s'.heap ∧ (∀ b ∈ fp1, H' b = none) ∧ W1 j m H' := fun {s' H'} I' nx => by
              obtain ⟨m', hm, w'⟩ := hNx1 H' nx
              have pin' : ∀ b ∈ fp1, ∀ o, u14x.heap.get? b = some o → s'.heap.get? b = some o ∧ H' b = none := fun b hb o e =>
                let z := I'.pin (b, o) (List.mem_append_right _ (List.mem_append_right _ (mem_pinsAt hb e)))
                ⟨z.1, z.2.1⟩
              refine ⟨m', hm, j + 1, H', I'.unpinned.weak (by rw [← hww15x, wipe_length]) (fun j v e => by rw [← hww15x] at e; exact (wipe_some e).1), T1.keep _ _ _ at14x fun b hb o e => (pin' b hb o e).1, fun b hb => ?_, w'⟩
              obtain ⟨o, e, _⟩ := T1.obj _ _ at14x b hb
              exact (pin' b hb o e).2
            cases b1 with
            | false =>
              simp only [Bool.false_eq_true, if_false] at z16x ⊢
              exact endsB J16x z16x
            | true =>
              simp only [if_true] at z16x ⊢
              refine thnF (runK.run _ u16x σ15 P16x _ J16x z16x) fun z u17x ⟨yk, P17x, J17x, rr17x, z17x⟩ => ?_
              refine thnF (runV.run _ u17x σ15 P17x _ J17x z17x) fun z2 u18x ⟨yv, P18x, J18x, rr18x, P19x, dp, nx⟩ => ?_
              exact dset_put (X := X.blk u3x P3x scp cen loose) hRoom J18x dp rr17x rr18x fun u19x J19x => endsB J19x nx
        exact dStart1_ok wholeB (T1.self X.A 0 _ _ _ at11x wholeB)
  exact codeAny_compStart_dict whole (T.self X.A 0 _ _ _ at4x whole)
theorem pe_dcT {ke ve tgt itr : Expr} {tests : List Expr} {scp : Scope} {own : List (Str × Nat)} {ps1 : Pos} {wi : TI} {g : TG} {tt : TT} {tk tv : TE} (hRoom : X.A.units + 1 < cLine) (hCalm : X.calm = true) (hNd : X.N.Nodup) (hSrc : PI X tgt itr wi) (ok : BlkOk X.N X.env.scope scp own)
    (hTg : ∀ (s : Shared) (H : Hp) (C : Addr) (cl : List (Str × Addr)) (fp : List Addr), PG (X.blk s H scp (compEnvC scp cl C X.env) fp) tgt g) (hTt : ∀ (s : Shared) (H : Hp) (C : Addr) (cl : List (Str × Addr)) (fp : List Addr), PTs (X.blk s H scp (compEnvC scp cl C X.env) fp) tests tt)
    (hKey : ∀ (s : Shared) (H : Hp) (C : Addr) (cl : List (Str × Addr)) (fp : List Addr), PE (X.blk s H scp (compEnvC scp cl C X.env) fp) ke tk) (hVal : ∀ (s : Shared) (H : Hp) (C : Addr) (cl : List (Str × Addr)) (fp : List Addr), PE (X.blk s H scp (compEnvC scp cl C X.env) fp) ve tv)
    (hFold : ∀ x, foldedSetIterable itr X.env x = pure x := by intro _; rfl) : PE X (.DictComp ke ve [⟨tgt, itr, tests, 0⟩] scp ps1) (tDcG (.dT []) wi g tt tk tv (own.map (·.2))) := by
  refine ⟨fun held st0 τ Hh Qq Iv hyp => ?_⟩
  rw [arm_eval_DictComp]
  refine dcG_core hRoom (fun hp big H' => dt_empty hp big) hCalm hNd Iv hSrc ok hTg hTt hKey hVal hFold hyp fun D C s' m H' Iw q hn ff => ⟨m, hn, fun h9 sb => ?_⟩
  obtain ⟨a0, a1, a2, a3, a4, a5⟩ := ff
  exact ⟨.ref D, H', Iw.turned (t' := s'.toks) (fun b o hb e => (sb.2 b hb).trans e) a0 a1 a3 a4 a5, rfl, q⟩
theorem pe_dc2 {ke ve tgt itr tgt2 itr2 : Expr} {tests tests2 : List Expr} {scp : Scope} {own : List (Str × Nat)} {vs1 : List Nat} {ps1 : Pos} {wi wi1 : TI} {g g1 : TG} {tt tt1 : TT} {tk tv : TE} (hRoom : X.A.units + 1 < cLine) (hCalm : X.calm = true) (hNd : X.N.Nodup) (hSrc : PI X tgt itr wi) (ok : BlkOk X.N X.env.scope scp own) (hv : ∀ i ∈ vs1, i ∈ own.map (·.2))
    (hTg : ∀ (s : Shared) (H : Hp) (C : Addr) (cl : List (Str × Addr)) (fp : List Addr), PG (X.blk s H scp (compEnvC scp cl C X.env) fp) tgt g) (hTt : ∀ (s : Shared) (H : Hp) (C : Addr) (cl : List (Str × Addr)) (fp : List Addr), PTs (X.blk s H scp (compEnvC scp cl C X.env) fp) tests tt)
    (hSrcB : ∀ (s : Shared) (H : Hp) (C : Addr) (cl : List (Str × Addr)) (fp : List Addr), PI (X.blk s H scp (compEnvC scp cl C X.env) fp) tgt2 itr2 wi1)
    (hTgB : ∀ (s : Shared) (H : Hp) (C : Addr) (cl : List (Str × Addr)) (fp : List Addr), PG (X.blk s H scp (compEnvC scp cl C X.env) fp) tgt2 g1) (hTtB : ∀ (s : Shared) (H : Hp) (C : Addr) (cl : List (Str × Addr)) (fp : List Addr), PTs (X.blk s H scp (compEnvC scp cl C X.env) fp) tests2 tt1)
    (hKey : ∀ (s : Shared) (H : Hp) (C : Addr) (cl : List (Str × Addr)) (fp : List Addr), PE (X.blk s H scp (compEnvC scp cl C X.env) fp) ke tk) (hVal : ∀ (s : Shared) (H : Hp) (C : Addr) (cl : List (Str × Addr)) (fp : List Addr), PE (X.blk s H scp (compEnvC scp cl C X.env) fp) ve tv)
    (hFold : ∀ x, foldedSetIterable itr X.env x = pure x := by intro _; rfl) (hFoldB : ∀ env x, foldedSetIterable itr2 env x = pure x := by intro _ _; rfl) :
    PE X (.DictComp ke ve [⟨tgt, itr, tests, 0⟩, ⟨tgt2, itr2, tests2, 0⟩] scp ps1) (tDc2 (.dK []) wi g tt wi1 g1 tt1 tk tv (own.map (·.2)) vs1) := by
  refine ⟨fun held st0 τ Hh Qq Iv hyp => ?_⟩
  rw [arm_eval_DictComp]
  refine dc2_core hRoom (fun hp big H' => dk_empty hp big) hCalm hNd Iv hSrc ok hv hTg hTt hKey hVal hFold hSrcB hTgB hTtB hFoldB hyp fun D C s' m H' Iw q hn ff => ⟨m, hn, fun h9 sb => ?_⟩
  obtain ⟨a0, a1, a2, a3, a4, a5⟩ := ff
  exact ⟨.ref D, H', Iw.turned (t' := s'.toks) (fun b o hb e => (sb.2 b hb).trans e) a0 a1 a3 a4 a5, rfl, q⟩
end
end KW
end
section
set_option Elab.async false
set_option linter.all false
set_option maxRecDepth 100000
set_option maxHeartbeats 2000000
namespace KW
open PySem PySem.Spec PyProof.Rows L2
open K97 (Gr jn)
section
variable {σ : L2.St} {G0 H0 G H : Hp} {cs : List (Addr × HO)} {ta tb te : TE} {d : Addr} {o : HO}
theorem en_lock {P : HO → Hp → Prop} {t : TE} (mu : Mut (some o)) (hm : (d, o) ∈ cs) {cs2 : List (Addr × HO)} (h2 : ∀ c ∈ cs2, c ∈ cs) (hn : ∀ c ∈ cs2, c.1 ≠ d) (h : ∀ od, EvN t σ G ((d, .frz od o) :: cs2) P) : EvN (tLockE t) σ G cs P := fun H s hc Q q => by
  obtain ⟨k1, k2⟩ := hc _ hm
  refine ⟨d, o, k1, mu, fun od => ?_⟩
  have hc2 : HC ((d, o) :: cs2) G H := fun c h => by
    rcases List.mem_cons.mp h with rfl | h
    · exact ⟨k1, k2⟩
    · exact hc c (h2 c h)
  refine h od _ (lock_same s k2) (hc2.lock hn) _ fun D o2 G2 H2 hD w hg ho p => ?_
  obtain ⟨w2, e⟩ := Gw.unlock k1 k2 w
  have hDd : D ≠ d := fun z => by subst z; rw [upd_same] at hD; cases hD
  rw [upd_ne hDd] at hD
  exact ⟨e, q D o2 G2 _ hD w2 hg (by rw [upd_ne hDd]; exact ho) p⟩
/-- k in d, a dict of the ghost -/
theorem ev_dinG {s : List Nat} {k : Nat} (hs : ∀ x ∈ s, x < 8) (hk : k < 8) (h2 : EvP tb σ G cs (RS k)) (h1 : EvP ta σ G cs (RTV s)) : EvP (tDIn tb ta) σ G cs (RV (.bl (s.contains k))) := fun H st hc Q q =>
  h2 H st hc _ fun y G1 H1 w1 p1 => (h1.up w1.g) H1 w1.s (hc.up w1) _ fun x G2 H2 w2 p2 => by
    obtain rfl : y = .str (eS k) := p1
    obtain ⟨d, rfl, hd⟩ := p2
    refine ⟨d, _, rfl, .inl ⟨tV s, eK k, .inl (w2.s _ _ hd), rfl, rfl⟩, ?_⟩
    rw [has_tV hs hk]
    exact q _ G2 H2 (w1.trans w2) rfl
end
/-- a dict whose keys are these names -/
structure ESet (ks : List Nat) (kvs : List (L2.Key × V)) : Prop where
  has : ∀ i : Nat, i < 8 → (valV kvs (eK i)).isSome = ks.contains i
  few : kvs.length ≤ ks.length
theorem ESet.nil : ESet [] [] := ⟨fun _ _ => rfl, Nat.le_refl _⟩
theorem ESet.put {ks : List Nat} {kvs : List (L2.Key × V)} (h : ESet ks kvs) {i : Nat} (hi : i < 8) (v : V) : ESet (ks ++ [i]) (putK kvs (eK i) v) := by
  refine ⟨fun j hj => ?_, ?_⟩
  · rw [valV_put]
    by_cases e : j = i
    · subst e
      rw [if_pos rfl]
      simp
    · rw [if_neg (fun z => e (eK_inj hj hi z)), h.has j hj]
      simp [e]
  · have := length_putK kvs (eK i) v
    have := h.few
    rw [List.length_append]
    simp
    omega
def RSss (gs : List (List Nat)) : VP := RL (gs.map RSs)
instance {gs : List (List Nat)} : Mo (RSss gs) := inferInstanceAs (Mo (RL _))
abbrev sTog : Stmt := top 18
def N_Tog : List Str := ["needs", "ways", "found", "taken", "name", "block", "other"]
theorem scTog : FnScope N_Tog ["needs"] (defScope sTog) := ⟨rfl, rfl, rfl, by decide +kernel, rfl, by decide +kernel, by decide +kernel⟩
structure TogIn where
  N : Gr
  n : Nat
  dn : Addr
  nvs : List (L2.Key × V)
structure TogPre (x : TogIn) (G : Hp) : Prop where
  g : NOk x.N x.n
  j : NR x.N x.nvs G
  ks : x.nvs.map (·.1) = (List.range x.n).map eK
def spTog : Sp := spC (fun (x : TogIn) vs G => F2 [RV (.ref x.dn)] vs G ∧ TogPre x G) (fun x => [(x.dn, .dK x.nvs)]) (fun x => RSss (K97.together x.N (List.range x.n))) 1
theorem reached_lt {N : Gr} {n : Nat} (h : NOk N n) (x : Nat) : ∀ y ∈ K97.reached N x, y < n := fun y hy => by
  have hr := (K97.reached_iff (U := List.range n) (fun nm k hk => List.mem_range.mpr (h.sub nm k hk)) (by rw [List.length_range]; have := h.few; omega) x y).mp hy
  cases hr with
  | one h1 => exact h.sub _ _ h1
  | step _ h1 => exact h.sub _ _ h1
section
variable {P : Program} {w : World} {K : PySem.W.Frag} {mg : Str → Option Value} {base : Heap} {C : Addr} {σ : L2.St} {G0 H0 G H : Hp} {cs : List (Addr × HO)}
theorem dn_tog (Dd : Df K mg "together" sTog) (B : Kit P w K mg base C) (E1 : Dn P w K mg base "reached" 1 ["needs", "start"] spRea) : Dn P w K mg base "together" 2 ["needs"] spTog := by
  refine dn_of Dd scTog (fun _ _ _ _ _ _ us hl => match us, hl with | [_], _ => rfl) (fun vs H Q E h => h.1) (fun fa cdv A0 outer st H vs Q E hr h => ?_)
  obtain ⟨_, G, ⟨N, n, dn, nvs⟩, sg, ⟨hF, gok, nr, hks⟩, hcl, ndc, q⟩ := h
  obtain ⟨v0, rfl, h0⟩ := one_of hF
  dsimp only at *
  obtain rfl : v0 = .ref dn := h0
  have nd := scTog.nd
  have hu := hu_of hr
  have few := gok.few
  refine ⟨_, (pss_cons (ps_set (i := 1) nd rfl (.inr rfl) (pe_lock (pe_dc (own := [("name", 4)]) (tt := tYes) rfl nd (pi_keys (pv 0)) (blkOk_by (N := N_Tog) (sc := defScope sTog) (by decide +kernel)) (fun _ _ _ _ _ => (pg_name (i := 4) nd rfl (.inl rfl))) (fun _ _ _ _ _ => pts_nil) (fun _ _ _ _ _ => (pv 4)) (fun _ _ _ _ _ => (pe_dn E1 (hr.mono (by decide)) (by rfl) (pa_cons (pv 0) (pa_cons (pv 4) pa_nil)))))))
  (pss_cons (ps_set (i := 2) nd rfl (.inl rfl) (pe_lst pa_nil))
  (pss_cons (ps_set (i := 3) nd rfl (.inl rfl) pe_dnewK)
  (pss_cons (ps_for PassesOwn.never rfl (pi_list (pe_callB (call_sortedD rfl) (by rfl) B.sorted boot_sorted (pa_cons (pv 0) pa_nil))) (pg_name (i := 4) nd rfl (.inr rfl))
  (pss_one (ps_if (pt_cmp (pc_dnotin hu (pv 4) (pv 3))) (pss_cons (ps_setLc (i := 5) (own := [("other", 6)]) rfl nd rfl rfl (sw_true rfl rfl rfl (by decide +kernel)) (pi_list (pe_callB (call_sortedD rfl) (by rfl) B.sorted boot_sorted (pa_cons (pv 0) pa_nil))) (blkOk_by (N := N_Tog) (sc := defScope sTog) (by decide +kernel)) (fun _ _ _ _ _ => (pg_name (i := 6) nd rfl (.inl rfl))) (fun _ _ _ _ _ => (pts_one (pw_or (pt_cmpR op_eq (pv 6) (pv 4) (nomark _)) (pw_or1 (pw_and (pt_cmp (pc_din hu (pv 6) (pe_dget hu (pv 1) (pv 4) (fun _ _ => rfl)))) (pw_and1 (pt_cmp (pc_din hu (pv 4) (pe_dget hu (pv 1) (pv 6) (fun _ _ => rfl)))))).pt)).pt)) (fun _ _ _ _ _ => (pv 6)))
      (pss_cons (ps_for PassesOwn.never rfl (pi_list (pv 5)) (pg_name (i := 6) nd rfl (.inl rfl))
      (pss_one (ps_dput hu (pv 3) (pv 6) pe_bl rfl)))
      (pss_one (ps_expr (pe_bm PySem.F.plainAttrs_list PySem.F.slot_list_append PySem.F.type_list_append mt_append (pv 2) (pa_cons (pv 5) pa_nil)))))) pss_nil)))
  (pss_one (ps_ret (pv 2))))))), ?_⟩
  have c := Cel.given sg hcl ndc
  have hnl : nvs.length = n := by
    have := congrArg List.length hks
    rw [List.length_map, List.length_map, List.length_range] at this
    exact this
  have hkn : ((List.range n).map eK).Nodup := nodup_map_inj List.nodup_range fun a ha b hb e => eK_inj (by have := List.mem_range.mp ha; omega) (by have := List.mem_range.mp hb; omega) e
  refine q_setN c (en_lock (d := dn) (o := .dK nvs) (cs2 := []) True.intro mem_head (by simp) (by simp) fun od => en_dcA (n := nvs.length) (ew_keys (kvs := nvs) (od := od) (ev_var rfl rfl) mem_head) (by omega) eK (fun i => RTV (K97.reached N i)) (by rw [hnl]; exact hkn) fun i x g' hi sg' hY h' s' k qq => ?_) fun dw o G1 H1 c1 s1 ho => ?_
  · obtain ⟨ky, v, he, rfl⟩ := hY
    have hky : ky = eK i := by
      have e1 : (nvs.map (·.1))[i]? = some ky := by rw [List.getElem?_map, he]; rfl
      rw [hks, List.getElem?_map, List.getElem?_range (by omega)] at e1
      exact (Option.some.inj e1).symm
    subst hky
    refine qq _ rfl (ev_var rfl rfl) (ev_callC (In := _) (cells := _) (Out := fun (x : ReaIn) => RTV (K97.reached x.N x.x)) (n := 2) (⟨N, n, dn, .frz od (.dK nvs), nvs, i⟩ : ReaIn) (ea_cons (P1 := RV (.ref dn)) (ev_var rfl rfl) (ea_cons (P1 := RS i) (ev_var rfl rfl) ea_nil)) (F2.length_is rfl) (fun vs G2 s f => ⟨f, ⟨gok, .inr ⟨od, rfl⟩, nr.mono (sg'.trans s), by show i < n; omega⟩⟩) (by simp) (by simp))
  obtain ⟨wvs, rfl, hw⟩ := ho
  rw [hnl] at hw
  refine q_setN c1 en_nil fun lf o G2 H2 c2 s2 ho => ?_
  subst ho
  refine q_setN c2 en_dK fun dt o G3 H3 c3 s3 ho => ?_
  subst ho
  have s23 := s2.trans s3
  have hwget : ∀ i, i < n → ∃ v, valV wvs (eK i) = some v ∧ RTV (K97.reached N i) v G1 := fun i hi => by
    obtain ⟨v, h1, _, h3⟩ := hw.get hkn (i := i) (k := eK i) (R := RTV (K97.reached N i)) (by rw [List.getElem?_map, List.getElem?_range hi]; rfl) (by rw [List.getElem?_map, List.getElem?_range hi]; rfl)
    exact ⟨v, h1, h3⟩
  have hB := K97.together_ok (N := N) (U := List.range n) (names := List.range n) ⟨fun nm k hk => List.mem_range.mpr (gok.sub nm k hk), by rw [List.length_range]; omega⟩ List.nodup_range
  refine q_for (cs' := [(dn, .dK nvs)]) c3 (ew_list (Rs := (List.range n).map RS) (ev_sortedD (ev_var rfl rfl) mem_head (.inl rfl) hks (by omega)))
    (fun i s' g h => ∃ o4 o5 o6 xs tvs, s' = [some (.ref dn), some (.ref dw), some (.ref lf), some (.ref dt), o4, o5, o6] ∧ Cel G (mask H [(dn, .dK nvs)]) g h [(dt, .dK tvs), (lf, .lst xs), (dw, .dK wvs), (dn, .dK nvs)] ∧ L2.Same G1 g ∧
      F2 ((((List.range n).take i).foldl (K97.togStep N (List.range n)) ([], [])).1.map RSs) xs g ∧ ESet (((List.range n).take i).foldl (K97.togStep N (List.range n)) ([], [])).2 tvs ∧ (((List.range n).take i).foldl (K97.togStep N (List.range n)) ([], [])).2.length ≤ 8 * i ∧ (((List.range n).take i).foldl (K97.togStep N (List.range n)) ([], [])).1.length ≤ i)
    (fun i s' g h ⟨_, _, _, _, _, _, cc, _⟩ => ⟨cc.s, cc.hc.sub (by simp)⟩) (fun G6 H6 c6 s6 => ⟨none, none, none, [], [], rfl, c6, s23.trans s6, trivial, .nil, Nat.le_refl _, Nat.le_refl _⟩) ?_ ?_
  · rintro i s' g h x hi sg' ⟨o4, o5, o6, xs, tvs, rfl, cc, sG, hxs, htv, hl2, hl1⟩ g2 h2 w2 hY
    rw [List.length_map, List.length_range] at hi
    have hei : (List.range n)[i]? = some i := List.getElem?_range hi
    have hY := hY.map hei
    obtain rfl : x = .str (eS i) := hY
    rw [foldl_take _ _ hei]
    generalize ((List.range n).take i).foldl (K97.togStep N (List.range n)) ([], []) = r at hxs htv hl2 hl1
    have hi8 : i < 8 := by omega
    have cc2 := cc.go w2
    refine s_if cc2 (et_B (ev_dninK (k := eK i) mem_head (.inl rfl) (ev_var rfl rfl) (ev_var rfl rfl))) (fun hb g4 h4 c4 s4 => ?_) (fun hb g4 h4 c4 s4 => ?_)
    · rw [htv.has i hi8] at hb
      have hni : r.2.contains i = false := by simpa using hb
      have estep : K97.togStep N (List.range n) r i = (r.1 ++ [K97.blockOf N (List.range n) i], r.2 ++ K97.blockOf N (List.range n) i) := if_neg (by rw [hni]; decide)
      rw [estep]
      have hbl : (K97.blockOf N (List.range n) i).length ≤ n := Nat.le_trans (List.length_filter_le _ _) (by rw [List.length_range]; exact Nat.le_refl _)
      have hbn : ∀ y ∈ K97.blockOf N (List.range n) i, y < n := fun y hy => List.mem_range.mp (List.mem_filter.mp hy).1
      refine q_set c4 (P := RSs (K97.blockOf N (List.range n) i)) ?_ fun vb g5 h5 c5 s5 pb => ?_
      · unfold RSs K97.blockOf
        have s14 := (sG.trans w2.g).trans s4
        obtain ⟨vi, hvi, hRi⟩ := hwget i hi
        refine ev_lc (n := n) (ew_listN (Rs := (List.range n).map RS) (ev_sortedD (n := n) (d := dn) (o := .dK nvs) (ev_var rfl rfl) (by simp) (.inl rfl) hks (by omega)) (by rw [List.length_map, List.length_range])) (by omega) (fun y => decide (y = i) || ((K97.reached N i).contains y && (K97.reached N y).contains i)) RS fun y x g' hy sg' hY h' s' k qq => ?_
        have hY := hY.map (List.getElem?_range hy)
        obtain rfl : x = .str (eS y) := hY
        have hy8 : y < 8 := by omega
        obtain ⟨vy, hvy, hRy⟩ := hwget y hy
        have hr8 : ∀ z, ∀ u ∈ K97.reached N z, u < 8 := fun z u hu => by have := reached_lt gok z u hu; omega
        refine qq _ rfl ((et_or (et_test (ev_op (ev_var rfl rfl) (ev_var rfl rfl) (rv_eq rfl))) (fun _ => et_and (et_B (ev_dinG (k := y) (hr8 i) hy8 (ev_var rfl rfl) (ev_dgetK (k := eK i) (kvs := wvs) (d := dw) (P := RTV (K97.reached N i)) mem_3 (.inl rfl) (ev_var rfl rfl) (ev_var rfl rfl) hvi (up (s14.trans sg') hRi)))) (fun _ => et_B (ev_dinG (k := i) (hr8 y) hi8 (ev_var rfl rfl) (ev_dgetK (k := eK y) (kvs := wvs) (d := dw) (P := RTV (K97.reached N y)) mem_3 (.inl rfl) (ev_var rfl rfl) (ev_var rfl rfl) hvy (up (s14.trans sg') hRy)))))).is ?_) fun _ => ev_var rfl rfl
        congr 1
        by_cases e : y = i
        · subst e; simp
        · rw [decide_eq_false e]
          exact decide_eq_false fun z => e (eS_inj8 y hy8 i hi8 (by injection z))
      · generalize K97.blockOf N (List.range n) i = bl at pb hbl hbn
        have tfew := htv.few
        refine q_for (cs' := []) c5 (ew_list (Rs := bl.map RS) (ev_var rfl pb))
          (fun j s' g' h => ∃ o6 tvs, s' = [some (.ref dn), some (.ref dw), some (.ref lf), some (.ref dt), some (.str (eS i)), some vb, o6] ∧ Cel G (mask H [(dn, .dK nvs)]) g' h [(dt, .dK tvs), (lf, .lst xs), (dw, .dK wvs), (dn, .dK nvs)] ∧ L2.Same g5 g' ∧ ESet (r.2 ++ bl.take j) tvs)
          (fun i s' g h ⟨_, _, _, cc, _⟩ => ⟨cc.s, .nil⟩) (fun G6 H6 c6 s6 => ⟨_, tvs, rfl, c6, s6, by rw [List.take_zero, List.append_nil]; exact htv⟩) ?_ ?_
        · rintro j s' g6 h6 x6 hj sg6 ⟨p6, tv2, rfl, c6, sG6, ht6⟩ g7 h7 w7 hY7
          rw [List.length_map] at hj
          have hej := List.getElem?_eq_getElem hj
          have hY7 := hY7.map hej
          obtain rfl : x6 = .str (eS bl[j]) := hY7
          have hb8 : bl[j] < 8 := by have := hbn _ (List.getElem_mem hj); omega
          have t6 := ht6.few
          rw [List.length_append, List.length_take] at t6
          refine s_dputK (k := eK bl[j]) (P := RV (.bl true)) (c6.go w7) ev_c (ev_var rfl rfl) (ev_var rfl rfl) (by omega) fun vt g8 h8 c8 s8 p8 => ?_
          refine ⟨g8, w7.g.trans s8, _, _, rfl, c8, (sG6.trans w7.g).trans s8, ?_⟩
          rw [← List.take_append_getElem hj, ← List.append_assoc]
          exact ht6.put hb8 vt
        · rintro s' g6 h6 sg6 ⟨p6, tv2, rfl, c6, sG6, ht6⟩
          rw [List.length_map, List.take_length] at ht6
          refine s_app c6.swap rfl (ev_var rfl (up sG6 pb)) (by rw [← hxs.len, List.length_map]; omega) fun vn g7 h7 c7 s7 p7 => ?_
          have s27 := (((w2.g.trans s4).trans s5).trans sG6).trans s7
          refine ⟨g7, s27, _, _, _, xs ++ [vn], tv2, rfl, c7.swap, sG.trans s27, ?_, ht6, ?_, ?_⟩
          · rw [List.map_append]
            exact (hxs.mono moA_map.mo s27).snoc p7
          · rw [List.length_append]; omega
          · rw [List.length_append]; simp; omega
    · rw [htv.has i hi8] at hb
      have hyi : r.2.contains i = true := by simpa using hb
      have estep : K97.togStep N (List.range n) r i = r := if_pos hyi
      rw [estep]
      have s24 := w2.g.trans s4
      exact ⟨g4, s24, _, _, _, xs, tvs, rfl, c4, sG.trans s24, hxs.mono moA_map.mo s24, htv, by omega, by omega⟩
  · rintro s' g h sg' ⟨o4, o5, o6, xs, tvs, rfl, cc, sG, hxs, htv, hl2, hl1⟩
    rw [List.length_map, List.length_range, List.take_of_length_le (by rw [List.length_range]; exact Nat.le_refl _)] at hxs
    obtain ⟨c6, s6⟩ := cc.swap.freeze
    refine s_ret c6 (ev_var rfl (P := RSss (K97.together N (List.range n))) ⟨lf, xs, rfl, upd_same, hxs.mono moA_map.mo s6⟩) fun v g8 h8 c8 s8 p8 => q v g8 h8 (c8.read hcl (by simp)) p8
end
end KW
end
section
set_option Elab.async false
set_option linter.all false
set_option maxRecDepth 100000
set_option maxHeartbeats 2000000
namespace KW
open PySem PySem.Spec PyProof.Rows L2
open K97 (Gr jn)
/-! ### {k: v for .. for ..}, keys and values told -/
section
variable {κ : Type} [DecidableEq κ] (k : Nat → Nat → κ) (v : Nat → Nat → V) (n1 : Nat → Nat)
def kvI (i j : Nat) (d : List (κ × V)) : List (κ × V) := (List.range j).foldl (fun d j => putK d (k i j) (v i j)) d
def kvO (n : Nat) : List (κ × V) := (List.range n).foldl (fun d i => kvI k v i (n1 i) d) []
theorem kvI_succ (i j : Nat) (d : List (κ × V)) : kvI k v i (j + 1) d = putK (kvI k v i j d) (k i j) (v i j) := by
  unfold kvI
  rw [List.range_succ, List.foldl_append]
  rfl
theorem kvO_succ (i : Nat) : kvO k v n1 (i + 1) = kvI k v i (n1 i) (kvO k v n1 i) := by
  unfold kvO
  rw [List.range_succ, List.foldl_append]
  rfl
theorem kvI_len (i j : Nat) (d : List (κ × V)) : (kvI k v i j d).length ≤ d.length + j := by
  induction j with
  | zero => exact Nat.le_refl _
  | succ j ih =>
    rw [kvI_succ]
    have := length_putK (kvI k v i j d) (k i j) (v i j)
    omega
theorem kvO_len {c : Nat} : ∀ n, (∀ i, i < n → n1 i ≤ c) → (kvO k v n1 n).length ≤ n * c
  | 0, _ => Nat.zero_le _
  | n + 1, h => by
    rw [kvO_succ]
    have h1 := kvI_len k v n (n1 n) (kvO k v n1 n)
    have h2 := kvO_len n fun i hi => h i (by omega)
    have h3 := h n (by omega)
    rw [Nat.add_mul]
    omega
theorem mem_putK {d : List (κ × V)} {a b : κ} {y : V} : a ∈ (putK d b y).map (·.1) ↔ a = b ∨ a ∈ d.map (·.1) := by
  rw [← valV_hasP, valV_put, ← valV_hasP]
  by_cases e : a = b
  · rw [if_pos e]; simp [e]
  · rw [if_neg e]; simp [e]
theorem mem_kvI {a : κ} (i : Nat) (d : List (κ × V)) : ∀ j, a ∈ (kvI k v i j d).map (·.1) ↔ (∃ y, y < j ∧ a = k i y) ∨ a ∈ d.map (·.1)
  | 0 => by
    show a ∈ d.map (·.1) ↔ _
    constructor
    · exact .inr
    · rintro (⟨y, hy, _⟩ | h)
      · omega
      · exact h
  | j + 1 => by
    rw [kvI_succ, mem_putK, mem_kvI i d j]
    constructor
    · rintro (rfl | ⟨y, hy, e⟩ | h)
      · exact .inl ⟨j, by omega, rfl⟩
      · exact .inl ⟨y, by omega, e⟩
      · exact .inr h
    · rintro (⟨y, hy, e⟩ | h)
      · rcases Nat.lt_or_ge y j with h1 | h1
        · exact .inr (.inl ⟨y, h1, e⟩)
        · have : y = j := by omega
          subst this; exact .inl e
      · exact .inr (.inr h)
theorem mem_kvO {a : κ} : ∀ n, a ∈ (kvO k v n1 n).map (·.1) ↔ ∃ i j, i < n ∧ j < n1 i ∧ a = k i j
  | 0 => by
    constructor
    · intro h; simp [kvO] at h
    · rintro ⟨i, _, hi, _⟩; omega
  | n + 1 => by
    rw [kvO_succ, mem_kvI, mem_kvO n]
    constructor
    · rintro (⟨y, hy, e⟩ | ⟨i, j, hi, hj, e⟩)
      · exact ⟨n, y, by omega, hy, e⟩
      · exact ⟨i, j, by omega, hj, e⟩
    · rintro ⟨i, j, hi, hj, e⟩
      rcases Nat.lt_or_ge i n with h1 | h1
      · exact .inr ⟨i, j, h1, hj, e⟩
      · have : i = n := by omega
        subst this; exact .inl ⟨j, hj, e⟩
end
section
variable {K : PySem.W.Frag} {σ : L2.St} {G0 H0 G H : Hp} {cs : List (Addr × HO)} {tk tv : TE}
theorem en_dc2 {wi wi1 : TI} {g g1 : TG} {vs vs1 : List Nat} {n : Nat} {Y : Nat → VP} (hw : EvW wi σ G cs n Y) (k : Nat → Nat → L2.Key) (v : Nat → Nat → V) (n1 : Nat → Nat) {cc : Nat} (hc1 : ∀ i, i < n → n1 i ≤ cc) (hlen : n * cc + cc ≤ 1000)
    (hb : ∀ i x g', i < n → L2.Same G g' → Y i x g' → ∀ h', L2.Same g' h' → ∀ q : L2.St → Hp → Prop, (∀ s2 (Y1 : Nat → VP), wipe s2 vs = wipe σ vs → EvW wi1 s2 g' cs (n1 i) Y1 →
      (∀ j y g2, j < n1 i → L2.Same g' g2 → Y1 j y g2 → ∀ h2, L2.Same g2 h2 → ∀ q1 : L2.St → Hp → Prop, (∀ s3, wipe s3 vs1 = wipe s2 vs1 → EvP tk s3 g2 cs (RV (kV (k i j))) → EvP tv s3 g2 cs (RV (v i j)) → q1 s3 h2) → g1 y (wipe s2 vs1) h2 q1) → q s2 h') → g x (wipe σ vs) h' q) :
    EvN (tDc2 (.dK []) wi g tYes wi1 g1 tYes tk tv vs vs1) σ G cs (fun o _ => o = .dK (kvO k v n1 n)) := fun H s hc Q q =>
  hw H s hc _ fun J G1 H1 w1 wk L hL => by
    have c1 := ((Cel.start s).go w1).new (l := L) (o := .dK []) hL
    refine ⟨fun i m h' => m = n - i ∧ i ≤ n ∧ ∃ g', L2.Same G1 g' ∧ Cel G H g' h' [(L, .dK (kvO k v n1 i))], ⟨n, by simp, Nat.zero_le _, G1, .refl _, c1⟩, ?_⟩
    rintro i m' h' ⟨rfl, hi, g', sg, c⟩
    have hc' : HC cs g' h' := hc.up c.w
    by_cases hlt : i < n
    · obtain ⟨hgo, hy⟩ := wk.1 i g' h' hlt sg c.s hc'
      refine .inr ⟨hgo, fun h => ∃ g4, L2.Same g' g4 ∧ Cel G H g4 h [(L, .dK (kvO k v n1 (i + 1)))], fun h ⟨g4, a, b⟩ => ⟨n - (i + 1), by omega, rfl, hlt, g4, sg.trans a, b⟩, fun x h2 y => ?_⟩
      obtain ⟨g2, w2, hY⟩ := hy x h2 y
      have c2 := c.go w2
      refine hb i x g2 hlt ((w1.g.trans sg).trans w2.g) hY h2 c2.s _ fun s2 Y1 hw2 hwi hin => ⟨hw2, ?_⟩
      show wi1 s2 h2 _
      refine hwi h2 c2.s (hc.up c2.w) _ fun J1 g3 h3 w3 wk1 => ?_
      have c3 := c2.go w3
      refine ⟨fun j m h' => m = n1 i - j ∧ j ≤ n1 i ∧ ∃ g', L2.Same g3 g' ∧ Cel G H g' h' [(L, .dK (kvI k v i j (kvO k v n1 i)))], ⟨n1 i, by simp, Nat.zero_le _, g3, .refl _, c3⟩, ?_⟩
      rintro j m'' h4 ⟨rfl, hj, g4, sg4, c4⟩
      by_cases hjl : j < n1 i
      · obtain ⟨hgo1, hy1⟩ := wk1.1 j g4 h4 hjl sg4 c4.s (hc.up c4.w)
        refine .inr ⟨hgo1, fun h => ∃ g5, L2.Same g4 g5 ∧ Cel G H g5 h [(L, .dK (kvI k v i (j + 1) (kvO k v n1 i)))], fun h ⟨g5, a, b⟩ => ⟨n1 i - (j + 1), by omega, rfl, hjl, g5, sg4.trans a, b⟩, fun x1 h5 y1 => ?_⟩
        obtain ⟨g5, w5, hY1⟩ := hy1 x1 h5 y1
        have c5 := c4.go w5
        refine hin j x1 g5 hjl ((w3.g.trans sg4).trans w5.g) hY1 h5 c5.s _ fun s3 hw3 hk he => ⟨hw3, ?_⟩
        show tk s3 h5 _
        refine hk h5 c5.s (hc.up c5.w) _ fun y g6 h6 w6 ey => (he.up w6.g) h6 (c5.go w6).s (hc.up (c5.go w6).w) _ fun vv g7 h7 w7 p => ?_
        obtain rfl : vv = v i j := p
        obtain rfl : y = kV (k i j) := ey
        have c7 := (c5.go w6).go w7
        have hl : (kvI k v i j (kvO k v n1 i)).length ≤ 1000 := by
          have h1 := kvI_len k v i j (kvO k v n1 i)
          have h2 := kvO_len k v n1 (c := cc) i fun y hy => hc1 y (by omega)
          have h3 := Nat.mul_le_mul_right cc hi
          have h4 := hc1 i hlt
          omega
        refine ⟨_, DPut.k c7.hd (small1000 hl), g7, (w5.g.trans w6.g).trans w7.g, ?_⟩
        rw [kvI_succ]
        exact c7.put _
      · have e : j = n1 i := by omega
        subst e
        refine .inl ⟨wk1.2 g4 h4 sg4 c4.s (hc.up c4.w), g4, (w2.g.trans w3.g).trans sg4, ?_⟩
        rw [kvO_succ]
        exact c4
    · have e : i = n := by omega
      subst e
      obtain ⟨k1, k2, k3⟩ := c.at_ _ List.mem_cons_self
      exact .inl ⟨wk.2 g' h' sg c.s hc', q L _ g' h' k3 c.w k2 k1 rfl⟩
end
end KW
end
section
set_option Elab.async false
set_option linter.all false
set_option maxRecDepth 100000
set_option maxHeartbeats 2000000
namespace KW
open PySem PySem.Spec PyProof.Rows L2
open K97 (Gr jn numOf wantedOf canGo ordL orderOf)
/-! ### the group of a name -/
theorem flat_same {gs : List (List Nat)} (h : gs.flatten.Nodup) {i j x : Nat} (hi : i < gs.length) (hj : j < gs.length) (h1 : x ∈ gs[i]) (h2 : x ∈ gs[j]) : i = j := by
  induction gs generalizing i j with
  | nil => simp at hi
  | cons g gs ih =>
    rw [List.flatten_cons, List.nodup_append] at h
    obtain ⟨_, hn, hd⟩ := h
    cases i with
    | zero =>
      cases j with
      | zero => rfl
      | succ j =>
        have hj' : j < gs.length := by simpa using hj
        exact absurd rfl (hd x h1 x (List.mem_flatten.mpr ⟨gs[j], List.getElem_mem hj', h2⟩))
    | succ i =>
      have hi' : i < gs.length := by simpa using hi
      cases j with
      | zero => exact absurd rfl (hd x h2 x (List.mem_flatten.mpr ⟨gs[i], List.getElem_mem hi', h1⟩))
      | succ j =>
        have hj' : j < gs.length := by simpa using hj
        exact congrArg (· + 1) (ih hn hi' hj' h1 h2)
theorem getD_get {T : Type} {l : List T} {d : T} {i : Nat} (h : i < l.length) : l.getD i d = l[i] := by rw [List.getD_eq_getElem?_getD, List.getElem?_eq_getElem h]; rfl
def numK (gs : List (List Nat)) (i j : Nat) : L2.Key := eK ((gs.getD i []).getD j 0)
def numKV (gs : List (List Nat)) : List (L2.Key × V) := kvO (numK gs) (fun i _ => .int ((i : Nat) : Int)) (fun i => (gs.getD i []).length) gs.length
theorem numI {gs : List (List Nat)} (h8 : ∀ x ∈ gs.flatten, x < 8) {i : Nat} (hi : i < gs.length) (d : List (L2.Key × V)) {x : Nat} (hx : x < 8) : ∀ j, j ≤ (gs.getD i []).length →
    valV (kvI (numK gs) (fun i _ => .int ((i : Nat) : Int)) i j d) (eK x) = if x ∈ (gs.getD i []).take j then some (.int ((i : Nat) : Int)) else valV d (eK x)
  | 0, _ => by
    rw [List.take_zero, if_neg (by simp)]
    rfl
  | j + 1, hj => by
    have hg := getD_get (d := []) hi
    have hjl : j < (gs.getD i []).length := hj
    rw [kvI_succ, valV_put, numI h8 hi d hx j (by omega), ← List.take_append_getElem hjl]
    unfold numK
    rw [getD_get hjl]
    have hm : (gs.getD i [])[j] ∈ gs.flatten := List.mem_flatten.mpr ⟨gs[i], List.getElem_mem hi, by rw [← hg]; exact List.getElem_mem hjl⟩
    by_cases e : x = (gs.getD i [])[j]
    · rw [if_pos (congrArg eK e), if_pos (by rw [List.mem_append]; exact .inr (by rw [e]; simp))]
    · rw [if_neg (fun z => e (eK_inj hx (h8 _ hm) z))]
      by_cases e2 : x ∈ (gs.getD i []).take j
      · rw [if_pos e2, if_pos (List.mem_append_left _ e2)]
      · rw [if_neg e2, if_neg]
        rw [List.mem_append, List.mem_singleton]
        exact fun z => z.elim e2 e
theorem num_val {gs : List (List Nat)} (hn : gs.flatten.Nodup) (h8 : ∀ x ∈ gs.flatten, x < 8) : ∀ n, n ≤ gs.length → ∀ i, i < n → ∀ x ∈ gs.getD i [], valV (kvO (numK gs) (fun i _ => .int ((i : Nat) : Int)) (fun i => (gs.getD i []).length) n) (eK x) = some (.int ((i : Nat) : Int))
  | 0, _, i, hi, _, _ => by omega
  | n + 1, hl, i, hi, x, hx => by
    have hil : i < gs.length := by omega
    have hnl : n < gs.length := by omega
    have hx8 : x < 8 := h8 x (List.mem_flatten.mpr ⟨gs[i], List.getElem_mem hil, by rw [← getD_get (d := []) hil]; exact hx⟩)
    rw [kvO_succ, numI h8 hnl _ hx8 _ (Nat.le_refl _), List.take_length]
    by_cases e : i = n
    · subst e
      rw [if_pos hx]
    · rw [if_neg, num_val hn h8 n (by omega) i (by omega) x hx]
      intro h2
      rw [getD_get hil] at hx
      rw [getD_get hnl] at h2
      exact e (flat_same hn hil hnl hx h2)
theorem numOf_in {gs : List (List Nat)} {x : Nat} (h : x ∈ gs.flatten) : numOf gs x < gs.length ∧ x ∈ gs.getD (numOf gs x) [] := by
  obtain ⟨g, hg, hx⟩ := List.mem_flatten.mp h
  have h1 : numOf gs x < gs.length := List.findIdx_lt_length_of_exists ⟨g, hg, by simpa using hx⟩
  refine ⟨h1, ?_⟩
  rw [getD_get h1]
  have h3 : (gs[numOf gs x]).contains x = true := List.findIdx_getElem (w := h1)
  simpa using h3
theorem num_get {gs : List (List Nat)} (hn : gs.flatten.Nodup) (h8 : ∀ x ∈ gs.flatten, x < 8) {x : Nat} (hx : x ∈ gs.flatten) : valV (numKV gs) (eK x) = some (.int ((numOf gs x : Nat) : Int)) := by
  obtain ⟨h1, h2⟩ := numOf_in hx
  exact num_val hn h8 gs.length (Nat.le_refl _) _ h1 x h2
/-! ### what a group waits for -/
def wanK (N : Gr) (gs : List (List Nat)) (g : List Nat) (i j : Nat) : L2.Key := .inl ((numOf gs ((jn N (g.getD i 0)).getD j 0) : Nat) : Int)
def wanKV (N : Gr) (gs : List (List Nat)) (g : List Nat) : List (L2.Key × V) := kvO (wanK N gs g) (fun _ _ => .bl true) (fun i => (jn N (g.getD i 0)).length) g.length
theorem mem_wan {N : Gr} {gs : List (List Nat)} {g : List Nat} {a : L2.Key} : a ∈ (wanKV N gs g).map (·.1) ↔ ∃ z ∈ wantedOf N gs g, a = .inl ((z : Nat) : Int) := by
  unfold wanKV
  rw [mem_kvO]
  unfold wantedOf
  constructor
  · rintro ⟨i, j, hi, hj, rfl⟩
    rw [getD_get hi] at hj
    refine ⟨_, List.mem_map.mpr ⟨(jn N g[i])[j], List.mem_flatMap.mpr ⟨g[i], List.getElem_mem hi, List.getElem_mem hj⟩, rfl⟩, ?_⟩
    unfold wanK
    rw [getD_get hi, getD_get hj]
  · rintro ⟨z, hz, rfl⟩
    obtain ⟨y, hy, rfl⟩ := List.mem_map.mp hz
    obtain ⟨x, hx, hy⟩ := List.mem_flatMap.mp hy
    obtain ⟨i, hi, rfl⟩ := List.mem_iff_getElem.mp hx
    obtain ⟨j, hj, rfl⟩ := List.mem_iff_getElem.mp hy
    refine ⟨i, j, hi, by rw [getD_get hi]; exact hj, ?_⟩
    unfold wanK
    rw [getD_get hi, getD_get hj]
/-- the i-th key as a number -/
def keyN (kvs : List (L2.Key × V)) (i : Nat) : Nat := match kvs[i]? with
  | some (.inl z, _) => z.toNat
  | _ => 0
theorem keyN_is {N : Gr} {gs : List (List Nat)} {g : List Nat} {i : Nat} {k : L2.Key} {v : V} (h : (wanKV N gs g)[i]? = some (k, v)) : k = .inl ((keyN (wanKV N gs g) i : Nat) : Int) := by
  have hm : k ∈ (wanKV N gs g).map (·.1) := List.mem_map.mpr ⟨_, List.mem_of_getElem? h, rfl⟩
  obtain ⟨z, _, rfl⟩ := mem_wan.mp hm
  unfold keyN
  rw [h]
  rfl
theorem all_wan {N : Gr} {gs : List (List Nat)} {g : List Nat} (p : Nat → Bool) : ((List.range (wanKV N gs g).length).all fun i => p (keyN (wanKV N gs g) i)) = (wantedOf N gs g).all p := by
  rw [Bool.eq_iff_iff, List.all_eq_true, List.all_eq_true]
  constructor
  · intro h z hz
    have hm := (mem_wan (N := N) (gs := gs) (g := g)).mpr ⟨z, hz, rfl⟩
    obtain ⟨q, hq, e⟩ := List.mem_map.mp hm
    obtain ⟨i, hi, rfl⟩ := List.mem_iff_getElem.mp hq
    have h1 := h i (List.mem_range.mpr hi)
    have e2 := keyN_is (N := N) (gs := gs) (g := g) (i := i) (k := (wanKV N gs g)[i].1) (v := (wanKV N gs g)[i].2) (List.getElem?_eq_getElem hi)
    rw [e] at e2
    injection e2 with e2
    have : keyN (wanKV N gs g) i = z := by omega
    rw [this] at h1
    exact h1
  · intro h i hi
    have hi := List.mem_range.mp hi
    have e2 := keyN_is (N := N) (gs := gs) (g := g) (i := i) (k := (wanKV N gs g)[i].1) (v := (wanKV N gs g)[i].2) (List.getElem?_eq_getElem hi)
    have hm : (wanKV N gs g)[i].1 ∈ (wanKV N gs g).map (·.1) := List.mem_map.mpr ⟨_, List.getElem_mem hi, rfl⟩
    obtain ⟨z, hz, e⟩ := mem_wan.mp hm
    rw [e] at e2
    injection e2 with e2
    have : keyN (wanKV N gs g) i = z := by omega
    rw [this]
    exact h z hz
/-! ### list steps -/
section
variable {K : PySem.W.Frag} {σ : L2.St} {G0 H0 G H : Hp} {cs : List (Addr × HO)} {te ta tb : TE} {D : Ends} {i : Nat}
theorem s_appN {P : HO → Hp → Prop} {l : Addr} {xs : List V} (c : Cel G0 H0 G H ((l, .lst xs) :: cs)) (hl : σ[i]? = some (some (.ref l))) (h : EvN te σ G ((l, .lst xs) :: cs) P) (hz : xs.length ≤ 1000)
    (k : ∀ d o G2 H2, Cel G0 H0 G2 H2 ((l, .lst (xs ++ [.ref d])) :: (d, o) :: cs) → L2.Same G G2 → P o G2 → D.nx σ H2) : tDrop (tBM K "list" rAppend (tVar i) (tCons te tNil)) D σ H :=
  ⟨.ref l, hl, .inl ⟨rfl, _, .inl (.inl c.hd)⟩, h H c.s c.hc _ fun d o G2 H2 hd w hg ho p => by
    have c2 := (c.made hd w hg ho).swap
    exact ⟨l, xs, .ref d, rfl, rfl, c2.hd, small1000 hz, k d o G2 _ (c2.put _) w.g p⟩⟩
theorem F2.bls {b : Nat → Bool} : ∀ {n : Nat} {vs : List V} {G : Hp}, F2 ((List.range n).map fun i => RV (.bl (b i))) vs G → vs = ((List.range n).map b).map V.bl := by
  intro n vs G h
  have hl := h.len
  rw [List.length_map, List.length_range] at hl
  refine List.ext_getElem (by rw [List.length_map, List.length_map, List.length_range]; exact hl.symm) fun i h1 h2 => ?_
  obtain ⟨R, hR, e⟩ := h.at (List.getElem?_eq_getElem h1)
  rw [List.getElem?_map, List.getElem?_range (by omega)] at hR
  cases hR
  simp only [List.getElem_map, List.getElem_range]
  exact e
theorem et_all {b : Nat → Bool} {n : Nat} (h : EvP te σ G cs (RL ((List.range n).map fun i => RV (.bl (b i))))) : EvT (fun σ H Q => tCB (rAll K) (tCons te tNil) σ H fun x H' => ∃ k, TruV K x H' k ∧ Q k H') σ G cs ((List.range n).all b) := fun H s hc Q q =>
  h H s hc _ fun v G2 H2 w p => by
    obtain ⟨a, vs, rfl, ha, hf⟩ := p
    refine ⟨a, (List.range n).map b, rfl, .inl (.inl ?_), _, rfl, ?_⟩
    · rw [← hf.bls]; exact w.s _ _ ha
    · have e : ((List.range n).map b).all id = (List.range n).all b := by rw [List.all_map]; rfl
      rw [e]
      exact q _ _ w
end
end KW
end
section
set_option Elab.async false
set_option linter.all false
set_option maxRecDepth 100000
set_option maxHeartbeats 2000000
namespace KW
open PySem PySem.Spec PyProof.Rows L2
open K97 (Gr jn numOf wantedOf canGo ordL orderOf)
abbrev sOrd : Stmt := top 19
def N_Ord : List Str := ["groups", "needs", "number", "wanted", "found", "done", "at", "group", "name", "other"]
theorem scOrd : FnScope N_Ord ["groups", "needs"] (defScope sOrd) := ⟨rfl, rfl, rfl, by decide +kernel, rfl, by decide +kernel, by decide +kernel⟩
structure OrdIn where
  N : Gr
  n : Nat
  gs : List (List Nat)
  dn : Addr
  nvs : List (L2.Key × V)
structure OrdPre (x : OrdIn) (G : Hp) : Prop where
  g : NOk x.N x.n
  j : NR x.N x.nvs G
  b : K97.Blk x.N (List.range x.n) x.gs
def spOrd : Sp := spC (fun (x : OrdIn) vs G => F2 [RSss x.gs, RV (.ref x.dn)] vs G ∧ OrdPre x G) (fun x => [(x.dn, .dK x.nvs)]) (fun x => RSss ((orderOf x.N x.gs).map fun i => x.gs.getD i [])) 2
theorem blk_lt {N : Gr} {n : Nat} {gs : List (List Nat)} (b : K97.Blk N (List.range n) gs) : ∀ x ∈ gs.flatten, x < n := fun x hx => by
  obtain ⟨g, hg, hx⟩ := List.mem_flatten.mp hx
  obtain ⟨y, _, rfl⟩ := b.cls g hg
  exact List.mem_range.mp (List.mem_filter.mp hx).1
theorem flat_len {gs : List (List Nat)} (h : ∀ g ∈ gs, g ≠ []) : gs.length ≤ gs.flatten.length := by
  induction gs with
  | nil => exact Nat.le_refl _
  | cons g gs ih =>
    have h1 := ih fun g hg => h g (List.mem_cons_of_mem _ hg)
    have h2 : g.length ≠ 0 := fun z => h g List.mem_cons_self (List.eq_nil_of_length_eq_zero z)
    rw [List.flatten_cons, List.length_append, List.length_cons]
    omega
theorem blk_few {N : Gr} {n : Nat} {gs : List (List Nat)} (b : K97.Blk N (List.range n) gs) : gs.length ≤ n := by
  have h1 := flat_len (gs := gs) fun g hg z => by
    obtain ⟨y, hy, e⟩ := b.cls g hg
    have : y ∈ K97.blockOf N (List.range n) y := List.mem_filter.mpr ⟨hy, by simp⟩
    rw [← e, z] at this
    simp at this
  have h2 := K97.nodup_le b.nd (m := List.range n) fun x hx => List.mem_range.mpr (blk_lt b x hx)
  rw [List.length_range] at h2
  omega
theorem blk_wide {N : Gr} {n : Nat} {gs : List (List Nat)} (b : K97.Blk N (List.range n) gs) {g : List Nat} (hg : g ∈ gs) : g.length ≤ n := by
  obtain ⟨y, _, rfl⟩ := b.cls g hg
  exact Nat.le_trans (List.length_filter_le _ _) (by rw [List.length_range]; exact Nat.le_refl _)
section
variable {P : Program} {w : World} {K : PySem.W.Frag} {mg : Str → Option Value} {base : Heap} {C : Addr} {σ : L2.St} {G0 H0 G H : Hp} {cs : List (Addr × HO)}
theorem dn_ord (Dd : Df K mg "ordered" sOrd) (B : Kit P w K mg base C) : Dn P w K mg base "ordered" 1 ["groups", "needs"] spOrd := by
  refine dn_of Dd scOrd (fun _ _ _ _ _ _ us hl => match us, hl with | [_, _], _ => rfl) (fun vs H Q E h => h.1) (fun fa cdv A0 outer st H vs Q E hr h => ?_)
  obtain ⟨_, G, ⟨N, n, gs, dn, nvs⟩, sg, ⟨hF, gok, nr, blk⟩, hcl, ndc, q⟩ := h
  obtain ⟨v0, v1, rfl, h0, h1⟩ := two_of hF
  dsimp only at *
  obtain rfl : v1 = .ref dn := h1
  have nd := scOrd.nd
  have hu := hu_of hr
  have few := gok.few
  refine ⟨_, (pss_cons (ps_set (i := 2) nd rfl (.inr rfl) (pe_dc2 (own := [("at", 6), ("group", 7), ("name", 8)]) (vs1 := [8]) (g := (gTup K 2 (gCons (gName 6) (gCons (gName 7) gNil)))) (wi1 := iList K (tVar 7)) (tt := tYes) (tt1 := tYes) hu rfl nd (pi_enum (by rfl) B.enum (pa_cons (pv 0) pa_nil)) (blkOk_by (N := N_Ord) (sc := defScope sOrd) (by decide +kernel)) (by simp) (fun _ _ _ _ _ => (pg_tup rfl (pgs_cons (pg_name (i := 6) nd rfl (.inl rfl)) (pgs_cons (pg_name (i := 7) nd rfl (.inl rfl)) pgs_nil)))) (fun _ _ _ _ _ => pts_nil) (fun _ _ _ _ _ => (pi_list (pv 7))) (fun _ _ _ _ _ => (pg_name (i := 8) nd rfl (.inl rfl))) (fun _ _ _ _ _ => pts_nil) (fun _ _ _ _ _ => (pv 8)) (fun _ _ _ _ _ => (pv 6))))
  (pss_cons (ps_set (i := 3) nd rfl (.inl rfl) (pe_lst pa_nil))
  (pss_cons (ps_for PassesOwn.never rfl (pi_list (pv 0)) (pg_name (i := 7) nd rfl (.inl rfl))
  (pss_one (ps_expr (pe_bm PySem.F.plainAttrs_list PySem.F.slot_list_append PySem.F.type_list_append mt_append (pv 3) (pa_cons (pe_dc2 (own := [("name", 8), ("other", 9)]) (vs1 := [9]) (wi1 := iList K (tDGet (tVar 1) (tVar 8))) (tt := tYes) (tt1 := tYes) hu rfl nd (pi_list (pv 7)) (blkOk_by (N := N_Ord) (sc := defScope sOrd) (by decide +kernel)) (by simp) (fun _ _ _ _ _ => (pg_name (i := 8) nd rfl (.inl rfl))) (fun _ _ _ _ _ => pts_nil) (fun _ _ _ _ _ => (pi_list (pe_dget hu (pv 1) (pv 8) (fun _ _ => rfl)))) (fun _ _ _ _ _ => (pg_name (i := 9) nd rfl (.inl rfl))) (fun _ _ _ _ _ => pts_nil) (fun _ _ _ _ _ => (pe_dget hu (pv 2) (pv 9) (fun _ _ => rfl))) (fun _ _ _ _ _ => pe_bl)) pa_nil)))))
  (pss_cons (ps_set (i := 4) nd rfl (.inl rfl) (pe_lst pa_nil))
  (pss_cons (ps_set (i := 5) nd rfl (.inr rfl) pe_dnewK)
  (pss_cons (ps_while PassesOwn.never (pt_cmpR op_lt (pe_callB call_len_seq (by rfl) B.len PySem.boot_len (pa_cons (pv 4) pa_nil)) (pe_callB call_len_seq (by rfl) B.len PySem.boot_len (pa_cons (pv 0) pa_nil)) (nomark _))
  (pss_one (ps_for PassesOwn.never rfl (pi_enum (by rfl) B.enum (pa_cons (pv 0) pa_nil)) (pg_tup rfl (pgs_cons (pg_name (i := 6) nd rfl (.inr rfl)) (pgs_cons (pg_name (i := 7) nd rfl (.inl rfl)) pgs_nil)))
    (pss_one (ps_if (pw_and (pt_cmp (pc_dnotin hu (pv 6) (pv 5))) (pw_and1 (pt_truth (pe_callB (cr_all rfl) (by rfl) B.all boot_all (pa_cons (pe_lock (pe_lc (own := [("other", 9)]) (tt := tYes) rfl nd (pi_keys (pe_ix ix_list (pv 3) (pv 6) (fun _ _ => rfl))) (blkOk_by (N := N_Ord) (sc := defScope sOrd) (by decide +kernel)) (fun _ _ _ _ _ => (pg_name (i := 9) nd rfl (.inl rfl))) (fun _ _ _ _ _ => pts_nil) (fun _ _ _ _ _ => (pe_or (pe_cmp (pc_din hu (pv 9) (pv 5))) (pe_one (pe_cmpR op_eq (pv 9) (pv 6) (nomark _))))))) pa_nil)) (by intro _; rfl)))).pt (pss_cons (ps_dput hu (pv 5) (pv 6) pe_bl rfl)
        (pss_cons (ps_expr (pe_bm PySem.F.plainAttrs_list PySem.F.slot_list_append PySem.F.type_list_append mt_append (pv 4) (pa_cons (pv 7) pa_nil)))
        (pss_one ps_break))) pss_nil)))))
  (pss_one (ps_ret (pv 4))))))))), ?_⟩
  have c := Cel.given sg hcl ndc
  have gl := blk_few blk
  have gw := fun g hg => blk_wide blk (g := g) hg
  have hlt := blk_lt blk
  have h8 : ∀ x ∈ gs.flatten, x < 8 := fun x hx => by have := hlt x hx; omega
  have hcov : ∀ x, x < n → x ∈ gs.flatten := fun x hx => blk.cov x (List.mem_range.mpr hx)
  refine q_setN c (en_dc2 (n := gs.length) (cc := 6) (by have e := ew_enum (K := K) (σ := start N_Ord [v0, .ref dn]) (G := G) (cs := [(dn, .dK nvs)]) (tA := tCons (tVar 0) tNil) (Rs := gs.map RSs) (ea_cons (ev_var rfl h0) ea_nil); rw [List.length_map] at e; exact e) (numK gs) (fun i _ => .int ((i : Nat) : Int)) (fun i => (gs.getD i []).length) (fun i hi => by
      rw [getD_get hi]
      have := gw _ (List.getElem_mem hi)
      omega) (by omega) fun i x g' hi sg' hY h' s' qq hq => ?_) fun dm o G1 H1 c1 s1 ho => ?_
  · refine g_tup2 hY s' fun yi yg q1 q2 => ?_
    obtain rfl : yi = .int (i : Int) := q1
    have q2 := q2.map (List.getElem?_eq_getElem hi)
    refine hq _ (Ith ((gs.getD i []).map RS)) rfl ?_ fun j y g2 hj sg2 hY1 h2 s2 q1' hq1 => ?_
    · exact ew_listN (Rs := (gs.getD i []).map RS) (ev_var rfl (by rw [getD_get hi]; exact q2)) (by rw [List.length_map])
    · have hY1 := hY1.map (List.getElem?_eq_getElem hj)
      obtain rfl : y = .str (eS (gs.getD i [])[j]) := hY1
      refine hq1 _ rfl ?_ (ev_var rfl rfl)
      unfold numK
      rw [getD_get hj]
      exact ev_var rfl rfl
  obtain rfl : o = .dK (numKV gs) := ho
  refine q_setN c1 en_nil fun lw o G2 H2 c2 s2 ho => ?_
  subst ho
  refine q_for (cs' := []) c2 (ew_list (Rs := gs.map RSs) (ev_var rfl (up (s1.trans s2) h0)))
    (fun i s' g h => ∃ (o7 : Option V) (W : List (Addr × List (L2.Key × V))), s' = [some v0, some (.ref dn), some (.ref dm), some (.ref lw), none, none, none, o7, none, none] ∧ Cel G (mask H [(dn, .dK nvs)]) g h ((lw, .lst (W.map fun p => .ref p.1)) :: (dm, .dK (numKV gs)) :: (dn, .dK nvs) :: W.map fun p => (p.1, .dK p.2)) ∧ L2.Same G g ∧ W.map (·.2) = (gs.take i).map (wanKV N gs))
    (fun i s' g h ⟨_, _, _, cc, _⟩ => ⟨cc.s, .nil⟩) (fun G6 H6 c6 s6 => ⟨none, [], rfl, c6, (s1.trans s2).trans s6, rfl⟩) ?_ ?_
  · rintro i s' g h x hi sg' ⟨o7, W, rfl, cc, sG, hW⟩ g2 h2 w2 hY
    rw [List.length_map] at hi
    have hei := List.getElem?_eq_getElem hi
    have hY := hY.map hei
    have hmem := List.getElem_mem hi
    have etk : gs.take (i + 1) = gs.take i ++ [gs[i]] := (List.take_append_getElem hi).symm
    generalize gs[i] = gr at hY hmem etk
    have hgl := gw gr hmem
    have hgf : ∀ y ∈ gr, y < n := fun y hy => hlt y (List.mem_flatten.mpr ⟨gr, hmem, hy⟩)
    have hWl : W.length ≤ gs.length := by
      have := congrArg List.length hW
      rw [List.length_map, List.length_map, List.length_take] at this
      omega
    have cc2 := cc.go w2
    refine s_appN cc2 rfl (en_dc2 (n := gr.length) (cc := 100) (ew_listN (Rs := gr.map RS) (ev_var rfl hY) (by rw [List.length_map])) (wanK N gs gr) (fun _ _ => .bl true) (fun i => (jn N (gr.getD i 0)).length) (fun i _ => gok.len _) (by omega) fun j x g' hj sg' hY1 h' s' qq hq => ?_) (by rw [List.length_map]; omega) fun d o g3 h3 c3 s3 ho => ?_
    · have hY1 := hY1.map (List.getElem?_eq_getElem hj)
      have hxn := hgf _ (List.getElem_mem hj)
      have egd := getD_get (d := 0) hj
      obtain rfl : x = .str (eS gr[j]) := hY1
      obtain ⟨vj, hvj, hRj⟩ := nr.get gr[j] (by rw [gok.nm]; exact List.mem_range.mpr hxn)
      have sA := (sG.trans w2.g).trans sg'
      rw [egd] at hq
      refine hq _ (Ith ((jn N gr[j]).map RS)) rfl ?_ fun k y g2 hk sg2 hY2 h2 s2 q1' hq1 => ?_
      · exact ew_listN (Rs := (jn N gr[j]).map RS) (ev_dgetK (k := eK gr[j]) (P := RSs (jn N gr[j])) mem_3 (.inl rfl) (ev_var rfl rfl) (ev_var rfl rfl) hvj (up sA hRj)) (by rw [List.length_map])
      · have hY2 := hY2.map (List.getElem?_eq_getElem hk)
        obtain rfl : y = .str (eS (jn N gr[j])[k]) := hY2
        have hkn := gok.sub gr[j] _ (List.getElem_mem hk)
        refine hq1 _ rfl ?_ ev_c
        unfold wanK
        rw [egd, getD_get hk]
        exact ev_dgetK (k := eK (jn N gr[j])[k]) mem_2 (.inl rfl) (ev_var rfl rfl) (ev_var rfl rfl) (num_get blk.nd h8 (hcov _ hkn)) rfl
    · obtain rfl : o = .dK (wanKV N gs gr) := ho
      have s23 := w2.g.trans s3
      refine ⟨g3, s23, _, W ++ [(d, wanKV N gs gr)], rfl, ?_, sG.trans s23, ?_⟩
      · rw [List.map_append, List.map_append]
        exact c3.perm (.cons _ (List.perm_append_singleton (d, HO.dK (wanKV N gs gr)) ((dm, HO.dK (numKV gs)) :: (dn, HO.dK nvs) :: W.map fun (p : Addr × List (L2.Key × V)) => (p.1, HO.dK p.2))))
      · rw [etk, List.map_append, List.map_append, hW]
        rfl
  rintro s' g h sg' ⟨o7, W, rfl, cc, sG, hW⟩
  rw [List.length_map, List.take_length] at hW
  have hWl : W.length = gs.length := by
    have := congrArg List.length hW
    rw [List.length_map, List.length_map] at this
    exact this
  have hWi : ∀ i (hi : i < gs.length), ∃ d, W[i]? = some (d, wanKV N gs gs[i]) := fun i hi => by
    have h1 : (W.map (·.2))[i]? = some (wanKV N gs gs[i]) := by rw [hW, List.getElem?_map, List.getElem?_eq_getElem hi]; rfl
    rw [List.getElem?_map] at h1
    cases e : W[i]? with
    | none => rw [e] at h1; cases h1
    | some p =>
      rw [e] at h1
      obtain ⟨a, b⟩ := p
      cases h1
      exact ⟨a, rfl⟩
  refine q_setN cc en_nil fun lf o g1 h1' c1' s1' ho => ?_
  subst ho
  refine q_setN c1' en_dK fun dd o g2 h2' c2' s2' ho => ?_
  subst ho
  have sG2 := (sG.trans s1').trans s2'
  have hol := (K97.order_ok (N := N) (U := List.range n) (names := List.range n) ⟨fun nm k hk => List.mem_range.mpr (gok.sub nm k hk), by rw [List.length_range]; omega⟩ (fun x y hy => List.mem_range.mpr (gok.sub x y hy)) blk).2
  refine while_le (fun m σ' h' => ∃ (g' : Hp) (dn2 : List Nat) (dvs : List (L2.Key × V)) (xs : List V) (o6 o7 : Option V), σ' = [some v0, some (.ref dn), some (.ref dm), some (.ref lw), some (.ref lf), some (.ref dd), o6, o7, none, none] ∧
    Cel G (mask H [(dn, .dK nvs)]) g' h' ((dd, .dK dvs) :: (lf, .lst xs) :: (lw, .lst (W.map fun p => .ref p.1)) :: (dm, .dK (numKV gs)) :: (dn, .dK nvs) :: W.map fun p => (p.1, .dK p.2)) ∧ L2.Same G g' ∧ KSet dn2 dvs ∧ (∀ j ∈ dn2, j < gs.length) ∧
    F2 ((dn2.map fun i => gs.getD i []).map RSs) xs g' ∧ m + dn2.length = gs.length ∧ ordL N gs m dn2 = orderOf N gs) gs.length ⟨g2, [], [], [], none, o7, rfl, c2', sG2, .nil, fun j hj => by simp at hj, trivial, rfl, rfl⟩ ?_
  rintro m σ' h' ⟨g3, dn2, dvs, xs, o6, o7, rfl, c3, sG3, hks, hdl, hxs, hml, hor⟩
  have hxl : xs.length = dn2.length := by rw [← hxs.len, List.length_map, List.length_map]
  refine (et_test (ev_op (ev_lenC (ev_var rfl rfl) mem_2) (ev_len (ev_var rfl (up sG3 h0))) rv_I0)) h' c3.s c3.hc _ fun g4 h4 w4 => ?_
  have c4 := c3.go w4
  have sG4 := sG3.trans w4.g
  cases m with
  | zero =>
    rw [show decide (((xs.length : Nat) : Int) < ((gs.map RSs).length : Int)) = false from decide_eq_false (by rw [List.length_map]; omega)]
    refine iteF ?_
    have e : dn2 = orderOf N gs := hor
    obtain ⟨c5, s5⟩ := c4.swap.freeze
    refine s_ret c5 (ev_var rfl (P := RSss ((orderOf N gs).map fun i => gs.getD i [])) ⟨lf, xs, rfl, upd_same, by rw [← e]; exact hxs.mono moA_map.mo (w4.g.trans s5)⟩) fun v g8 h8 c8 s8 p8 => q v g8 h8 (c8.read hcl (by simp)) p8
  | succ m =>
    rw [show decide (((xs.length : Nat) : Int) < ((gs.map RSs).length : Int)) = true from decide_eq_true (by rw [List.length_map]; omega)]
    have eor : ordL N gs (m + 1) dn2 = (match (List.range gs.length).find? (canGo N gs dn2) with
      | none => dn2
      | some i => ordL N gs m (dn2 ++ [i])) := rfl
    refine iteT ⟨fun σ' h' => ∃ (g' : Hp) (dn2 : List Nat) (dvs : List (L2.Key × V)) (xs : List V) (o6 o7 : Option V), σ' = [some v0, some (.ref dn), some (.ref dm), some (.ref lw), some (.ref lf), some (.ref dd), o6, o7, none, none] ∧
      Cel G (mask H [(dn, .dK nvs)]) g' h' ((dd, .dK dvs) :: (lf, .lst xs) :: (lw, .lst (W.map fun p => .ref p.1)) :: (dm, .dK (numKV gs)) :: (dn, .dK nvs) :: W.map fun p => (p.1, .dK p.2)) ∧ L2.Same G g' ∧ KSet dn2 dvs ∧ (∀ j ∈ dn2, j < gs.length) ∧
      F2 ((dn2.map fun i => gs.getD i []).map RSs) xs g' ∧ m + dn2.length = gs.length ∧ ordL N gs m dn2 = orderOf N gs, fun σ' h' hh => ⟨m, Nat.lt_succ_self m, hh⟩, ?_⟩
    refine s_for (cs' := []) c4 (by have e := ew_enum (K := K) (σ := [some v0, some (.ref dn), some (.ref dm), some (.ref lw), some (.ref lf), some (.ref dd), o6, o7, none, none]) (G := g4) (cs := []) (tA := tCons (tVar 0) tNil) (Rs := gs.map RSs) (ea_cons (ev_var rfl (up sG4 h0)) ea_nil); rw [List.length_map] at e; exact e)
      (fun i s' g' h => ∃ (o6 o7 : Option V), s' = [some v0, some (.ref dn), some (.ref dm), some (.ref lw), some (.ref lf), some (.ref dd), o6, o7, none, none] ∧
        Cel G (mask H [(dn, .dK nvs)]) g' h ((dd, .dK dvs) :: (lf, .lst xs) :: (lw, .lst (W.map fun p => .ref p.1)) :: (dm, .dK (numKV gs)) :: (dn, .dK nvs) :: W.map fun p => (p.1, .dK p.2)) ∧ L2.Same g4 g' ∧ ∀ j, j < i → canGo N gs dn2 j = false)
      (fun i s' g h ⟨_, _, _, cc, _⟩ => ⟨cc.s, .nil⟩) (fun G6 H6 c6 s6 => ⟨_, _, rfl, c6, s6, fun j hj => by omega⟩) ?_ ?_
    · rintro i s' g5 h5 x hi sg5 ⟨p6, p7, rfl, c5, sG5, hno⟩ g6 h6 w6 hY
      have c6 := c5.go w6
      refine g_tup2 hY c6.s fun yi yg q1 q2 => ?_
      obtain rfl : yi = .int (i : Int) := q1
      have q2 := q2.map (List.getElem?_eq_getElem hi)
      obtain ⟨dw, hdw⟩ := hWi i hi
      have hdm : (dw, HO.dK (wanKV N gs gs[i])) ∈ W.map fun p => ((p.1, .dK p.2) : Addr × HO) := List.mem_map.mpr ⟨_, List.mem_of_getElem? hdw, rfl⟩
      have hnd := c6.nd
      have hfw : dw ∈ (W.map fun p => ((p.1, .dK p.2) : Addr × HO)).map (·.1) := List.mem_map.mpr ⟨_, hdm, rfl⟩
      simp only [List.map_cons, List.nodup_cons, List.mem_cons, not_or] at hnd
      have ecan : canGo N gs dn2 i = (!dn2.contains i && (wantedOf N gs gs[i]).all fun j => dn2.contains j || decide (j = i)) := by
        unfold K97.canGo
        rw [getD_get hi]
      have hwl : (wanKV N gs gs[i]).length ≤ 1000 := by
        have h1 := kvO_len (wanK N gs gs[i]) (fun _ _ => .bl true) (fun j => (jn N (gs[i].getD j 0)).length) (c := 100) gs[i].length fun _ _ => gok.len _
        have h2 := gw _ (List.getElem_mem hi)
        have h3 := Nat.mul_le_mul_right 100 (show gs[i].length ≤ 6 by omega)
        exact Nat.le_trans h1 (by omega)
      have hlist := all_wan (N := N) (gs := gs) (g := gs[i]) fun j => dn2.contains j || decide (j = i)
      have hkey := fun j k v => keyN_is (N := N) (gs := gs) (g := gs[i]) (i := j) (k := k) (v := v)
      have gdi := getD_get (d := []) hi
      generalize gs[i] = gr at q2 hdw hdm ecan hwl hlist hkey gdi
      generalize hwk : wanKV N gs gr = wk at hdw hdm hwl hlist hkey
      refine s_if c6 ((et_and (et_B (ev_dninK (k := .inl (i : Int)) (d := dd) (o := .dK dvs) mem_head (.inl rfl) (ev_var rfl rfl) (ev_var rfl rfl))) (fun _ => et_all (n := wk.length) (b := fun j => dn2.contains (keyN wk j) || decide (keyN wk j = i)) (ev_lock (d := dw) (o := .dK wk) (cs2 := [(lw, .lst (W.map fun p => .ref p.1)), (dd, .dK dvs)]) True.intro (by simp only [List.mem_cons]; exact .inr (.inr (.inr (.inr (.inr hdm))))) (by simp) (by
          intro c hc
          simp only [List.mem_cons, List.not_mem_nil, or_false] at hc
          rcases hc with rfl | rfl
          · exact fun z => hnd.2.2.1.2.2 (by show lw ∈ _; rw [show lw = dw from z]; exact hfw)
          · exact fun z => hnd.1.2.2.2.2 (by show dd ∈ _; rw [show dd = dw from z]; exact hfw)) fun od => ?_))).is (b := canGo N gs dn2 i) ?_) (fun hb g7 h7 c7 s7 => ?_) (fun hb g7 h7 c7 s7 => ?_)
      · refine ev_lcA (ew_keys (kvs := wk) (od := od) (rv_ixC (P := RV (.ref dw)) mem_2 (by rw [List.getElem?_map, hdw]; rfl) rfl (ev_var rfl rfl) (ev_var rfl rfl)) mem_head) hwl _ fun j x g' hj sg' hY h' s' kk qq => ?_
        obtain ⟨ky, v, he, rfl⟩ := hY
        obtain rfl := hkey j ky v he
        refine qq _ rfl (ev_orV (ev_dinK (k := .inl ((keyN wk j : Nat) : Int)) (d := dd) (o := .dK dvs) mem_3 (.inl rfl) (ev_var rfl rfl) (ev_var rfl rfl) |>.is (by rw [hks.has])) (fun _ => (ev_op (ev_var rfl rfl) (ev_var rfl rfl) (rv_eq rfl)).is ?_))
        congr 1
        by_cases e : keyN wk j = i
        · rw [decide_eq_true e, e]; exact decide_eq_true rfl
        · rw [decide_eq_false e]
          exact decide_eq_false fun z => e (by injection z with z; omega)
      · rw [hks.has, hlist, ecan]
      · have hfind : (List.range gs.length).find? (canGo N gs dn2) = some i := by
          rw [List.find?_eq_some_iff_getElem]
          refine ⟨hb, i, by rw [List.length_range]; exact hi, List.getElem_range _, fun j hj => ?_⟩
          rw [List.getElem_range]
          simp [hno j hj]
        rw [eor, hfind] at hor
        have hor : ordL N gs m (dn2 ++ [i]) = orderOf N gs := hor
        have hkl := hks.few
        refine q_dputK (k := .inl (i : Int)) (P := RV (.bl true)) c7 ev_c (ev_var rfl rfl) (ev_var rfl rfl) (by omega) fun vt g8 h8 c8 s8 p8 => ?_
        refine q_app (P := RSs gr) c8.swap rfl (ev_var rfl (up (s7.trans s8) q2)) (by omega) fun vn g9 h9 c9 s9 p9 => ?_
        have s39 := ((((w4.g.trans sG5).trans w6.g).trans s7).trans s8).trans s9
        refine ⟨g9, dn2 ++ [i], putK dvs (.inl (i : Int)) vt, xs ++ [vn], _, _, rfl, c9.swap, sG3.trans s39, hks.put i vt, ?_, ?_, ?_, hor⟩
        · intro j hj
          rcases List.mem_append.mp hj with hj | hj
          · exact hdl j hj
          · rw [List.mem_singleton.mp hj]; exact hi
        · rw [List.map_append, List.map_append]
          refine (hxs.mono moA_map.mo s39).snoc ?_
          show RSs (gs.getD i []) vn g9
          rw [gdi]
          exact p9
        · rw [List.length_append]; simp; omega
      · refine ⟨g7, w6.g.trans s7, _, _, rfl, c7, (sG5.trans w6.g).trans s7, fun j hj => ?_⟩
        rcases Nat.lt_or_ge j i with h6 | h6
        · exact hno j h6
        · have : j = i := by omega
          subst this
          exact hb
    · rintro s' g5 h5 sg5 ⟨p6, p7, rfl, c5, sG5, hno⟩
      exfalso
      have hfind : (List.range gs.length).find? (canGo N gs dn2) = none := by
        rw [List.find?_eq_none]
        intro j hj
        simp [hno j (List.mem_range.mp hj)]
      rw [eor, hfind] at hor
      have hor : dn2 = orderOf N gs := hor
      rw [← hor] at hol
      omega
end
end KW
end
section
set_option Elab.async false
set_option linter.all false
set_option maxRecDepth 100000
set_option maxHeartbeats 2000000
namespace KW
open PySem PySem.Spec PyProof.Rows L2
open K97 (Gr OW jn)
/-! ### sorted of keys -/
theorem tupsOf_all {h : Heap} {shape : Nat → Bool} : ∀ {vs : List Value}, (∀ v ∈ vs, ∃ f, TupOf h shape v f) → ∃ fs, TupsOf h shape vs fs
  | [], _ => ⟨[], .nil⟩
  | v :: vs, h => by
    obtain ⟨f, hf⟩ := h v List.mem_cons_self
    obtain ⟨fs, hfs⟩ := tupsOf_all fun v hv => h v (List.mem_cons_of_mem _ hv)
    exact ⟨f :: fs, .cons hf hfs⟩
/-- sorted(xs), xs a list of keys (two texts and an int): a new list of the same, in some order -/
def rSortedT (K : PySem.W.Frag) : List V → Hp → VK → Prop := fun vs H Q => ∃ a xs, vs = [V.ref a] ∧ SqL K H a xs ∧ (∀ x ∈ xs, ∃ t s1 s2 i, x = V.ref t ∧ H t = some (.tup [.str s1, .str s2, .int i])) ∧
  ∀ ys p, ys.Perm xs → H p = none → Q (.ref p) (upd H p (.lst ys))
section
variable {X : Cx}
theorem vals3 {x y z : V} {us : List Value} (h : Vals [x, y, z] us) : ∃ a b c, us = [a, b, c] ∧ RelV x a ∧ RelV y b ∧ RelV z c := by
  cases h with
  | cons h1 h2 => cases h2 with
    | cons h2 h3 => cases h3 with
      | cons h3 h4 => cases h4; exact ⟨_, _, _, rfl, h1, h2, h3⟩
theorem cr_sortedT : CallR X (.builtin "sorted") (rSortedT X.K) := by
  intro pins s σ H vs us Q I r h
  obtain ⟨a, xs, rfl, hs, hx, q⟩ := h
  obtain ⟨its, rv, hl, hz⟩ := I.list hs
  obtain ⟨u, rfl, ru⟩ := vals1 r
  obtain rfl : u = Value.ref a := ru
  obtain ⟨e1, e2⟩ := refs_back rv fun x m => by
    obtain ⟨t, _, _, _, e, _⟩ := hx x m
    exact ⟨t, e⟩
  have htup : ∀ v ∈ its, ∃ t o s1 t1 s2 t2 i t3 n, v = Value.ref t ∧ s.heap.get? t = some o ∧ o.cls = .type "tuple" ∧ o.data = .seq #[.str s1 t1, .str s2 t2, .int i t3] n := fun v hv => by
    obtain ⟨t, rfl⟩ := e2 v hv
    have hm : V.ref t ∈ xs := by rw [e1]; exact List.mem_map.mpr ⟨_, hv, rfl⟩
    obtain ⟨t', s1, s2, i, e, ht⟩ := hx _ hm
    cases e
    obtain ⟨_, its2, r2, o, ho, hc, n, hd⟩ := I.hok _ _ ht
    obtain ⟨u1, u2, u3, rfl, ri, rj, rk⟩ := vals3 r2
    obtain ⟨t1, rfl⟩ := ri
    obtain ⟨t2, rfl⟩ := rj
    obtain ⟨t3, rfl⟩ := rk
    exact ⟨t, o, s1, t1, s2, t2, i, t3, n, rfl, ho, hc, hd⟩
  obtain ⟨fs, hfs⟩ := tupsOf_all (h := s.heap) (shape := fun i => decide (i < 2)) (vs := its) fun v hv => by
    obtain ⟨t, o, s1, t1, s2, t2, i, t3, n, rfl, ho, hc, hd⟩ := htup v hv
    exact ⟨_, t, o, _, n, rfl, ho, hc, hd, rfl, fun z => by simp at z, fun _ => ⟨s1, t1, rfl⟩⟩
  refine G.sorted_tups hl.isList hfs (fun v hv => ?_) (by rw [← rv.length]; exact hz) fun st hp _ _ => ?_
  · obtain ⟨t, o, s1, t1, s2, t2, i, t3, n, rfl, ho, hc, hd⟩ := htup v hv
    refine ⟨[.inr s1.cps.toList, .inr s2.cps.toList, .inl i], ?_⟩
    unfold G.tupKeyC G.isTupObj tupKey
    simp only [ho, hc, hd]
    rfl
  · have hp2 : ((arrOf st).map (·.2)).toList.Perm its := by
      have := hp.toList.map (fun p : Value × Value => p.2)
      rw [Array.toList_map]
      refine this.trans ?_
      rw [pairsOf_toList, List.map_snd_zip (by simp)]
    have h3 : ∀ u ∈ ((arrOf st).map (·.2)).toList, ∃ a, u = Value.ref a := fun u hu => e2 u (hp2.mem_iff.mp hu)
    obtain ⟨n, hn⟩ := sortedAll_at s.heap its ((arrOf st).map (·.2))
    refine ⟨.ref (s.heap.objs.size + 1), upd H (s.heap.objs.size + 1) (.lst (((arrOf st).map (·.2)).toList.map backV)), I.laid (t' := s.toks) (fun b o e => sortedAll_old e) (Nat.le_succ _) ⟨?_, ((arrOf st).map (·.2)).toList, n, vals_back h3, by rw [hn, Array.toArray_toList]⟩, rfl, q _ _ ?_ (I.hok.fresh (Nat.le_succ _))⟩
    · rw [List.length_map, hp2.length_eq, ← rv.length]; exact hz
    · rw [e1]; exact hp2.map backV
end
end KW
end
section
set_option Elab.async false
set_option linter.all false
set_option maxRecDepth 100000
set_option maxHeartbeats 1000000
namespace KW
open PySem PySem.Spec PyProof.Rows L2
section
variable {K : PySem.W.Frag} {σ : L2.St} {G0 H0 G H : Hp} {cs : List (Addr × HO)} {tk tv : TE}
/-- {k: v for ..} with tuples as keys, the keys told and different -/
theorem en_dcG {wi : TI} {g : TG} {vs : List Nat} {n : Nat} {Y : Nat → VP} (hw : EvW wi σ G cs n Y) (hn : n ≤ 1000) (k : Nat → List L2.Key) (R : Nat → VP) [m : ∀ i, Mo (R i)] (nd : ((List.range n).map k).Nodup)
    (hb : ∀ i x g', i < n → L2.Same G g' → Y i x g' → ∀ h', L2.Same g' h' → ∀ q : L2.St → Hp → Prop, (∀ s2, wipe s2 vs = wipe σ vs → EvP tk s2 g' cs (RK (k i)) → EvP tv s2 g' cs (R i) → q s2 h') → g x (wipe σ vs) h' q) :
    EvP (tDcG (.dT []) wi g tYes tk tv vs) σ G cs (fun v G2 => ∃ d kvs, v = .ref d ∧ G2 d = some (.dT kvs) ∧ DRel ((List.range n).map k) ((List.range n).map R) kvs G2) := fun H s hc Q q =>
  hw H s hc _ fun J G1 H1 w1 wk L hL => by
    have c1 := ((Cel.start s).go w1).new (l := L) (o := .dT []) hL
    refine ⟨fun i m h' => m = n - i ∧ i ≤ n ∧ ∃ g' acc, L2.Same G1 g' ∧ Cel G H g' h' [(L, .dT acc)] ∧ DRel ((List.range i).map k) ((List.range i).map R) acc g', ⟨n, by simp, Nat.zero_le _, G1, [], .refl _, c1, .nil⟩, ?_⟩
    rintro i m' h' ⟨rfl, hi, g', acc, sg, c, hf⟩
    have hc' : HC cs g' h' := hc.up c.w
    by_cases hlt : i < n
    · obtain ⟨hgo, hy⟩ := wk.1 i g' h' hlt sg c.s hc'
      refine .inr ⟨hgo, fun h => ∃ g4 acc', L2.Same g' g4 ∧ Cel G H g4 h [(L, .dT acc')] ∧ DRel ((List.range (i + 1)).map k) ((List.range (i + 1)).map R) acc' g4, fun h ⟨g4, acc', a, b, d⟩ => ⟨n - (i + 1), by omega, rfl, hlt, g4, acc', sg.trans a, b, d⟩, fun x h2 y => ?_⟩
      obtain ⟨g2, w2, hY⟩ := hy x h2 y
      have c2 := c.go w2
      refine hb i x g2 hlt ((w1.g.trans sg).trans w2.g) hY h2 c2.s _ fun s2 hw2 hk he => ⟨hw2, ?_⟩
      show tk s2 h2 _
      refine hk h2 c2.s (hc.up c2.w) _ fun y g3 h3 w3 ey => (he.up w3.g) h3 (c2.go w3).s (hc.up (c2.go w3).w) _ fun v g4 h4 w4 p => ?_
      have c4 := (c2.go w3).go w4
      obtain ⟨tp, rfl, htp⟩ := ey
      have hlen : acc.length ≤ 1000 := by
        have := hf.len.1
        rw [List.length_map, List.length_range] at this
        omega
      refine ⟨_, .inr ⟨acc, k i, tp, c4.hd, rfl, (w4.g.trans c4.s) _ _ htp, small1000 hlen, rfl⟩, g4, _, (w2.g.trans w3.g).trans w4.g, c4.put _, ?_⟩
      have hf2 := (hf.mono (m := moA_map (f := R)) ((w2.g.trans w3.g).trans w4.g)).put (k := k i) (v := v) (R := R i) (fun hm => ?_) p
      · rw [List.range_succ, List.map_append, List.map_append]
        exact hf2
      · have e := nd
        rw [show n = i + 1 + (n - (i + 1)) by omega, List.range_add, List.map_append, List.range_succ, List.map_append] at e
        have e2 := (List.nodup_append.mp e).1
        exact (List.nodup_append.mp e2).2.2 _ hm _ (List.mem_singleton.mpr rfl) rfl
    · have e : i = n := by omega
      subst e
      refine .inl ⟨wk.2 g' h' sg c.s hc', ?_⟩
      obtain ⟨c9, s9⟩ := c.freeze
      exact q _ _ h' c9.w ⟨L, acc, rfl, upd_same, hf.mono (m := moA_map (f := R)) s9⟩
end
end KW
end
section
set_option Elab.async false
set_option linter.all false
set_option maxRecDepth 100000
set_option maxHeartbeats 2000000
namespace KW
open PySem PySem.Spec PyProof.Rows L2
open K97 (Gr jn matchM keyOf ownerOf needsOf groupsOf graphOf Sq Reg MOk Mat1)
section
variable {K : PySem.W.Frag} {σ : L2.St} {G0 H0 G H : Hp} {cs : List (Addr × HO)} {ta tb te tk tv : TE} {d : Addr} {o : HO} {t : TS} {u : TS} {D : Ends}
/-- {k: v for ..} with tuples as keys: a cell -/
theorem en_dcT {wi : TI} {g : TG} {vs : List Nat} {n : Nat} {Y : Nat → VP} (hw : EvW wi σ G cs n Y) (hn : n ≤ 1000) (k : Nat → List L2.Key) (R : Nat → VP) [m : ∀ i, Mo (R i)] (nd : ((List.range n).map k).Nodup)
    (hb : ∀ i x g', i < n → L2.Same G g' → Y i x g' → ∀ h', L2.Same g' h' → ∀ q : L2.St → Hp → Prop, (∀ s2, wipe s2 vs = wipe σ vs → EvP tk s2 g' cs (RK (k i)) → EvP tv s2 g' cs (R i) → q s2 h') → g x (wipe σ vs) h' q) :
    EvN (tDcG (.dT []) wi g tYes tk tv vs) σ G cs (fun o G2 => ∃ kvs, o = .dT kvs ∧ DRel ((List.range n).map k) ((List.range n).map R) kvs G2) := fun H s hc Q q =>
  hw H s hc _ fun J G1 H1 w1 wk L hL => by
    have c1 := ((Cel.start s).go w1).new (l := L) (o := .dT []) hL
    refine ⟨fun i m h' => m = n - i ∧ i ≤ n ∧ ∃ g' acc, L2.Same G1 g' ∧ Cel G H g' h' [(L, .dT acc)] ∧ DRel ((List.range i).map k) ((List.range i).map R) acc g', ⟨n, by simp, Nat.zero_le _, G1, [], .refl _, c1, .nil⟩, ?_⟩
    rintro i m' h' ⟨rfl, hi, g', acc, sg, c, hf⟩
    have hc' : HC cs g' h' := hc.up c.w
    by_cases hlt : i < n
    · obtain ⟨hgo, hy⟩ := wk.1 i g' h' hlt sg c.s hc'
      refine .inr ⟨hgo, fun h => ∃ g4 acc', L2.Same g' g4 ∧ Cel G H g4 h [(L, .dT acc')] ∧ DRel ((List.range (i + 1)).map k) ((List.range (i + 1)).map R) acc' g4, fun h ⟨g4, acc', a, b, d⟩ => ⟨n - (i + 1), by omega, rfl, hlt, g4, acc', sg.trans a, b, d⟩, fun x h2 y => ?_⟩
      obtain ⟨g2, w2, hY⟩ := hy x h2 y
      have c2 := c.go w2
      refine hb i x g2 hlt ((w1.g.trans sg).trans w2.g) hY h2 c2.s _ fun s2 hw2 hk he => ⟨hw2, ?_⟩
      show tk s2 h2 _
      refine hk h2 c2.s (hc.up c2.w) _ fun y g3 h3 w3 ey => (he.up w3.g) h3 (c2.go w3).s (hc.up (c2.go w3).w) _ fun v g4 h4 w4 p => ?_
      have c4 := (c2.go w3).go w4
      obtain ⟨tp, rfl, htp⟩ := ey
      have hlen : acc.length ≤ 1000 := by
        have := hf.len.1
        rw [List.length_map, List.length_range] at this
        omega
      refine ⟨_, .inr ⟨acc, k i, tp, c4.hd, rfl, (w4.g.trans c4.s) _ _ htp, small1000 hlen, rfl⟩, g4, _, (w2.g.trans w3.g).trans w4.g, c4.put _, ?_⟩
      have hf2 := (hf.mono (m := moA_map (f := R)) ((w2.g.trans w3.g).trans w4.g)).put (k := k i) (v := v) (R := R i) (fun hm => ?_) p
      · rw [List.range_succ, List.map_append, List.map_append]
        exact hf2
      · have e := nd
        rw [show n = i + 1 + (n - (i + 1)) by omega, List.range_add, List.map_append, List.range_succ, List.map_append] at e
        have e2 := (List.nodup_append.mp e).1
        exact (List.nodup_append.mp e2).2.2 _ hm _ (List.mem_singleton.mpr rfl) rfl
    · have e : i = n := by omega
      subst e
      obtain ⟨k1, k2, k3⟩ := c.at_ _ List.mem_cons_self
      exact .inl ⟨wk.2 g' h' sg c.s hc', q L _ g' h' k3 c.w k2 k1 ⟨acc, rfl, hf⟩⟩
/-- a cell that a statement locks -/
theorem q_lock (c : Cel G0 H0 G H ((d, o) :: cs)) (mu : Mut (some o)) (h : ∀ od H1, Cel G0 H0 G H1 ((d, .frz od o) :: cs) → t ⟨fun σ' H' => H' d = some (.frz od o) ∧ u D σ' (upd H' d o), fun v H' => H' d = some (.frz od o) ∧ D.rt v (upd H' d o), fun σ' H' => H' d = some (.frz od o) ∧ D.bk σ' (upd H' d o), fun σ' H' => H' d = some (.frz od o) ∧ D.ct σ' (upd H' d o)⟩ σ H1) :
    tSeq (tLock t) u D σ H := ⟨d, o, c.hd, mu, fun od => h od _ (c.put _)⟩
/-! ### sorted keys -/
theorem F2.perm : ∀ {xs ys : List V} {ks : List Nat} {R : Nat → VP}, ys.Perm xs → F2 (ks.map R) xs G → ∃ ls : List Nat, ls.Perm ks ∧ F2 (ls.map R) ys G := by
  intro xs ys ks R p
  induction p generalizing ks with
  | nil =>
    intro h
    cases ks with
    | nil => exact ⟨[], .refl _, trivial⟩
    | cons a r => exact h.elim
  | cons x _ ih =>
    intro h
    cases ks with
    | nil => exact h.elim
    | cons a r =>
      obtain ⟨ls, p, f⟩ := ih h.2
      exact ⟨a :: ls, p.cons a, h.1, f⟩
  | swap x y l =>
    intro h
    cases ks with
    | nil => exact h.elim
    | cons a r =>
      cases r with
      | nil => exact h.2.elim
      | cons b r => exact ⟨b :: a :: r, .swap _ _ _, h.2.1, h.1, h.2.2⟩
  | trans _ _ ih1 ih2 =>
    intro h
    obtain ⟨l1, p1, f1⟩ := ih2 h
    obtain ⟨l2, p2, f2⟩ := ih1 f1
    exact ⟨l2, p2.trans p1, f2⟩
/-- keys in some order -/
def RKp (l : List Nat) : VP := fun v G => ∃ l' : List Nat, l'.Perm l ∧ RKs l' v G
instance {l : List Nat} : Mo (RKp l) := ⟨fun _ _ _ e ⟨l', p, h⟩ => ⟨l', p, up e h⟩⟩
theorem F2.all {Rs : List VP} {xs : List V} (h : F2 Rs xs G) : ∀ x ∈ xs, ∃ R ∈ Rs, R x G := by
  induction Rs generalizing xs with
  | nil => cases xs with
    | nil => intro x hx; simp at hx
    | cons a r => exact h.elim
  | cons R Rs ih => cases xs with
    | nil => exact h.elim
    | cons a r =>
      intro x hx
      rcases List.mem_cons.mp hx with rfl | hx
      · exact ⟨R, List.mem_cons_self, h.1⟩
      · obtain ⟨R', h1, h2⟩ := ih h.2 x hx
        exact ⟨R', List.mem_cons_of_mem _ h1, h2⟩
theorem ev_sortedT {l : List Nat} (h : EvP te σ G cs (RKs l)) : EvP (tCB (rSortedT K) (tCons te tNil)) σ G cs (RKp l) := fun H s hc Q q =>
  h H s hc _ fun v G1 H1 w1 p1 => by
    obtain ⟨a, xs, rfl, ha, hx⟩ := p1
    refine ⟨a, xs, rfl, SqL.of (w1.s _ _ ha), fun x hm => ?_, fun ys p hp hH => ?_⟩
    · obtain ⟨R, hR, hr⟩ := hx.all x hm
      obtain ⟨k, _, rfl⟩ := List.mem_map.mp hR
      obtain ⟨b, rfl, hb⟩ := hr
      exact ⟨b, _, _, _, rfl, w1.s _ _ hb⟩
    · obtain ⟨l', p', f⟩ := F2.perm hp hx
      exact q _ _ _ (w1.trans (.new w1.s hH)) ⟨l', p', p, ys, rfl, upd_same, f.mono moA_map.mo (same_new (w1.s.free hH))⟩
end
/-! ### what the graph and the needs are -/
theorem graph_nm {A : List (List Rat)} {n : Nat} (h : A.length = n) : (graphOf A).map (·.1) = List.range n := by
  unfold graphOf
  rw [List.map_map, h]
  exact List.map_id' _
theorem graph_in {A : List (List Rat)} {n : Nat} (h : A.length = n) : ∀ nm, ∀ k ∈ jn (graphOf A) nm, nm < n ∧ k < n := fun nm k hk => by
  have h1 := jn_in hk
  rw [graph_nm h] at h1
  have h2 := List.mem_range.mp h1
  rw [K97.jn_graph (by omega)] at hk
  have := List.mem_range.mp (List.mem_filter.mp hk).1
  omega
theorem graph_len {A : List (List Rat)} {n : Nat} (h : A.length = n) (nm : Nat) : (jn (graphOf A) nm).length ≤ n := by
  by_cases hn : nm < n
  · rw [K97.jn_graph (by omega)]
    exact Nat.le_trans (List.length_filter_le _ _) (by rw [List.length_range]; omega)
  · cases e : jn (graphOf A) nm with
    | nil => exact Nat.zero_le _
    | cons k r => exact absurd (graph_in h nm k (by rw [e]; exact List.mem_cons_self)).1 hn
theorem graph_ok {A : List (List Rat)} {n : Nat} (h : A.length = n) (hn : n ≤ 6) : GOk (graphOf A) (List.range n) :=
  ⟨fun nm k hk => List.mem_range.mpr (graph_in h nm k hk).2, fun k hk => by have := List.mem_range.mp hk; omega, by rw [List.length_range]; omega, fun p hp => by
    have := List.mem_map_of_mem (f := fun q : Nat × List Nat => q.1) hp
    rw [graph_nm h] at this
    have := List.mem_range.mp this
    omega, fun nm => Nat.le_trans (graph_len h nm) (by omega)⟩
theorem jn_needsOf {N : Gr} {ms : List (Nat × Nat)} {i : Nat} : jn (needsOf N ms) i = ((jn N i).filter fun k => decide (ownerOf ms k ≠ i)).map (ownerOf ms) := by
  have hl : ∀ N : Gr, (needsOf N ms).lookup i = (N.lookup i).map fun q => (q.filter fun k => decide (ownerOf ms k ≠ i)).map (ownerOf ms) := by
    intro N
    unfold needsOf
    induction N with
    | nil => rfl
    | cons a r ih =>
      obtain ⟨x, y⟩ := a
      by_cases e : i = x
      · subst e; simp [List.lookup]
      · simp only [List.map_cons, List.lookup, beq_eq_false_iff_ne.mpr e]
        exact ih
  unfold K97.jn
  rw [hl]
  cases N.lookup i <;> rfl
theorem needs_ok {A : List (List Rat)} {n : Nat} {ms : List (Nat × Nat)} (s : Sq A n) (hn : n ≤ 6) (O : MOk A n ms) : NOk (needsOf (graphOf A) ms) n :=
  ⟨by unfold needsOf; rw [List.map_map]; exact graph_nm s.len, fun nm k hk => by
    obtain ⟨_, k', h1, _, h2, _⟩ := (K97.jn_needs s O nm k).mp hk
    have := (O.own k' h1).1
    omega, fun nm => by
    rw [jn_needsOf, List.length_map]
    exact Nat.le_trans (List.length_filter_le _ _) (Nat.le_trans (graph_len s.len nm) (by omega)), hn⟩
end KW
end
section
set_option Elab.async false
set_option linter.all false
set_option maxRecDepth 100000
set_option maxHeartbeats 4000000
namespace KW
open PySem PySem.Spec PyProof.Rows L2
open K97 (Gr jn matchM keyOf ownerOf needsOf groupsOf graphOf Sq Reg MOk Mat1 orderOf)
abbrev sBlo : Stmt := top 20
def N_Blo : List Str := ["pair", "keys", "joined", "found", "owner", "needs", "name", "rows", "group", "key"]
theorem scBlo : FnScope N_Blo ["pair"] (defScope sBlo) := ⟨rfl, rfl, rfl, by decide +kernel, rfl, by decide +kernel, by decide +kernel⟩
structure BloIn where
  A : List (List Rat)
  n : Nat
  dj : Addr
  jvs : List (L2.Key × V)
structure BloPre (x : BloIn) (G : Hp) : Prop where
  sq : Sq x.A x.n
  reg : Reg x.A x.n
  few : x.n ≤ 5
  j : JR (graphOf x.A) x.jvs G
  ks : x.jvs.map (·.1) = (List.range x.n).map eK
/-- the blocks: the names of each, and its keys -/
def RBl (A : List (List Rat)) (n : Nat) : VP := fun v G => ∃ bl : List (List Nat × List Nat), bl.map (·.1) = groupsOf A n (matchM (graphOf A) (List.range n)) ∧ (∀ q ∈ bl, q.2.Perm (q.1.map (keyOf (matchM (graphOf A) (List.range n))))) ∧ RL (bl.map fun q => RT [RSs q.1, RKs q.2]) v G
def spBlo : Sp := spC (fun (x : BloIn) vs G => F2 [RT [RKs (List.range x.n), RV (.ref x.dj)]] vs G ∧ BloPre x G) (fun x => [(x.dj, .dK x.jvs)]) (fun x => RBl x.A x.n) 1
section
variable {P : Program} {w : World} {K : PySem.W.Frag} {mg : Str → Option Value} {base : Heap} {C : Addr} {σ : L2.St} {G0 H0 G H : Hp} {cs : List (Addr × HO)}
/-- match(pair) -/
theorem en_mat {x : MatIn} {te : TE} (h : EvP te σ G cs (RT [RKs x.keys, RV (.ref x.dj)])) (pre : MatPre x G) (hm : (x.dj, x.jo) ∈ cs) : EvN (tCall spMat [] E0 (tCons te tNil)) σ G cs (fun o G2 => ∃ fvs, o = .dK fvs ∧ FR (matchM x.N (List.range x.n)) fvs G2) := fun H s hc Q q =>
  (ea_cons h ea_nil) H s hc _ fun vs G1 H1 w1 p1 => by
    rw [List.append_nil]
    refine ⟨F2.length_is rfl _ _ p1, G1, x, w1.s, p1, ⟨pre.g, pre.k, pre.j.mono w1.g, pre.nm, pre.ks, pre.few⟩, fun c hc1 => ?_, fun d G2 H2 fvs hH w2 gd ed f => ?_⟩
    · obtain rfl := List.mem_singleton.mp hc1
      exact hc.up w1 _ hm
    · exact q d _ G2 H2 (w1.h.free hH) (w1.trans w2) gd ed ⟨fvs, rfl, f⟩
theorem dn_blo (Dd : Df K mg "blocks" sBlo) (B : Kit P w K mg base C) (D4 : Dn P w K mg base "match" 10 ["pair"] spMat) (E2 : Dn P w K mg base "together" 2 ["needs"] spTog) (E3 : Dn P w K mg base "ordered" 1 ["groups", "needs"] spOrd) : Dn P w K mg base "blocks" 11 ["pair"] spBlo := by
  refine dn_of Dd scBlo (fun _ _ _ _ _ _ us hl => match us, hl with | [_], _ => rfl) (fun vs H Q E h => h.1) (fun fa cdv A0 outer st H vs Q E hr h => ?_)
  obtain ⟨_, G, ⟨A, n, dj, jvs⟩, sg, ⟨hF, sq, reg, few, jr, hks⟩, hcl, ndc, q⟩ := h
  obtain ⟨v0, rfl, h0⟩ := one_of hF
  dsimp only at *
  have nd := scBlo.nd
  have hu := hu_of hr
  have M := K97.reg_match sq (by omega) reg
  have O := K97.mat1_ok sq M
  have gok := graph_ok sq.len (by omega : n ≤ 6)
  have nok := needs_ok sq (by omega) O
  refine ⟨_, (pss_cons (ps_asg (pv 0) (pg_tup rfl (pgs_cons (pg_name (i := 1) nd rfl (.inl rfl)) (pgs_cons (pg_name (i := 2) nd rfl (.inl rfl)) pgs_nil))))
  (pss_cons (ps_set (i := 3) nd rfl (.inr rfl) (pe_dn D4 (hr.mono (by decide)) (by rfl) (pa_cons (pv 0) pa_nil)))
  (pss_cons (ps_if (pw_or (pt_cmpR op_lt (pe_callB call_lenD (by rfl) B.len PySem.boot_len (pa_cons (pv 3) pa_nil)) (pe_callB call_lenD (by rfl) B.len PySem.boot_len (pa_cons (pv 2) pa_nil)) (nomark _)) (pw_or1 (pt_cmpR op_lt (pe_callB call_lenD (by rfl) B.len PySem.boot_len (pa_cons (pv 3) pa_nil)) (pe_callB call_len_seq (by rfl) B.len PySem.boot_len (pa_cons (pv 1) pa_nil)) (nomark _)))).pt (pss_one ps_never) pss_nil)
  (pss_cons (ps_set (i := 4) nd rfl (.inr rfl) (pe_lock (pe_dcT (own := [("name", 6)]) (tt := tYes) hu rfl nd (pi_keys (pv 3)) (blkOk_by (N := N_Blo) (sc := defScope sBlo) (by decide +kernel)) (fun _ _ _ _ _ => (pg_name (i := 6) nd rfl (.inl rfl))) (fun _ _ _ _ _ => pts_nil) (fun _ _ _ _ _ => (pe_dget hu (pv 3) (pv 6) (fun _ _ => rfl))) (fun _ _ _ _ _ => (pv 6)))))
  (pss_cons (ps_set (i := 5) nd rfl (.inl rfl) pe_dnewK)
  (pss_cons (ps_lock (ps_for PassesOwn.never rfl (pi_keys (pv 2)) (pg_name (i := 6) nd rfl (.inr rfl))
  (pss_one (ps_dput hu (pv 5) (pv 6) (pe_lc (own := [("key", 9)]) rfl nd (pi_list (pe_dget hu (pv 2) (pv 6) (fun _ _ => rfl))) (blkOk_by (N := N_Blo) (sc := defScope sBlo) (by decide +kernel)) (fun _ _ _ _ _ => (pg_name (i := 9) nd rfl (.inl rfl))) (fun _ _ _ _ _ => (pts_one (pt_cmpR op_ne (pe_dget hu (pv 4) (pv 9) (fun _ _ => rfl)) (pv 6) (nomark _)))) (fun _ _ _ _ _ => (pe_dget hu (pv 4) (pv 9) (fun _ _ => rfl)))) rfl))))
  (pss_cons (ps_set (i := 7) nd rfl (.inl rfl) (pe_lst pa_nil))
  (pss_cons (ps_for PassesOwn.never rfl (pi_list (pe_dn E3 (hr.mono (by decide)) (by rfl) (pa_cons (pe_dn E2 (hr.mono (by decide)) (by rfl) (pa_cons (pv 5) pa_nil)) (pa_cons (pv 5) pa_nil)))) (pg_name (i := 8) nd rfl (.inl rfl))
  (pss_one (ps_expr (pe_bm PySem.F.plainAttrs_list PySem.F.slot_list_append PySem.F.type_list_append mt_append (pv 7) (pa_cons (pe_tup (pa_cons (pv 8) (pa_cons (pe_callB cr_sortedT (by rfl) B.sorted boot_sorted (pa_cons (pe_lc (own := [("name", 6)]) (tt := tYes) rfl nd (pi_list (pv 8)) (blkOk_by (N := N_Blo) (sc := defScope sBlo) (by decide +kernel)) (fun _ _ _ _ _ => (pg_name (i := 6) nd rfl (.inl rfl))) (fun _ _ _ _ _ => pts_nil) (fun _ _ _ _ _ => (pe_dget hu (pv 3) (pv 6) (fun _ _ => rfl)))) pa_nil)) pa_nil))) pa_nil)))))
  (pss_one (ps_ret (pv 7))))))))))), ?_⟩
  have c := Cel.given sg hcl ndc
  refine q_tup2 (P1 := RKs (List.range n)) (P2 := RV (.ref dj)) c (ev_var rfl h0) fun vk v2 G1 H1 c1 s1 pk p2 => ?_
  obtain rfl : v2 = .ref dj := p2
  refine q_setN c1 (en_mat (x := ⟨List.range n, graphOf A, List.range n, n, dj, .dK jvs, jvs⟩) (ev_var rfl (up s1 h0)) ⟨gok, .inl rfl, jr.mono s1, graph_nm sq.len, hks, by show n ≤ 6; omega⟩ mem_head) fun df o G2 H2 c2 s2 ho => ?_
  obtain ⟨fvs, rfl, hf⟩ := ho
  have hf : FR (matchM (graphOf A) (List.range n)) fvs G2 := hf
  generalize hms : matchM (graphOf A) (List.range n) = ms at M O hf nok q
  have hmi : ∀ i, i < n → ms[i]? = some (i, keyOf ms i) := fun i hi => by
    have e1 : (ms.map (·.1))[i]? = some i := by rw [M.names, List.getElem?_range hi]
    rw [List.getElem?_map] at e1
    cases e : ms[i]? with
    | none => rw [e] at e1; cases e1
    | some p =>
      rw [e] at e1
      obtain ⟨a, b⟩ := p
      obtain rfl : a = i := Option.some.inj e1
      have := K97.lookup_fst (p := (a, b)) (by rw [M.names]; exact List.nodup_range) (List.mem_of_getElem? e)
      unfold keyOf
      rw [this]
      rfl
  have hkn : ((List.range n).map eK).Nodup := nodup_map_inj List.nodup_range fun a ha b hb e => eK_inj (by have := List.mem_range.mp ha; omega) (by have := List.mem_range.mp hb; omega) e
  have hfk : (ms.map fun p => eK p.1) = (List.range n).map eK := by rw [← M.names, List.map_map]; rfl
  have hmn : ms.length = n := by
    have := congrArg List.length M.names
    rw [List.length_map, List.length_range] at this
    exact this
  have hfn : fvs.length = n := by
    have := hf.len.1
    rw [List.length_map] at this
    omega
  have hjn : jvs.length = n := by
    have := congrArg List.length hks
    rw [List.length_map, List.length_map, List.length_range] at this
    exact this
  have hfget : ∀ i, i < n → ∃ v, valV fvs (eK i) = some v ∧ RK (kK (keyOf ms i)) v G2 := fun i hi => by
    have hnd : (ms.map fun p => eK p.1).Nodup := by rw [hfk]; exact hkn
    obtain ⟨v, h1, _, h3⟩ := DRel.get hf hnd (i := i) (k := eK i) (R := RK (kK (keyOf ms i))) (by rw [List.getElem?_map, hmi i hi]; rfl) (by rw [List.getElem?_map, hmi i hi]; rfl)
    exact ⟨v, h1, h3⟩
  refine q_if c2 (((et_or (et_test (ev_op (ev_lenK (d := df) (kvs := fvs) (ev_var rfl rfl) mem_head) (ev_lenK (d := dj) (kvs := jvs) (ev_var rfl rfl) mem_2) rv_I0)) (fun _ => et_test (ev_op (ev_lenK (d := df) (kvs := fvs) (ev_var rfl rfl) mem_head) (ev_len (Rs := (List.range n).map fun k => RK (kK k)) (ev_var rfl (up s2 pk))) rv_I0)))).is (b := false) (by
      rw [List.length_map, List.length_range, hfn, hjn]
      simp)) (fun hb => by cases hb) (fun _ G3 H3 c3 s3 => ?_)
  refine q_setN c3 (en_lock (d := df) (o := .dK fvs) (cs2 := []) True.intro mem_head (by simp) (by simp) fun od => en_dcT (n := fvs.length) (ew_keys (kvs := fvs) (od := od) (ev_var rfl rfl) mem_head) (by omega) (fun i => kK (keyOf ms i)) RS (by
      rw [hfn]
      refine nodup_map_inj List.nodup_range fun a ha b hb e => ?_
      have ha := O.key a (List.mem_range.mp ha)
      have hb := O.key b (List.mem_range.mp hb)
      have e := kK_inj (by omega) (by omega) e
      rw [← ha.2, ← hb.2, e]) fun i x g' hi sg' hY h' s' k qq => ?_) fun dw o G4 H4 c4 s4 ho => ?_
  · obtain ⟨ky, v, he, rfl⟩ := hY
    have hky : ky = eK i := by
      have e1 : (fvs.map (·.1))[i]? = some ky := by rw [List.getElem?_map, he]; rfl
      rw [hf.1, hfk, List.getElem?_map, List.getElem?_range (by omega)] at e1
      exact (Option.some.inj e1).symm
    subst hky
    obtain ⟨v, hv, hR⟩ := hfget i (by omega)
    exact qq _ rfl (ev_dgetK (k := eK i) (kvs := fvs) (d := df) (P := RK (kK (keyOf ms i))) mem_head (.inr ⟨od, rfl⟩) (ev_var rfl rfl) (ev_var rfl rfl) hv (up (s3.trans sg') hR)) (ev_var rfl rfl)
  obtain ⟨ovs, rfl, ho⟩ := ho
  rw [hfn] at ho
  have hoget : ∀ k, k < n → ∃ v, valV ovs (kK k) = some v ∧ RS (ownerOf ms k) v G4 := fun k hk => by
    obtain ⟨h1, h2⟩ := O.own k hk
    have hnd : ((List.range n).map fun i => kK (keyOf ms i)).Nodup := nodup_map_inj List.nodup_range fun a ha b hb e => by
      have ha := O.key a (List.mem_range.mp ha)
      have hb := O.key b (List.mem_range.mp hb)
      have e := kK_inj (by omega) (by omega) e
      rw [← ha.2, ← hb.2, e]
    obtain ⟨v, e1, _, e3⟩ := DRel.get ho hnd (i := ownerOf ms k) (k := kK k) (R := RS (ownerOf ms k)) (by rw [List.getElem?_map, List.getElem?_range h1]; show some (kK (keyOf ms (ownerOf ms k))) = _; rw [h2]) (by rw [List.getElem?_map, List.getElem?_range h1]; rfl)
    exact ⟨v, e1, e3⟩
  refine q_setN c4 en_dK fun dn o G5 H5 c5 s5 ho5 => ?_
  subst ho5
  have s15 := ((s2.trans s3).trans s4).trans s5
  -- the needs
  have c5 : Cel G (mask H [(dj, .dK jvs)]) G5 H5 [(dj, .dK jvs), (dn, .dK []), (dw, .dT ovs), (df, .dK fvs)] := c5.perm (by
    refine (List.perm_append_comm (l₁ := [(dj, HO.dK jvs)]) (l₂ := [(dn, HO.dK []), (dw, HO.dT ovs), (df, HO.dK fvs)])))
  refine q_lock c5 True.intro fun od H6 c6 => ?_
  refine s_for (cs' := [(dj, .frz od (.dK jvs))]) c6 (ew_keys (kvs := jvs) (od := od) (ev_var rfl rfl) mem_head)
    (fun i s' g h => ∃ o6 nvs, s' = [some v0, some vk, some (.ref dj), some (.ref df), some (.ref dw), some (.ref dn), o6, none, none, none] ∧ Cel G (mask H [(dj, .dK jvs)]) g h [(dj, .frz od (.dK jvs)), (dn, .dK nvs), (dw, .dT ovs), (df, .dK fvs)] ∧ L2.Same G5 g ∧
      DRel ((List.range i).map eK) ((List.range i).map fun a => RSs (jn (needsOf (graphOf A) ms) a)) nvs g)
    (fun i s' g h ⟨_, _, _, cc, _⟩ => ⟨cc.s, cc.hc.sub (by simp)⟩) (fun G7 H7 c7 s7 => ⟨none, [], rfl, c7, s7, .nil⟩) ?_ ?_
  · rintro i s' g h x hi sg' ⟨o6, nvs, rfl, cc, sG, hn⟩ g2 h2 w2 hY
    obtain ⟨ky, v, he, rfl⟩ := hY
    have hky : ky = eK i := by
      have e1 : (jvs.map (·.1))[i]? = some ky := by rw [List.getElem?_map, he]; rfl
      rw [hks, List.getElem?_map, List.getElem?_range (by omega)] at e1
      exact (Option.some.inj e1).symm
    subst hky
    rw [hjn] at hi
    obtain ⟨vj, hvj, hRj⟩ := jr.get i (by rw [graph_nm sq.len]; exact List.mem_range.mpr hi)
    have hS := ((s1.trans s15).trans sG).trans w2.g
    have hjl := graph_in sq.len i
    have hjz := graph_len sq.len i
    have ejn := jn_needsOf (N := graphOf A) (ms := ms) (i := i)
    generalize jn (graphOf A) i = l at hRj hjl hjz ejn
    refine s_dputK (k := eK i) (P := RSs (jn (needsOf (graphOf A) ms) i)) (cc.go w2).swap ?_ (ev_var rfl rfl) (ev_var rfl rfl) (by
      have := hn.len.1
      rw [List.length_map, List.length_range] at this
      omega) fun v g4 h4 c4' s4' p4 => ?_
    · have e : ((List.range l.length).filter fun j => decide (ownerOf ms (l.getD j 0) ≠ i)).map (fun j => RS (ownerOf ms (l.getD j 0))) = (jn (needsOf (graphOf A) ms) i).map RS := by
        rw [ejn, ← filter_getD l 0 (fun k => decide (ownerOf ms k ≠ i)), List.map_map, List.map_map]
        rfl
      unfold RSs
      rw [← e]
      refine ev_lc (n := l.length) (ew_listN (Rs := l.map fun k => RK (kK k)) (ev_dgetK (k := eK i) (kvs := jvs) (d := dj) (P := RKs l) mem_2 (.inr ⟨od, rfl⟩) (ev_var rfl rfl) (ev_var rfl rfl) hvj (up hS hRj)) (by rw [List.length_map])) (by omega) (fun j => decide (ownerOf ms (l.getD j 0) ≠ i)) (fun j => RS (ownerOf ms (l.getD j 0))) fun j x g' hj sg2 hY h' s' k qq => ?_
      have hY := hY.map (List.getElem?_eq_getElem hj)
      have hk := (hjl l[j] (List.getElem_mem hj)).2
      have gd : l.getD j 0 = l[j] := getD_get hj
      rw [← gd] at hY hk
      obtain ⟨v, hv, hR⟩ := hoget (l.getD j 0) hk
      have ow := fun (σ' : L2.St) (z1 : σ'[4]? = some (some (.ref dw))) (z2 : σ'[9]? = some (some x)) => (ev_dgetT (σ := σ') (G := g') (cs := [(dn, .dK nvs), (dj, .frz od (.dK jvs)), (dw, .dT ovs), (df, .dK fvs)]) (kt := kK (l.getD j 0)) (kvt := ovs) (d := dw) (P := RS (ownerOf ms (l.getD j 0))) mem_3 (.inl rfl) (ev_var (i := 4) z1 (show RV (.ref dw) (.ref dw) g' from rfl)) (ev_var (i := 9) z2 hY) hv (up (((s5.trans sG).trans w2.g).trans sg2) hR))
      refine qq _ rfl ((et_test (ev_op (ow _ rfl rfl) (ev_var rfl rfl) (rv_ne rfl))).is ?_) fun _ => ow _ rfl rfl
      have h1 := (O.own _ hk).1
      show (!decide (V.str (eS (ownerOf ms (l.getD j 0))) = V.str (eS i))) = decide (ownerOf ms (l.getD j 0) ≠ i)
      by_cases e : ownerOf ms (l.getD j 0) = i
      · rw [decide_eq_false (p := ownerOf ms (l.getD j 0) ≠ i) (fun z => z e), decide_eq_true (p := V.str (eS (ownerOf ms (l.getD j 0))) = V.str (eS i)) (by rw [e])]
        rfl
      · rw [decide_eq_true (p := ownerOf ms (l.getD j 0) ≠ i) e, decide_eq_false (p := V.str (eS (ownerOf ms (l.getD j 0))) = V.str (eS i)) fun z => e (eS_inj8 _ (by omega) _ (by omega) (V.str.inj z))]
        rfl
    · have s24 := w2.g.trans s4'
      refine ⟨g4, s24, _, _, rfl, c4'.swap, sG.trans s24, ?_⟩
      have hp := (hn.mono (m := moA_map) s24).put (k := eK i) (v := v) (R := RSs (jn (needsOf (graphOf A) ms) i)) (fun hm => by
        obtain ⟨a, ha, e⟩ := List.mem_map.mp hm
        have ha := List.mem_range.mp ha
        have := eK_inj (by omega) (by omega) e
        omega) p4
      rw [List.range_succ, List.map_append, List.map_append]
      exact hp
  · rintro s' g h sg' ⟨o6, nvs, rfl, cc, sG, hn⟩
    rw [hjn] at hn
    refine ⟨cc.hd, ?_⟩
    have cc := cc.put (.dK jvs)
    generalize upd h dj (.dK jvs) = h at cc
    have nr : NR (needsOf (graphOf A) ms) nvs g := ⟨fun i hi => by
      rw [nok.nm] at hi
      have hi := List.mem_range.mp hi
      obtain ⟨v, h1, _, h3⟩ := hn.get hkn (i := i) (k := eK i) (R := RSs (jn (needsOf (graphOf A) ms) i)) (by rw [List.getElem?_map, List.getElem?_range hi]; rfl) (by rw [List.getElem?_map, List.getElem?_range hi]; rfl)
      exact ⟨v, h1, h3⟩⟩
    have blk := K97.together_ok (N := needsOf (graphOf A) ms) (U := List.range n) (names := List.range n) ⟨fun nm k hk => List.mem_range.mpr (nok.sub nm k hk), by rw [List.length_range]; omega⟩ List.nodup_range
    have hol := (K97.order_ok (N := needsOf (graphOf A) ms) (U := List.range n) (names := List.range n) ⟨fun nm k hk => List.mem_range.mpr (nok.sub nm k hk), by rw [List.length_range]; omega⟩ (fun x y hy => List.mem_range.mpr (nok.sub x y hy)) blk).2
    have egr : groupsOf A n ms = (orderOf (needsOf (graphOf A) ms) (K97.together (needsOf (graphOf A) ms) (List.range n))).map fun i => (K97.together (needsOf (graphOf A) ms) (List.range n)).getD i [] := rfl
    generalize hgs : K97.together (needsOf (graphOf A) ms) (List.range n) = gs at blk hol egr
    have hgl := blk_few blk
    have hgw := fun g hg => blk_wide blk (g := g) hg
    have hglt := blk_lt blk
    have hmem : ∀ gr ∈ groupsOf A n ms, gr.length ≤ n ∧ ∀ y ∈ gr, y < n := fun gr hgr => by
      rw [egr] at hgr
      obtain ⟨a, _, rfl⟩ := List.mem_map.mp hgr
      by_cases ha : a < gs.length
      · rw [getD_get ha]
        exact ⟨hgw _ (List.getElem_mem ha), fun y hy => hglt y (List.mem_flatten.mpr ⟨_, List.getElem_mem ha, hy⟩)⟩
      · rw [List.getD_eq_getElem?_getD, List.getElem?_eq_none (by omega)]
        exact ⟨Nat.zero_le _, fun y hy => by simp at hy⟩
    have hgn : (groupsOf A n ms).length ≤ n := by rw [egr, List.length_map]; omega
    have s2g := ((s3.trans s4).trans s5).trans sG
    refine q_setN cc en_nil fun lr o G6 H6 c6 s6 ho => ?_
    subst ho
    have s26 := s2g.trans s6
    refine q_for (cs' := [(dn, .dK nvs)]) c6 (ew_listN (n := (groupsOf A n ms).length) (Rs := (groupsOf A n ms).map RSs) (by
        rw [egr]
        exact (ev_callC (In := _) (cells := _) (Out := fun (x : OrdIn) => RSss ((orderOf x.N x.gs).map fun i => x.gs.getD i [])) (n := 2) (⟨needsOf (graphOf A) ms, n, gs, dn, nvs⟩ : OrdIn) (ea_cons (P1 := RSss gs) (by
          rw [← hgs]
          exact ev_callC (In := _) (cells := _) (Out := fun (x : TogIn) => RSss (K97.together x.N (List.range x.n))) (n := 1) (⟨needsOf (graphOf A) ms, n, dn, nvs⟩ : TogIn) (ea_cons (P1 := RV (.ref dn)) (ev_var rfl rfl) ea_nil) (F2.length_is rfl) (fun vs G2 s f => ⟨f, ⟨nok, nr.mono (s6.trans s), hn.1⟩⟩) (by simp) (by simp)) (ea_cons (P1 := RV (.ref dn)) (ev_var rfl rfl) ea_nil)) (F2.length_is rfl) (fun vs G2 s f => ⟨f, ⟨nok, nr.mono (s6.trans s), blk⟩⟩) (by simp) (by simp))) (by rw [List.length_map]))
      (fun i s' g h => ∃ o8 xs, ∃ bl : List (List Nat × List Nat), s' = [some v0, some vk, some (.ref dj), some (.ref df), some (.ref dw), some (.ref dn), o6, some (.ref lr), o8, none] ∧ Cel G (mask H [(dj, .dK jvs)]) g h [(lr, .lst xs), (dj, .dK jvs), (dn, .dK nvs), (dw, .dT ovs), (df, .dK fvs)] ∧ L2.Same G6 g ∧
        bl.map (·.1) = (groupsOf A n ms).take i ∧ (∀ q ∈ bl, q.2.Perm (q.1.map (keyOf ms))) ∧ F2 (bl.map fun q => RT [RSs q.1, RKs q.2]) xs g)
      (fun i s' g h ⟨_, _, _, _, cc, _⟩ => ⟨cc.s, cc.hc.sub (by simp)⟩) (fun G7 H7 c7 s7 => ⟨none, [], [], rfl, c7, s7, rfl, fun q hq => by simp at hq, trivial⟩) ?_ ?_
    · rintro i s' g' h' x hi sg2 ⟨o8, xs, bl, rfl, cc2, sG2, hbl, hpm, hxs⟩ g3 h3 w3 hY
      have hei := List.getElem?_eq_getElem hi
      have hY := hY.map hei
      obtain ⟨hgl1, hgl2⟩ := hmem _ (List.getElem_mem hi)
      have htk : (groupsOf A n ms).take (i + 1) = (groupsOf A n ms).take i ++ [(groupsOf A n ms)[i]] := (List.take_append_getElem hi).symm
      generalize (groupsOf A n ms)[i] = gr at hY hgl1 hgl2 htk
      have hbn : bl.length ≤ n := by
        have := congrArg List.length hbl
        rw [List.length_map, List.length_take] at this
        omega
      have hxn : xs.length ≤ 1000 := by
        rw [← hxs.len, List.length_map]
        omega
      have sF := ((s26.trans sG2).trans w3.g)
      refine s_app (P := RT [RSs gr, RKp (gr.map (keyOf ms))]) (cc2.go w3) rfl (ev_tup (ea_cons (P1 := RSs gr) (ev_var rfl hY) (ea_cons (P1 := RKp (gr.map (keyOf ms))) (ev_sortedT ?_) ea_nil))) hxn fun v g4 h4 c4' s4' p4 => ?_
      · have e : (List.range gr.length).map (fun j => RK (kK (keyOf ms (gr.getD j 0)))) = (gr.map (keyOf ms)).map fun k => RK (kK k) := by
          rw [range_getD gr 0 fun a => RK (kK (keyOf ms a)), List.map_map]
          rfl
        unfold RKs
        rw [← e]
        refine ev_lcA (n := gr.length) (ew_listN (Rs := gr.map RS) (ev_var rfl hY) (by rw [List.length_map])) (by omega) (fun j => RK (kK (keyOf ms (gr.getD j 0)))) fun j x g' hj sg3 hY h' s' k qq => ?_
        have hY := hY.map (List.getElem?_eq_getElem hj)
        have gd : gr.getD j 0 = gr[j] := getD_get hj
        have hk := hgl2 _ (List.getElem_mem hj)
        rw [← gd] at hY hk
        obtain ⟨v, hv, hR⟩ := hfget _ hk
        exact qq _ rfl (ev_dgetK (k := eK (gr.getD j 0)) (kvs := fvs) (d := df) (P := RK (kK (keyOf ms (gr.getD j 0)))) (by simp) (.inl rfl) (ev_var rfl rfl) (ev_var rfl hY) hv (up (sF.trans sg3) hR))
      · obtain ⟨a, us, rfl, ha, hu3⟩ := p4
        obtain ⟨u1, u2, rfl, q1, l', hp, q2⟩ := two_of hu3
        have s34 := w3.g.trans s4'
        refine ⟨g4, s34, _, xs ++ [_], bl ++ [(gr, l')], rfl, c4', sG2.trans s34, ?_, ?_, ?_⟩
        · rw [List.map_append, hbl, htk]; rfl
        · intro q hq
          rcases List.mem_append.mp hq with hq | hq
          · exact hpm q hq
          · obtain rfl := List.mem_singleton.mp hq
            exact hp
        · rw [List.map_append]
          exact (hxs.mono moA_map.mo s34).snoc ⟨a, _, rfl, ha, q1, q2, trivial⟩
    · rintro s' g' h' sg2 ⟨o8, xs, bl, rfl, cc2, sG2, hbl, hpm, hxs⟩
      rw [List.take_of_length_le (Nat.le_refl _)] at hbl
      obtain ⟨c8, s8⟩ := cc2.freeze
      refine s_ret c8 (ev_var rfl (P := RBl A n) ⟨bl, by rw [hms]; exact hbl, by rw [hms]; exact hpm, lr, xs, rfl, upd_same, hxs.mono moA_map.mo s8⟩) fun v g9 h9 c9 s9 p9 => q v g9 h9 (c9.read hcl (by simp)) p9
end
end KW
end
section
set_option Elab.async false
set_option linter.all false
set_option maxRecDepth 100000
set_option maxHeartbeats 2000000
set_option exponentiation.threshold 20000
namespace KW
open PySem PySem.Spec PyProof.Rows L2
open K97 (Sz)
/-! ### the law's fractions -/
/-- a fraction as the law keeps it -/
def RFr (q : Rat) : VP := RT [RV (.int q.num), RV (.int (q.den : Int))]
instance {q : Rat} : Mo (RFr q) := inferInstanceAs (Mo (RT _))
abbrev sLMa : Stmt := top 38
def N_LMa : List Str := ["_law_n", "_law_d", "_law_a", "_law_b"]
theorem scLMa : FnScope N_LMa ["_law_n", "_law_d"] (defScope sLMa) := ⟨rfl, rfl, rfl, by decide +kernel, rfl, by decide +kernel, by decide +kernel⟩
def spLMa : Sp := spF (fun (x : Int × Int) vs _ => vs = [.int x.1, .int x.2] ∧ x.2 ≠ 0 ∧ Big x.1 x.2) (fun x => RFr (Rat.divInt x.1 x.2)) 2
section
variable {P : Program} {w : World} {K : PySem.W.Frag} {mg : Str → Option Value} {base : Heap} {C : Addr} {σ : L2.St} {G0 H0 G H : Hp} {cs : List (Addr × HO)} {ta : TE}
theorem ev_abs {i : Int} (h : EvP ta σ G cs (RV (.int i))) : EvP (tCB (fun xs H Q => ∃ i, xs = [V.int i] ∧ Q (.int (if i < 0 then -i else i)) H) (tCons ta tNil)) σ G cs (RV (.int (if i < 0 then -i else i))) := fun H s hc Q q =>
  h H s hc _ fun x G1 H1 w1 p1 => by
    obtain rfl : x = .int i := p1
    exact ⟨i, rfl, q _ _ _ w1 rfl⟩
theorem ev_negI {i : Int} (h : EvP ta σ G cs (RV (.int i))) : EvP (tUn (rU fun i => .int (-i)) ta) σ G cs (RV (.int (-i))) := ev_un h fun x G p H s hc Q q => ⟨i, p, q _ G H (.refl s) rfl⟩
theorem dn_lma (Dd : Df K mg "_law_made" sLMa) (B : Kit P w K mg base C) : Dn P w K mg base "_law_made" 1 ["_law_n", "_law_d"] spLMa := by
  refine dn_of Dd scLMa (fun _ _ _ _ _ _ us hl => match us, hl with | [_, _], _ => rfl) (fun vs H Q E h => h.1) (fun fa cdv A0 outer st H vs Q E hr h => ?_)
  obtain ⟨_, G, ⟨n, d⟩, sg, ⟨rfl, hd, hB⟩, q⟩ := h
  dsimp only at *
  have nd := scLMa.nd
  refine ⟨_, (pss_cons (ps_if (pt_cmpR op_lt (pv 1) pe_int (nomark _)) (pss_cons (ps_set (i := 0) nd rfl (.inl rfl) (pe_un un_neg (pv 0)))
    (pss_one (ps_set (i := 1) nd rfl (.inl rfl) (pe_un un_neg (pv 1))))) pss_nil)
  (pss_cons (ps_set (i := 2) nd rfl (.inl rfl) (pe_callB call_abs (by rfl) B.abs (by decide +kernel) (pa_cons (pv 0) pa_nil)))
  (pss_cons (ps_set (i := 3) nd rfl (.inl rfl) (pv 1))
  (pss_cons (ps_while PassesOwn.never (pt_cmpR op_gt (pv 3) pe_int (nomark _))
  (pss_one (ps_par (i := 2) (j := 3) rfl nd rfl rfl (by decide) rfl rfl (pa_cons (pv 3) (pa_cons (pe_op op_modN (pv 2) (pv 3)) pa_nil)) (by rfl))))
  (pss_one (ps_ret (pe_tup (pa_cons (pe_op op_fdivB (pv 0) (pv 2)) (pa_cons (pe_op op_fdivB (pv 1) (pv 2)) pa_nil))))))))), ?_⟩
  have c := Cel.start sg
  refine q_if c (b := decide (d < 0)) (et_test (ev_op (ev_var rfl rfl) ev_c rv_I0)) (fun hb G2 H2 c2 s2 => ?_) (fun hb G2 H2 c2 s2 => ?_)
  · have hdn := of_decide_eq_true hb
    refine q_set c2 (P := RV (.int (-n))) (ev_negI (ev_var rfl rfl)) fun v1 G3 H3 c3 s3 p3 => ?_
    obtain rfl : v1 = .int (-n) := p3
    refine s_set c3 (P := RV (.int (-d))) (ev_negI (ev_var rfl rfl)) fun v1 G4 H4 c4 s4 p4 => ?_
    obtain rfl : v1 = .int (-d) := p4
    have hp : (0 : Int) < -d := by omega
    have he : Rat.divInt (-n) (-d) = Rat.divInt n d := (Rat.divInt_eq_divInt_iff (by omega) hd).mpr (by rw [Int.neg_mul, Int.mul_neg])
    have hB2 : Big (-n) (-d) := ⟨by rw [Int.natAbs_neg]; exact hB.1, by rw [Int.natAbs_neg]; exact hB.2⟩
    rw [← he] at q
    clear he
    generalize -n = n at q hB2 ⊢
    generalize -d = d at q hB2 hp ⊢
    refine q_set c4 (P := RV (.int (if n < 0 then -n else n))) (ev_abs (ev_var rfl rfl)) fun v1 G5 H5 c5 s5 p5 => ?_
    obtain rfl : v1 = .int (if n < 0 then -n else n) := p5
    refine q_set c5 (P := RV (.int d)) (ev_var rfl rfl) fun v1 G6 H6 c6 s6 p6 => ?_
    obtain rfl : v1 = .int d := p6
    refine while_le (fun m σ H' => ∃ (x y : Int) (g : Hp), σ = [some (.int n), some (.int d), some (.int x), some (.int y)] ∧ m = y.natAbs ∧ 0 ≤ x ∧ 0 ≤ y ∧ Int.gcd x y = Int.gcd n d ∧ Cel G H g H' []) d.natAbs ⟨_, _, G6, rfl, rfl, by split <;> omega, by omega, by split <;> simp, c6⟩ ?_
    rintro m σ H7 ⟨x, y, g7, rfl, rfl, hx, hy, hg, c7⟩
    refine (et_test (b := decide (y > 0)) (ev_op (ev_var rfl rfl) ev_c rv_I0)) H7 c7.s c7.hc _ fun g8 H8 w8 => ?_
    have c8 := c7.go w8
    by_cases h0 : y > 0
    · rw [decide_eq_true h0, if_pos rfl]
      refine ⟨fun σ' H9 => σ' = [some (.int n), some (.int d), some (.int y), some (.int (x.fmod y))] ∧ H9 = H8, fun σ' H9 hh => ?_, ?_⟩
      · obtain ⟨rfl, rfl⟩ := hh
        exact ⟨(x.fmod y).natAbs, fmod_small x (by omega), y, x.fmod y, g8, rfl, rfl, by omega, Int.fmod_nonneg_of_pos x h0, (gcd_step x y).trans hg, c8⟩
      · exact ⟨_, rfl, _, rfl, _, rfl, x, y, rfl, rfl, by omega, _, _, rfl, rfl, rfl⟩
    · rw [decide_eq_false h0, if_neg (by decide)]
      obtain rfl : y = 0 := by omega
      rw [Int.gcd_zero_right] at hg
      have ed : dvr n d = x := by
        unfold dvr
        rw [if_neg (by omega), ← hg]
        omega
      have e1 := dvr_top (n := n) (d := d) (by omega)
      have e2 := dvr_bot (n := n) (d := d) (by omega)
      have e3 := dvr_ne (n := n) (d := d) (by omega)
      rw [ed] at e1 e2 e3
      refine s_ret (P := RFr (Rat.divInt n d)) c8 (ev_tup (ea_cons ((ev_op (ev_var rfl rfl) (ev_var rfl rfl) (rv_I ⟨e3, hB2.1⟩)).is (congrArg V.int e1)) (ea_cons ((ev_op (ev_var rfl rfl) (ev_var rfl rfl) (rv_I ⟨e3, hB2.2⟩)).is (congrArg V.int e2)) ea_nil))) fun v g9 h9 c9 s9 p9 => q v g9 h9 c9.w p9
  · have hp : (0 : Int) < d := by have := of_decide_eq_false hb; omega
    have hB2 := hB
    refine q_set c2 (P := RV (.int (if n < 0 then -n else n))) (ev_abs (ev_var rfl rfl)) fun v1 G5 H5 c5 s5 p5 => ?_
    obtain rfl : v1 = .int (if n < 0 then -n else n) := p5
    refine q_set c5 (P := RV (.int d)) (ev_var rfl rfl) fun v1 G6 H6 c6 s6 p6 => ?_
    obtain rfl : v1 = .int d := p6
    refine while_le (fun m σ H' => ∃ (x y : Int) (g : Hp), σ = [some (.int n), some (.int d), some (.int x), some (.int y)] ∧ m = y.natAbs ∧ 0 ≤ x ∧ 0 ≤ y ∧ Int.gcd x y = Int.gcd n d ∧ Cel G H g H' []) d.natAbs ⟨_, _, G6, rfl, rfl, by split <;> omega, by omega, by split <;> simp, c6⟩ ?_
    rintro m σ H7 ⟨x, y, g7, rfl, rfl, hx, hy, hg, c7⟩
    refine (et_test (b := decide (y > 0)) (ev_op (ev_var rfl rfl) ev_c rv_I0)) H7 c7.s c7.hc _ fun g8 H8 w8 => ?_
    have c8 := c7.go w8
    by_cases h0 : y > 0
    · rw [decide_eq_true h0, if_pos rfl]
      refine ⟨fun σ' H9 => σ' = [some (.int n), some (.int d), some (.int y), some (.int (x.fmod y))] ∧ H9 = H8, fun σ' H9 hh => ?_, ?_⟩
      · obtain ⟨rfl, rfl⟩ := hh
        exact ⟨(x.fmod y).natAbs, fmod_small x (by omega), y, x.fmod y, g8, rfl, rfl, by omega, Int.fmod_nonneg_of_pos x h0, (gcd_step x y).trans hg, c8⟩
      · exact ⟨_, rfl, _, rfl, _, rfl, x, y, rfl, rfl, by omega, _, _, rfl, rfl, rfl⟩
    · rw [decide_eq_false h0, if_neg (by decide)]
      obtain rfl : y = 0 := by omega
      rw [Int.gcd_zero_right] at hg
      have ed : dvr n d = x := by
        unfold dvr
        rw [if_neg (by omega), ← hg]
        omega
      have e1 := dvr_top (n := n) (d := d) (by omega)
      have e2 := dvr_bot (n := n) (d := d) (by omega)
      have e3 := dvr_ne (n := n) (d := d) (by omega)
      rw [ed] at e1 e2 e3
      refine s_ret (P := RFr (Rat.divInt n d)) c8 (ev_tup (ea_cons ((ev_op (ev_var rfl rfl) (ev_var rfl rfl) (rv_I ⟨e3, hB2.1⟩)).is (congrArg V.int e1)) (ea_cons ((ev_op (ev_var rfl rfl) (ev_var rfl rfl) (rv_I ⟨e3, hB2.2⟩)).is (congrArg V.int e2)) ea_nil))) fun v g9 h9 c9 s9 p9 => q v g9 h9 c9.w p9
end
end KW
end
section
set_option Elab.async false
set_option linter.all false
set_option maxRecDepth 100000
set_option maxHeartbeats 2000000
set_option exponentiation.threshold 20000
namespace KW
open PySem PySem.Spec PyProof.Rows L2
open K97 (Sz)
abbrev sLPr : Stmt := top 37
def N_LPr : List Str := ["_law_value"]
theorem scLPr : FnScope N_LPr ["_law_value"] (defScope sLPr) := ⟨rfl, rfl, rfl, by decide +kernel, rfl, by decide +kernel, by decide +kernel⟩
def spLPr (C : Addr) : Sp := spF (fun (x : Rat) vs G => F2 [RQ C x] vs G) (fun x => RFr x) 1
abbrev sLAr : Stmt := top 39
def N_LAr : List Str := ["_law_word", "_law_a", "_law_b"]
theorem scLAr : FnScope N_LAr ["_law_word", "_law_a", "_law_b"] (defScope sLAr) := ⟨rfl, rfl, rfl, by decide +kernel, rfl, by decide +kernel, by decide +kernel⟩
def aop (w : Str) (p q : Rat) : Rat := if w = ("add" : Str) then p + q else if w = ("sub" : Str) then p - q else if w = ("mul" : Str) then p * q else p / q
def spLAr : Sp := spF (fun (x : Str × Rat × Rat) vs G => F2 [RV (.str x.1), RFr x.2.1, RFr x.2.2] vs G ∧ Fit x.2.1 x.2.2 ∧ (x.1 = ("add" : Str) ∨ x.1 = ("sub" : Str) ∨ x.1 = ("mul" : Str) ∨ (x.1 = ("div" : Str) ∧ x.2.2 ≠ 0))) (fun x => RFr (aop x.1 x.2.1 x.2.2)) 3
section
variable {P : Program} {w : World} {K : PySem.W.Frag} {mg : Str → Option Value} {base : Heap} {C : Addr} {σ : L2.St} {G0 H0 G H : Hp} {cs : List (Addr × HO)} {ta tb te : TE}
theorem dn_lpr (Dd : Df K mg "_law_pair" sLPr) (B : Kit P w K mg base C) : Dn P w K mg base "_law_pair" 1 ["_law_value"] (spLPr C) := by
  refine dn_of Dd scLPr (fun _ _ _ _ _ _ us hl => match us, hl with | [_], _ => rfl) (fun vs H Q E h => h.1) (fun fa cdv A0 outer st H vs Q E hr h => ?_)
  obtain ⟨_, G, p, sg, hF, q⟩ := h
  obtain ⟨v1, rfl, h1⟩ := one_of hF
  dsimp only at *
  refine ⟨_, (pss_cons (ps_if (pt_val (pe_callB call_isi (by rfl) B.isi boot_isinstance (pa_cons (pv 0) (pa_cons (pe_bltn (v := .ty "bool") (u := .type "bool") (by rfl) B.bool (by decide +kernel) rfl) pa_nil)))) (pss_one (ps_ret (pv 0))) pss_nil)
  (pss_one (ps_ret (pe_tup (pa_cons (pe_fld (pv 0) rfl) (pa_cons (pe_fld (pv 0) rfl) pa_nil)))))), ?_⟩
  have c : Cel G H G H [] := .start sg
  have isi : EvP (tCB (rIsi K) (tCons (tVar 0) (tCons (tC (.ty "bool")) tNil))) (start N_LPr [v1]) G [] (RV (.bl false)) := ev_CB (ea_cons (ev_var rfl h1) (ea_cons ev_c ea_nil)) fun xs G pa H s hc Q q => by
    obtain ⟨a, b, rfl, ⟨a', dx, rfl, ha⟩, rfl⟩ := two_of pa
    exact ⟨_, _, _, _, false, rfl, .ty _, .base (.ins (s _ _ ha) B.T.cl B.T.cls B.T.clg B.T.clt B.T.mro), B.T.bool, q _ G H (.refl s) rfl⟩
  refine q_if c (et_B isi) (fun hf => by cases hf) fun _ G2 H2 c2 s2 => ?_
  have h1' := up s2 h1
  exact s_ret (P := RFr p) c2 (ev_tup (ea_cons (ev_top B.T (ev_var rfl h1')) (ea_cons (ev_bot B.T (ev_var rfl h1')) ea_nil))) fun v g9 h9 c9 s9 p9 => q v g9 h9 c9.w p9
theorem ev_fr0 {p : Rat} (h : EvP ta σ G cs (RFr p)) : EvP (tOp (rIxT K) ta (tC (.int 0))) σ G cs (RV (.int p.num)) := ev_op h ev_c (rv_ixT (i := 0) rfl)
theorem ev_fr1 {p : Rat} (h : EvP ta σ G cs (RFr p)) : EvP (tOp (rIxT K) ta (tC (.int 1))) σ G cs (RV (.int (p.den : Int))) := ev_op h ev_c (rv_ixT (i := 1) rfl)
theorem ev_lma {n d : Int} {q : Rat} (h1 : EvP ta σ G cs (RV (.int n))) (h2 : EvP tb σ G cs (RV (.int d))) (hd : d ≠ 0) (hB : Big n d) (e : Rat.divInt n d = q) : EvP (tCall spLMa [] E0 (tCons ta (tCons tb tNil))) σ G cs (RFr q) := by
  subst e
  exact ev_callF (In := _) (Out := fun (x : Int × Int) => RFr (Rat.divInt x.1 x.2)) (n := 2) ((n, d) : Int × Int) (ea_cons h1 (ea_cons h2 ea_nil)) (F2.length_is rfl) (fun vs G2 s f => by
    obtain ⟨a, b, rfl, e1, e2⟩ := two_of f
    obtain rfl : a = _ := e1
    obtain rfl : b = _ := e2
    exact ⟨rfl, hd, hB⟩)
theorem dn_lar (Dd : Df K mg "_law_arithmetic" sLAr) (B : Kit P w K mg base C) (L1 : Dn P w K mg base "_law_made" 1 ["_law_n", "_law_d"] spLMa) : Dn P w K mg base "_law_arithmetic" 2 ["_law_word", "_law_a", "_law_b"] spLAr := by
  refine dn_of Dd scLAr (fun _ _ _ _ _ _ us hl => match us, hl with | [_, _, _], _ => rfl) (fun vs H Q E h => h.1) (fun fa cdv A0 outer st H vs Q E hr h => ?_)
  obtain ⟨_, G, ⟨wd, p, q⟩, sg, ⟨hF, ⟨a, b, hp, hq, hab⟩, hw⟩, k⟩ := h
  obtain ⟨v0, v1, v2, rfl, h0, h1, h2⟩ := three_of hF
  dsimp only at *
  obtain rfl : v0 = .str wd := h0
  have nd := scLAr.nd
  refine ⟨_, (pss_cons (ps_if (pt_cmpR op_eq (pv 0) pe_str (nomark _)) (pss_one (ps_ret (pe_dn L1 (hr.mono (by decide)) (by rfl) (pa_cons (pe_op op_add (pe_op op_mulW (pe_ix ix_tup (pv 1) pe_int (fun _ _ => rfl)) (pe_ix ix_tup (pv 2) pe_int (fun _ _ => rfl))) (pe_op op_mulW (pe_ix ix_tup (pv 2) pe_int (fun _ _ => rfl)) (pe_ix ix_tup (pv 1) pe_int (fun _ _ => rfl)))) (pa_cons (pe_op op_mulW (pe_ix ix_tup (pv 1) pe_int (fun _ _ => rfl)) (pe_ix ix_tup (pv 2) pe_int (fun _ _ => rfl))) pa_nil))))) pss_nil)
  (pss_cons (ps_if (pt_cmpR op_eq (pv 0) pe_str (nomark _)) (pss_one (ps_ret (pe_dn L1 (hr.mono (by decide)) (by rfl) (pa_cons (pe_op op_sub (pe_op op_mulW (pe_ix ix_tup (pv 1) pe_int (fun _ _ => rfl)) (pe_ix ix_tup (pv 2) pe_int (fun _ _ => rfl))) (pe_op op_mulW (pe_ix ix_tup (pv 2) pe_int (fun _ _ => rfl)) (pe_ix ix_tup (pv 1) pe_int (fun _ _ => rfl)))) (pa_cons (pe_op op_mulW (pe_ix ix_tup (pv 1) pe_int (fun _ _ => rfl)) (pe_ix ix_tup (pv 2) pe_int (fun _ _ => rfl))) pa_nil))))) pss_nil)
  (pss_cons (ps_if (pt_cmpR op_eq (pv 0) pe_str (nomark _)) (pss_one (ps_ret (pe_dn L1 (hr.mono (by decide)) (by rfl) (pa_cons (pe_op op_mulW (pe_ix ix_tup (pv 1) pe_int (fun _ _ => rfl)) (pe_ix ix_tup (pv 2) pe_int (fun _ _ => rfl))) (pa_cons (pe_op op_mulW (pe_ix ix_tup (pv 1) pe_int (fun _ _ => rfl)) (pe_ix ix_tup (pv 2) pe_int (fun _ _ => rfl))) pa_nil))))) pss_nil)
  (pss_cons (ps_if (pt_cmpR op_eq (pv 0) pe_str (nomark _)) (pss_one (ps_ret (pe_cmpR op_lt (pe_op op_mulW (pe_ix ix_tup (pv 1) pe_int (fun _ _ => rfl)) (pe_ix ix_tup (pv 2) pe_int (fun _ _ => rfl))) (pe_op op_mulW (pe_ix ix_tup (pv 2) pe_int (fun _ _ => rfl)) (pe_ix ix_tup (pv 1) pe_int (fun _ _ => rfl))) (nomark _)))) pss_nil)
  (pss_cons (ps_if (pt_cmpR op_eq (pv 0) pe_str (nomark _)) (pss_one (ps_ret (pe_cmpR op_le (pe_op op_mulW (pe_ix ix_tup (pv 1) pe_int (fun _ _ => rfl)) (pe_ix ix_tup (pv 2) pe_int (fun _ _ => rfl))) (pe_op op_mulW (pe_ix ix_tup (pv 2) pe_int (fun _ _ => rfl)) (pe_ix ix_tup (pv 1) pe_int (fun _ _ => rfl))) (nomark _)))) pss_nil)
  (pss_one (ps_ret (pe_dn L1 (hr.mono (by decide)) (by rfl) (pa_cons (pe_op op_mulW (pe_ix ix_tup (pv 1) pe_int (fun _ _ => rfl)) (pe_ix ix_tup (pv 2) pe_int (fun _ _ => rfl))) (pa_cons (pe_op op_mulW (pe_ix ix_tup (pv 1) pe_int (fun _ _ => rfl)) (pe_ix ix_tup (pv 2) pe_int (fun _ _ => rfl))) pa_nil)))))))))), ?_⟩
  have c : Cel G H G H [] := .start sg
  have hpd : (((p.den : Nat) : Int)).natAbs ≤ 2 ^ a := by rw [den_abs]; exact hp.2
  have hqd : (((q.den : Nat) : Int)).natAbs ≤ 2 ^ b := by rw [den_abs]; exact hq.2
  have dn : ((p.den : Nat) : Int) * ((q.den : Nat) : Int) ≠ 0 := Int.mul_ne_zero (K97.den_ne p) (K97.den_ne q)
  rcases hw with rfl | rfl | rfl | ⟨rfl, hne⟩
  · refine q_if c (b := true) ((et_test (ev_op (ev_var rfl rfl) ev_c (rv_eq rfl))).is (by decide +kernel)) (fun _ G2 H2 c2 s2 => ?_) (fun hb => by cases hb)
    have h1 := up s2 h1
    have h2 := up s2 h2
    exact s_ret c2 (ev_lma (ev_op (ev_op (ev_fr0 (ev_var rfl h1)) (ev_fr1 (ev_var rfl h2)) (rv_mulW hp.1 hqd (by omega))) (ev_op (ev_fr0 (ev_var rfl h2)) (ev_fr1 (ev_var rfl h1)) (rv_mulW hq.1 hpd (by omega))) rv_I0) (ev_op (ev_fr1 (ev_var rfl h1)) (ev_fr1 (ev_var rfl h2)) (rv_mulW hpd hqd (by omega))) dn (raw_big (K97.raw_add hp hq) (by omega)) (K97.add_divInt p q).symm) fun v g9 h9 c9 s9 p9 => k v g9 h9 c9.w p9
  · refine q_if c (b := false) ((et_test (ev_op (ev_var rfl rfl) ev_c (rv_eq rfl))).is (by decide +kernel)) (fun hb => by cases hb) (fun _ G2 H2 c2 s2 => ?_)
    refine q_if c2 (b := true) ((et_test (ev_op (ev_var rfl rfl) ev_c (rv_eq rfl))).is (by decide +kernel)) (fun _ G3 H3 c3 s3 => ?_) (fun hb => by cases hb)
    have h1 := up (s2.trans s3) h1
    have h2 := up (s2.trans s3) h2
    exact s_ret c3 (ev_lma (ev_op (ev_op (ev_fr0 (ev_var rfl h1)) (ev_fr1 (ev_var rfl h2)) (rv_mulW hp.1 hqd (by omega))) (ev_op (ev_fr0 (ev_var rfl h2)) (ev_fr1 (ev_var rfl h1)) (rv_mulW hq.1 hpd (by omega))) rv_I0) (ev_op (ev_fr1 (ev_var rfl h1)) (ev_fr1 (ev_var rfl h2)) (rv_mulW hpd hqd (by omega))) dn (raw_big (K97.raw_sub hp hq) (by omega)) (K97.sub_divInt p q).symm) fun v g9 h9 c9 s9 p9 => k v g9 h9 c9.w p9
  · refine q_if c (b := false) ((et_test (ev_op (ev_var rfl rfl) ev_c (rv_eq rfl))).is (by decide +kernel)) (fun hb => by cases hb) (fun _ G2 H2 c2 s2 => ?_)
    refine q_if c2 (b := false) ((et_test (ev_op (ev_var rfl rfl) ev_c (rv_eq rfl))).is (by decide +kernel)) (fun hb => by cases hb) (fun _ G3 H3 c3 s3 => ?_)
    refine q_if c3 (b := true) ((et_test (ev_op (ev_var rfl rfl) ev_c (rv_eq rfl))).is (by decide +kernel)) (fun _ G4 H4 c4 s4 => ?_) (fun hb => by cases hb)
    have h1 := up ((s2.trans s3).trans s4) h1
    have h2 := up ((s2.trans s3).trans s4) h2
    exact s_ret c4 (ev_lma (ev_op (ev_fr0 (ev_var rfl h1)) (ev_fr0 (ev_var rfl h2)) (rv_mulW hp.1 hq.1 (by omega))) (ev_op (ev_fr1 (ev_var rfl h1)) (ev_fr1 (ev_var rfl h2)) (rv_mulW hpd hqd (by omega))) dn (raw_big (K97.raw_mul hp hq) (by omega)) (K97.mul_divInt p q).symm) fun v g9 h9 c9 s9 p9 => k v g9 h9 c9.w p9
  · refine q_if c (b := false) ((et_test (ev_op (ev_var rfl rfl) ev_c (rv_eq rfl))).is (by decide +kernel)) (fun hb => by cases hb) (fun _ G2 H2 c2 s2 => ?_)
    refine q_if c2 (b := false) ((et_test (ev_op (ev_var rfl rfl) ev_c (rv_eq rfl))).is (by decide +kernel)) (fun hb => by cases hb) (fun _ G3 H3 c3 s3 => ?_)
    refine q_if c3 (b := false) ((et_test (ev_op (ev_var rfl rfl) ev_c (rv_eq rfl))).is (by decide +kernel)) (fun hb => by cases hb) (fun _ G4 H4 c4 s4 => ?_)
    refine q_if c4 (b := false) ((et_test (ev_op (ev_var rfl rfl) ev_c (rv_eq rfl))).is (by decide +kernel)) (fun hb => by cases hb) (fun _ G5 H5 c5 s5 => ?_)
    refine q_if c5 (b := false) ((et_test (ev_op (ev_var rfl rfl) ev_c (rv_eq rfl))).is (by decide +kernel)) (fun hb => by cases hb) (fun _ G6 H6 c6 s6 => ?_)
    have h1 := up ((((s2.trans s3).trans s4).trans s5).trans s6) h1
    have h2 := up ((((s2.trans s3).trans s4).trans s5).trans s6) h2
    exact s_ret c6 (ev_lma (ev_op (ev_fr0 (ev_var rfl h1)) (ev_fr1 (ev_var rfl h2)) (rv_mulW hp.1 hqd (by omega))) (ev_op (ev_fr1 (ev_var rfl h1)) (ev_fr0 (ev_var rfl h2)) (rv_mulW hpd hq.1 (by omega))) (Int.mul_ne_zero (K97.den_ne p) (num_ne hne)) (raw_big (K97.raw_div hp hq) (by omega)) (K97.div_divInt p q).symm) fun v g9 h9 c9 s9 p9 => k v g9 h9 c9.w p9
end
end KW
end
section
set_option Elab.async false
set_option linter.all false
set_option maxRecDepth 100000
set_option maxHeartbeats 2000000
set_option exponentiation.threshold 20000
namespace KW
open PySem PySem.Spec PyProof.Rows L2
open K97 (Sz RowSz at0)
/-- a row as the law keeps it -/
def RFs (r : List Rat) : VP := RL (r.map RFr)
instance {r : List Rat} : Mo (RFs r) := inferInstanceAs (Mo (RL _))
abbrev sLLe : Stmt := top 41
def N_LLe : List Str := ["_law_row", "_law_one", "_law_column", "_law_factor", "_law_k"]
theorem scLLe : FnScope N_LLe ["_law_row", "_law_one", "_law_column"] (defScope sLLe) := ⟨rfl, rfl, rfl, by decide +kernel, rfl, by decide +kernel, by decide +kernel⟩
structure LessIn where
  r : List Rat
  one : List Rat
  c : Nat
  a : Nat
  b : Nat
structure LessPre (x : LessIn) : Prop where
  lt : x.c < x.r.length
  len : x.one.length = x.r.length
  few : x.r.length ≤ 100
  sr : RowSz x.a x.r
  so : RowSz x.b x.one
  fit : x.a + (x.a + x.b) + 1 < 13500
def spLLe : Sp := spF (fun (x : LessIn) vs G => F2 [RFs x.r, RFs x.one, RV (.int (x.c : Int))] vs G ∧ LessPre x) (fun x => RFs (K97.less x.r x.one x.c)) 3
section
variable {P : Program} {w : World} {K : PySem.W.Frag} {mg : Str → Option Value} {base : Heap} {C : Addr} {σ : L2.St} {G0 H0 G H : Hp} {cs : List (Addr × HO)} {ta tb te : TE}
theorem frow_get {r : List Rat} {j : Nat} (h : j < r.length) : (r.map RFr)[j]? = some (RFr (at0 r j)) := by
  rw [List.getElem?_map, List.getElem?_eq_getElem h, K97.at0_lt h]
  rfl
theorem ev_ixF {r : List Rat} {j : Nat} (h1 : EvP ta σ G cs (RFs r)) (h2 : EvP tb σ G cs (RV (.int (j : Int)))) (h : j < r.length) : EvP (tOp (rIxL K) ta tb) σ G cs (RFr (at0 r j)) := ev_op h1 h2 (rv_ixL (frow_get h))
theorem ev_lar {wd : Str} {p q x : Rat} {t0 t1 t2 : TE} (h0 : EvP t0 σ G cs (RV (.str wd))) (h1 : EvP t1 σ G cs (RFr p)) (h2 : EvP t2 σ G cs (RFr q)) (hf : Fit p q) (hw : wd = ("add" : Str) ∨ wd = ("sub" : Str) ∨ wd = ("mul" : Str) ∨ (wd = ("div" : Str) ∧ q ≠ 0)) (e : aop wd p q = x) :
    EvP (tCall spLAr [] E0 (tCons t0 (tCons t1 (tCons t2 tNil)))) σ G cs (RFr x) := by
  subst e
  exact ev_callF (In := _) (Out := fun (x : Str × Rat × Rat) => RFr (aop x.1 x.2.1 x.2.2)) (n := 3) ((wd, p, q) : Str × Rat × Rat) (ea_cons h0 (ea_cons h1 (ea_cons h2 ea_nil))) (F2.length_is rfl) (fun vs G2 s f => ⟨f, hf, hw⟩)
theorem dn_lle (Dd : Df K mg "_law_less" sLLe) (B : Kit P w K mg base C) (L2a : Dn P w K mg base "_law_arithmetic" 2 ["_law_word", "_law_a", "_law_b"] spLAr) : Dn P w K mg base "_law_less" 3 ["_law_row", "_law_one", "_law_column"] spLLe := by
  refine dn_of Dd scLLe (fun _ _ _ _ _ _ us hl => match us, hl with | [_, _, _], _ => rfl) (fun vs H Q E h => h.1) (fun fa cdv A0 outer st H vs Q E hr h => ?_)
  obtain ⟨_, G, ⟨r, one, cc, a, b⟩, sg, ⟨hF, hlt, hlen, hfew, hsr, hso, hfit⟩, k⟩ := h
  obtain ⟨v0, v1, v2, rfl, h0, h1, h2⟩ := three_of hF
  dsimp only at *
  obtain rfl : v2 = .int (cc : Int) := h2
  have nd := scLLe.nd
  refine ⟨_, (pss_cons (ps_set (i := 3) nd rfl (.inr rfl) (pe_ix ix_list (pv 0) (pv 2) (fun _ _ => rfl)))
  (pss_one (ps_ret (pe_lc (own := [("_law_k", 4)]) (tt := tYes) rfl nd (pi_range1 (by rfl) B.range (pa_cons (pe_callB call_len_seq (by rfl) B.len PySem.boot_len (pa_cons (pv 0) pa_nil)) pa_nil)) (blkOk_by (N := N_LLe) (sc := defScope sLLe) (by decide +kernel)) (fun _ _ _ _ _ => (pg_name (i := 4) nd rfl (.inl rfl))) (fun _ _ _ _ _ => pts_nil) (fun _ _ _ _ _ => (pe_dn L2a (hr.mono (by decide)) (by rfl) (pa_cons pe_str (pa_cons (pe_ix (r := rIxL K) ix_list (pv 0) (pv 4) (fun _ _ => rfl)) (pa_cons (pe_dn L2a (hr.mono (by decide)) (by rfl) (pa_cons pe_str (pa_cons (pv 3) (pa_cons (pe_ix (r := rIxL K) ix_list (pv 1) (pv 4) (fun _ _ => rfl)) pa_nil)))) pa_nil))))))))), ?_⟩
  have c : Cel G H G H [] := .start sg
  refine q_set c (P := RFr (at0 r cc)) (ev_ixF (ev_var rfl h0) (ev_var rfl rfl) hlt) fun vf G2 H2 c2 s2 pf => ?_
  refine s_ret (P := RFs (K97.less r one cc)) c2 ?_ fun v g9 h9 c9 s9 p9 => k v g9 h9 c9.w p9
  unfold RFs K97.less
  rw [List.map_map]
  refine ev_lcA (n := r.length) (ew_range (n := r.length) (ea_cons (by
    have := ev_len (K := K) (Rs := r.map RFr) (σ := [some v0, some v1, some (.int (cc : Int)), some vf, none]) (G := G2) (cs := []) (te := tVar 0) (ev_var rfl (up s2 h0))
    rw [List.length_map] at this
    exact this) ea_nil) (by omega)) (by omega) (fun j => RFr (at0 r j - at0 r cc * at0 one j)) fun j x g' hj sg' hY h' s' kk qq => ?_
  obtain rfl : x = .int (j : Int) := hY
  have h0' := up (s2.trans sg') h0
  have h1' := up (s2.trans sg') h1
  have pf' := up sg' pf
  exact qq _ rfl (ev_lar ev_c (ev_ixF (ev_var rfl h0') (ev_var rfl rfl) hj) (ev_lar (x := at0 r cc * at0 one j) ev_c (ev_var rfl pf') (ev_ixF (ev_var rfl h1') (ev_var rfl rfl) (by omega)) (.of (hsr.at cc) (hso.at j) (by omega)) (.inr (.inr (.inl rfl))) (by unfold aop; rw [if_neg (by decide +kernel), if_neg (by decide +kernel), if_pos rfl])) (.of (hsr.at j) ((hsr.at cc).mul (hso.at j)) (by omega)) (.inr (.inl rfl)) (by unfold aop; rw [if_neg (by decide +kernel), if_pos rfl]))
end
end KW
end
section
set_option Elab.async false
set_option linter.all false
set_option maxRecDepth 100000
set_option maxHeartbeats 2000000
namespace KW
open PySem PySem.Spec PyProof.Rows L2
/-! ### == and != of rows of fractions -/
def fdat (q : Rat) : PyData := .tuple [.int q.num, .int (q.den : Int)]
theorem fdat_eq (p q : Rat) : PyData.eqv (fdat p) (fdat q) = decide (p = q) := by
  unfold fdat
  simp only [PyData.eqv, PyData.eqvAll, Bool.and_true]
  by_cases h : p = q
  · subst h; simp
  · rw [decide_eq_false h]
    by_cases h1 : p.num = q.num
    · have : p.den ≠ q.den := fun e => h (Rat.ext h1 e)
      rw [Bool.and_eq_false_iff]
      right
      rw [beq_eq_false_iff_ne]
      omega
    · rw [Bool.and_eq_false_iff]
      left
      rw [beq_eq_false_iff_ne]
      exact h1
theorem fdat_all : ∀ (r s : List Rat), PyData.eqvAll (r.map fdat) (s.map fdat) = decide (r = s)
  | [], [] => by simp [PyData.eqvAll]
  | p :: r, q :: s => by
    rw [List.map_cons, List.map_cons, PyData.eqvAll, fdat_eq, fdat_all r s]
    simp
  | [], q :: s => by simp [PyData.eqvAll]
  | p :: r, [] => by simp [PyData.eqvAll]
theorem lay_fr : ∀ r : List Rat, PyData.canLayAll0 (r.map fdat) = true
  | [] => by simp [PyData.canLayAll0]
  | q :: r => by
    rw [List.map_cons, PyData.canLayAll0, lay_fr r]
    simp [fdat, PyData.canLay0, PyData.canLayAll0]
theorem deep_fr : ∀ r : List Rat, PyData.depthAll (r.map fdat) ≤ 1
  | [] => by simp [PyData.depthAll]
  | q :: r => by
    rw [List.map_cons, PyData.depthAll]
    have := deep_fr r
    have h2 : PyData.depth (fdat q) = 1 := by simp [fdat, PyData.depth, PyData.depthAll]
    omega
theorem shp_fr (r : List Rat) : SeqAt.shaped (.list (r.map fdat)) = true := by
  unfold SeqAt.shaped
  have h1 := lay_fr r
  have h2 := deep_fr r
  rw [PyData.canLay0, h1, PyData.depth]
  simp
  omega
theorem shp_int (l : List Nat) : SeqAt.shaped (.list (l.map fun i : Nat => PyData.int (i : Int))) = true := by
  have h1 : PyData.canLayAll0 (l.map fun i : Nat => PyData.int (i : Int)) = true := by
    induction l with
    | nil => simp [PyData.canLayAll0]
    | cons a r ih => rw [List.map_cons, PyData.canLayAll0, ih]; simp [PyData.canLay0]
  have h2 : PyData.depthAll (l.map fun i : Nat => PyData.int (i : Int)) ≤ 1 := by
    induction l with
    | nil => simp [PyData.depthAll]
    | cons a r ih =>
      have ih := ih (by
        rw [List.map_cons, PyData.canLayAll0] at h1
        exact (Bool.and_eq_true_iff.mp h1).2)
      rw [List.map_cons, PyData.depthAll]
      have h3 : PyData.depth (PyData.int (a : Int)) = 0 := by simp [PyData.depth]
      omega
  unfold SeqAt.shaped
  rw [PyData.canLay0, h1, PyData.depth]
  simp
  omega
theorem hu64 {A : Around} {k : Nat} (hr : Room k A) : A.units + 64 < cLine := by have := hr.un; omega
section
variable {K : PySem.W.Frag} {σ : L2.St} {G H : Hp} {cs : List (Addr × HO)}
theorem dp_fr {q : Rat} {v : V} (h : RFr q v G) : Dp K G v (fdat q) := by
  obtain ⟨a, us, rfl, ha, hf⟩ := h
  obtain ⟨x, y, rfl, h1, h2⟩ := two_of hf
  obtain rfl : x = _ := h1
  obtain rfl : y = _ := h2
  exact .tup (.inl (.inl ha)) (.cons (.int _) (.cons (.int _) .nil))
theorem dp_frs : ∀ {r : List Rat} {vs : List V}, F2 (r.map RFr) vs G → DpAll K G vs (r.map fdat)
  | [], [], _ => .nil
  | _ :: _, [], h => h.elim
  | [], _ :: _, h => h.elim
  | q :: r, v :: vs, h => .cons (dp_fr h.1) (dp_frs h.2)
theorem dp_row {r : List Rat} {v : V} (h : RFs r v G) : Dp K G v (.list (r.map fdat)) := by
  obtain ⟨a, vs, rfl, ha, hf⟩ := h
  exact .lst (.inl (.inl ha)) (dp_frs hf)
theorem rv_eqF {r s : List Rat} : RvP cs (rEqD K) (RFs r) (RFs s) (RV (.bl (decide (r = s)))) := fun x y G p1 p2 H sg hc Q q =>
  ⟨_, _, dp_row (up sg p1), dp_row (up sg p2), shp_fr _, shp_fr _, q _ G H (.refl sg) (by
    show V.bl (PyData.eqvAll (r.map fdat) (s.map fdat)) = _
    rw [fdat_all])⟩
theorem rv_neF {r s : List Rat} : RvP cs (rNeD K) (RFs r) (RFs s) (RV (.bl (!decide (r = s)))) := fun x y G p1 p2 H sg hc Q q =>
  ⟨_, _, dp_row (up sg p1), dp_row (up sg p2), shp_fr _, shp_fr _, q _ G H (.refl sg) (by
    show V.bl (!PyData.eqvAll (r.map fdat) (s.map fdat)) = _
    rw [fdat_all])⟩
theorem dp_ints : ∀ {l : List Nat} {vs : List V}, F2 (l.map fun i : Nat => RV (.int (i : Int))) vs G → DpAll K G vs (l.map fun i : Nat => PyData.int (i : Int))
  | [], [], _ => .nil
  | _ :: _, [], h => h.elim
  | [], _ :: _, h => h.elim
  | i :: r, v :: vs, h => by
    obtain rfl : v = .int (i : Int) := h.1
    exact .cons (.int _) (dp_ints h.2)
theorem rv_eqNil {l : List Nat} : RvP cs (rEqD K) (RL (l.map fun i : Nat => RV (.int (i : Int)))) (RL []) (RV (.bl l.isEmpty)) := fun x y G p1 p2 H sg hc Q q => by
  obtain ⟨a, vs, rfl, ha, hf⟩ := p1
  obtain ⟨b, ws, rfl, hb, hg⟩ := p2
  obtain rfl := hg.inv_nil
  refine ⟨.list (l.map fun i : Nat => PyData.int (i : Int)), .list [], ?_, ?_, shp_int l, rfl, q _ G H (.refl sg) ?_⟩
  · exact .lst (.inl (.inl (sg _ _ ha))) (dp_ints (hf.mono (moA_map (f := fun i : Nat => RV (.int (i : Int)))).mo sg))
  · exact .lst (.inl (.inl (sg _ _ hb))) .nil
  · cases l <;> simp [PyData.eqv, PyData.eqvAll] <;> rfl
end
end KW
end
section
set_option Elab.async false
set_option linter.all false
set_option maxRecDepth 100000
set_option maxHeartbeats 2000000
set_option exponentiation.threshold 20000
namespace KW
open PySem PySem.Spec PyProof.Rows L2
open K97 (Sz RowSz at0 Sq)
/-- rows of fractions as the law keeps them -/
def RFss (L : List (List Rat)) : VP := RL (L.map RFs)
instance {L : List (List Rat)} : Mo (RFss L) := inferInstanceAs (Mo (RL _))
abbrev sLSo : Stmt := top 40
def N_LSo : List Str := ["_law_rows", "_law_constants", "_law_left", "_law_many", "_law_done", "_law_column", "_law_picked", "_law_one", "_law_k", "_law_x", "_law_row"]
theorem scLSo : FnScope N_LSo ["_law_rows", "_law_constants"] (defScope sLSo) := ⟨rfl, rfl, rfl, by decide +kernel, rfl, by decide +kernel, by decide +kernel⟩
def asgScope (st : Stmt) : Scope := match defBody st with
  | .Assign _ e _ :: _ => compScope e
  | _ => { kind := .function, names := [], isGenerator := false, isCoroutine := false }
structure LSoIn where
  A : List (List Rat)
  b : List Rat
  n : Nat
structure LSoPre (x : LSoIn) : Prop where
  sq : Sq x.A x.n
  lb : x.b.length = x.n
  few : x.n ≤ 5
  sA : ∀ r ∈ x.A, RowSz 2 r
  sb : RowSz 2 x.b
def ROpt (o : Option (List Rat)) : VP := match o with
  | none => RV .non
  | some xs => RFs xs
def spLSo (C : Addr) : Sp := spF (fun (x : LSoIn) vs G => F2 [RMat C x.A, RRow C x.b] vs G ∧ LSoPre x) (fun x => ROpt (K97.lawSol x.A x.b)) 2
section
variable {P : Program} {w : World} {K : PySem.W.Frag} {mg : Str → Option Value} {base : Heap} {C : Addr} {σ : L2.St} {G0 H0 G H : Hp} {cs : List (Addr × HO)} {ta tb te : TE}
theorem ev_lpr {q : Rat} {t : TE} (h : EvP t σ G cs (RQ C q)) : EvP (tCall (spLPr C) [] E0 (tCons t tNil)) σ G cs (RFr q) :=
  ev_callF (In := _) (Out := fun (x : Rat) => RFr x) (n := 1) q (ea_cons h ea_nil) (F2.length_is rfl) (fun vs G2 s f => f)
/-- sizes along the law's elimination -/
def lz : Nat → Nat
  | 0 => 2
  | i + 1 => 4 * lz i + 1
theorem fss_get {L : List (List Rat)} {i : Nat} (h : i < L.length) : (L.map RFs)[i]? = some (RFs (K97.row L i)) := by
  rw [List.getElem?_map, List.getElem?_eq_getElem h]
  unfold K97.row
  rw [List.getD_eq_getElem?_getD, List.getElem?_eq_getElem h]
  rfl
theorem ev_ixFs {L : List (List Rat)} {j : Nat} (h1 : EvP ta σ G cs (RFss L)) (h2 : EvP tb σ G cs (RV (.int (j : Int)))) (h : j < L.length) : EvP (tOp (rIxL K) ta tb) σ G cs (RFs (K97.row L j)) := ev_op h1 h2 (rv_ixL (fss_get h))
theorem ev_lenM {A : List (List Rat)} (h : EvP ta σ G cs (RMat C A)) : EvP (tCB (rLen K) (tCons ta tNil)) σ G cs (RV (.int (A.length : Int))) := by
  have := ev_len (K := K) (Rs := A.map (RRow C)) h
  rw [List.length_map] at this
  exact this
theorem ev_lenFs {L : List (List Rat)} (h : EvP ta σ G cs (RFss L)) : EvP (tCB (rLen K) (tCons ta tNil)) σ G cs (RV (.int (L.length : Int))) := by
  have := ev_len (K := K) (Rs := L.map RFs) h
  rw [List.length_map] at this
  exact this
theorem dn_lso (Dd : Df K mg "_law_solution" sLSo) (B : Kit P w K mg base C) (L0 : Dn P w K mg base "_law_pair" 1 ["_law_value"] (spLPr C)) (L2a : Dn P w K mg base "_law_arithmetic" 2 ["_law_word", "_law_a", "_law_b"] spLAr) (L3 : Dn P w K mg base "_law_less" 3 ["_law_row", "_law_one", "_law_column"] spLLe) : Dn P w K mg base "_law_solution" 4 ["_law_rows", "_law_constants"] (spLSo C) := by
  refine dn_of Dd scLSo (fun _ _ _ _ _ _ us hl => match us, hl with | [_, _], _ => rfl) (fun vs H Q E h => h.1) (fun fa cdv A0 outer st H vs Q E hr h => ?_)
  obtain ⟨_, G, ⟨A, b, n⟩, sg, ⟨hF, sq, lb, few, sA, sb⟩, k⟩ := h
  obtain ⟨v0, v1, rfl, h0, h1⟩ := two_of hF
  dsimp only at *
  have nd := scLSo.nd
  refine ⟨_, (pss_cons (ps_set (i := 2) nd rfl (.inr rfl) (pe_lc (own := [("_law_k", 8)]) (tt := tYes) rfl nd (pi_range1 (by rfl) B.range (pa_cons (pe_callB call_len_seq (by rfl) B.len PySem.boot_len (pa_cons (pv 0) pa_nil)) pa_nil)) (blkOk_by (N := N_LSo) (sc := defScope sLSo) (by decide +kernel)) (fun _ _ _ _ _ => (pg_name (i := 8) nd rfl (.inl rfl))) (fun _ _ _ _ _ => pts_nil) (fun _ _ _ _ _ => (pe_op op_cat (pe_lc (wi := iList K (tOp (rIxL K) (tVar 0) (tVar 8))) (own := [("_law_x", 9)]) (tt := tYes) rfl nd (pi_list (pe_ix (r := rIxL K) ix_list (pv 0) (pv 8) (fun _ _ => rfl))) (blkOk_by (N := N_LSo) (sc := nestS (asgScope sLSo) (defScope sLSo)) (by decide +kernel)) (fun _ _ _ _ _ => (pg_name (i := 9) nd rfl (.inl rfl))) (fun _ _ _ _ _ => pts_nil) (fun _ _ _ _ _ => (pe_dn L0 (hr.mono (by decide)) (by rfl) (pa_cons (pv 9) pa_nil)))) (pe_lst (pa_cons (pe_dn L0 (hr.mono (by decide)) (by rfl) (pa_cons (pe_ix (r := rIxL K) ix_list (pv 1) (pv 8) (fun _ _ => rfl)) pa_nil)) pa_nil))))))
  (pss_cons (ps_set (i := 3) nd rfl (.inr rfl) (pe_callB call_len_seq (by rfl) B.len PySem.boot_len (pa_cons (pv 0) pa_nil)))
  (pss_cons (ps_set (i := 4) nd rfl (.inl rfl) (pe_lst pa_nil))
  (pss_cons (ps_for PassesOwn.never rfl (pi_range1 (by rfl) B.range (pa_cons (pv 3) pa_nil)) (pg_name (i := 5) nd rfl (.inr rfl))
  (pss_cons (ps_setLc (i := 6) (own := [("_law_k", 8)]) rfl nd rfl rfl (sw_true rfl rfl rfl (by decide +kernel)) (pi_range1 (by rfl) B.range (pa_cons (pe_callB call_len_seq (by rfl) B.len PySem.boot_len (pa_cons (pv 2) pa_nil)) pa_nil)) (blkOk_by (N := N_LSo) (sc := defScope sLSo) (by decide +kernel)) (fun _ _ _ _ _ => (pg_name (i := 8) nd rfl (.inl rfl))) (fun _ _ _ _ _ => (pts_one (pt_cmpR op_ne (pe_ix (r := rIxT K) ix_tup (pe_ix (r := rIxL K) ix_list (pe_ix (r := rIxL K) ix_list (pv 2) (pv 8) (fun _ _ => rfl)) (pv 5) (fun _ _ => rfl)) pe_int (fun _ _ => rfl)) pe_int (nomark _)))) (fun _ _ _ _ _ => (pv 8)))
    (pss_cons (ps_if (pt_cmpR (op_eqD (hu64 hr)) (pv 6) (pe_lst pa_nil) (nomark _)) (pss_one (ps_ret pe_non)) pss_nil)
    (pss_cons (ps_set (i := 7) nd rfl (.inr rfl) (pe_ix ix_list (pv 2) (pe_ix ix_list (pv 6) pe_int (fun _ _ => rfl)) (fun _ _ => rfl)))
    (pss_cons (ps_set (i := 2) nd rfl (.inr rfl) (pe_op op_cat (pe_slice sl_list (pv 2) po_none (po_some (pe_ix ix_list (pv 6) pe_int (fun _ _ => rfl)))) (pe_slice sl_list (pv 2) (po_some (pe_op op_add (pe_ix ix_list (pv 6) pe_int (fun _ _ => rfl)) pe_int)) po_none)))
    (pss_cons (ps_set (i := 7) nd rfl (.inr rfl) (pe_lc (own := [("_law_x", 9)]) (tt := tYes) rfl nd (pi_list (pv 7)) (blkOk_by (N := N_LSo) (sc := defScope sLSo) (by decide +kernel)) (fun _ _ _ _ _ => (pg_name (i := 9) nd rfl (.inl rfl))) (fun _ _ _ _ _ => pts_nil) (fun _ _ _ _ _ => (pe_dn L2a (hr.mono (by decide)) (by rfl) (pa_cons pe_str (pa_cons (pv 9) (pa_cons (pe_ix (r := rIxL K) ix_list (pv 7) (pv 5) (fun _ _ => rfl)) pa_nil)))))))
    (pss_cons (ps_set (i := 2) nd rfl (.inr rfl) (pe_lc (own := [("_law_row", 10)]) (tt := tYes) rfl nd (pi_list (pv 2)) (blkOk_by (N := N_LSo) (sc := defScope sLSo) (by decide +kernel)) (fun _ _ _ _ _ => (pg_name (i := 10) nd rfl (.inl rfl))) (fun _ _ _ _ _ => pts_nil) (fun _ _ _ _ _ => (pe_dn L3 (hr.mono (by decide)) (by rfl) (pa_cons (pv 10) (pa_cons (pv 7) (pa_cons (pv 5) pa_nil)))))))
    (pss_one (ps_set (i := 4) nd rfl (.inl rfl) (pe_op op_cat (pe_lc (own := [("_law_row", 10)]) (tt := tYes) rfl nd (pi_list (pv 4)) (blkOk_by (N := N_LSo) (sc := defScope sLSo) (by decide +kernel)) (fun _ _ _ _ _ => (pg_name (i := 10) nd rfl (.inl rfl))) (fun _ _ _ _ _ => pts_nil) (fun _ _ _ _ _ => (pe_dn L3 (hr.mono (by decide)) (by rfl) (pa_cons (pv 10) (pa_cons (pv 7) (pa_cons (pv 5) pa_nil)))))) (pe_lst (pa_cons (pv 7) pa_nil))))))))))))
  (pss_one (ps_ret (pe_lc (own := [("_law_row", 10)]) (tt := tYes) rfl nd (pi_list (pv 4)) (blkOk_by (N := N_LSo) (sc := defScope sLSo) (by decide +kernel)) (fun _ _ _ _ _ => (pg_name (i := 10) nd rfl (.inl rfl))) (fun _ _ _ _ _ => pts_nil) (fun _ _ _ _ _ => (pe_ix (r := rIxL K) ix_list (pv 10) (pv 3) (fun _ _ => rfl)))))))))), ?_⟩
  have c : Cel G H G H [] := .start sg
  have hAl := sq.len
  refine q_set c (P := RFss (K97.aug A b)) ?_ fun vl G2 H2 c2 s2 pl => ?_
  · unfold RFss K97.aug
    rw [List.map_map]
    refine ev_lcA (n := A.length) (ew_range (n := A.length) (ea_cons (ev_lenM (ev_var rfl h0)) ea_nil) (by omega)) (by omega) (fun i => RFs (K97.row A i ++ [at0 b i])) fun i x g' hi sg' hY h' s' kk qq => ?_
    obtain rfl : x = .int (i : Int) := hY
    have h0' := up sg' h0
    have h1' := up sg' h1
    have hrl : (K97.row A i).length = n := by
      unfold K97.row
      rw [List.getD_eq_getElem?_getD, List.getElem?_eq_getElem hi]
      exact sq.row _ (List.getElem_mem hi)
    refine qq _ rfl ?_
    unfold RFs
    rw [List.map_append]
    refine ev_op (P1 := RL ((K97.row A i).map RFr)) (P2 := RL ([at0 b i].map RFr)) ?_ (ev_lst (Rs := [RFr (at0 b i)]) (ea_cons (ev_lpr (ev_ixR (ev_var rfl h1') (ev_var rfl rfl) (by omega))) ea_nil)) (rv_cat (by rw [List.length_map, List.length_map, hrl]; simp; omega))
    rw [← range_getD (K97.row A i) 0 RFr]
    refine ev_lcA (n := (K97.row A i).length) (ew_listN (Rs := (K97.row A i).map (RQ C)) (ev_op (P1 := RMat C A) (ev_var rfl h0') (ev_var rfl rfl) (rv_ixL (mat_get hi))) (by rw [List.length_map])) (by omega) (fun j => RFr ((K97.row A i).getD j 0)) fun j x g2 hj sg2 hY h2' s2' kk2 qq2 => ?_
    have hY := hY.map (List.getElem?_eq_getElem hj)
    have gd : (K97.row A i).getD j 0 = (K97.row A i)[j] := getD_get hj
    rw [← gd] at hY
    exact qq2 _ rfl (ev_lpr (ev_var rfl hY))
  refine q_set c2 (P := RV (.int (n : Int))) ((ev_lenM (ev_var rfl (up s2 h0))).is (by rw [hAl])) fun vn G3 H3 c3 s3 p3 => ?_
  obtain rfl : vn = .int (n : Int) := p3
  refine q_set c3 (P := RFss []) (ev_lst (Rs := []) ea_nil) fun vd G4 H4 c4 s4 pd => ?_
  refine q_for (cs' := []) c4 (ew_range (n := n) (ea_cons (ev_var rfl rfl) ea_nil) (by omega))
    (fun i s' g h => ∃ o5 o6 o7 vl vd L D, s' = [some v0, some v1, some vl, some (.int (n : Int)), some vd, o5, o6, o7, none, none, none] ∧ Cel G H g h [] ∧ RFss L vl g ∧ RFss D vd g ∧ (∀ r ∈ L, r.length = n + 1 ∧ RowSz (lz i) r) ∧ (∀ r ∈ D, r.length = n + 1 ∧ RowSz (lz i) r) ∧ L.length + D.length = n ∧
      K97.lawLoop ((List.range n).drop i) L D = K97.lawLoop (List.range A.length) (K97.aug A b) [])
    (fun i s' g h ⟨_, _, _, _, _, _, _, _, cc, _⟩ => ⟨cc.s, .nil⟩) (fun G6 H6 c6 s6 => ⟨none, none, none, vl, vd, _, [], rfl, c6, up ((s3.trans s4).trans s6) pl, up s6 pd, fun r hr => ?_, fun r hr => by simp at hr, ?_, by rw [hAl]; rfl⟩) ?_ ?_
  · obtain ⟨i, hi, rfl⟩ := K97.mem_aug.mp hr
    have hrm : K97.row A i ∈ A := by
      unfold K97.row
      rw [List.getD_eq_getElem?_getD, List.getElem?_eq_getElem hi]
      exact List.getElem_mem hi
    refine ⟨by rw [List.length_append, sq.row _ hrm]; rfl, fun q hq => ?_⟩
    rcases List.mem_append.mp hq with hq | hq
    · exact sA _ hrm q hq
    · rw [List.mem_singleton.mp hq]
      exact sb.at i
  · unfold K97.aug
    rw [List.length_map, List.length_range, hAl]; rfl
  · rintro i s' g h x hi sg' ⟨o5, o6, o7, vl, vd, L, D, rfl, cc, pl, pd, hL, hD, hLD, hloop⟩ g2 h2 w2 hY
    obtain rfl : x = .int (i : Int) := hY
    have cc2 := cc.go w2
    have edrop : (List.range n).drop i = i :: (List.range n).drop (i + 1) := by
      rw [List.drop_eq_getElem_cons (by rw [List.length_range]; exact hi), List.getElem_range]
    rw [edrop] at hloop
    have hloop : (match K97.lawStep i L D with
      | none => none
      | some (L', D') => K97.lawLoop ((List.range n).drop (i + 1)) L' D') = K97.lawLoop (List.range A.length) (K97.aug A b) [] := hloop
    have hrow : ∀ j, j < L.length → (K97.row L j).length = n + 1 ∧ RowSz (lz i) (K97.row L j) := fun j hj => by
      unfold K97.row
      rw [List.getD_eq_getElem?_getD, List.getElem?_eq_getElem hj]
      exact hL _ (List.getElem_mem hj)
    have pl := up w2.g pl
    have pd := up w2.g pd
    refine q_set cc2 (P := RL ((K97.picks L i).map fun k : Nat => RV (.int (k : Int)))) ?_ fun vp g3 h3 c3' s3' pp => ?_
    · unfold K97.picks
      refine ev_lc (n := L.length) (ew_range (n := L.length) (ea_cons (ev_lenFs (ev_var rfl pl)) ea_nil) (by omega)) (by omega) (fun k => decide (K97.ent L k i ≠ 0)) (fun k => RV (.int (k : Int))) fun j x g' hj sg2 hY h' s' kk qq => ?_
      obtain rfl : x = .int (j : Int) := hY
      refine qq _ rfl ((et_test (ev_op (ev_fr0 (ev_ixF (ev_ixFs (ev_var rfl (up sg2 pl)) (ev_var rfl rfl) hj) (ev_var rfl rfl) (by rw [(hrow j hj).1]; omega))) ev_c (rv_ne rfl))).is ?_) fun _ => ev_var rfl rfl
      show (!decide (V.int (at0 (K97.row L j) i).num = V.int 0)) = decide (at0 (K97.row L j) i ≠ 0)
      by_cases e : at0 (K97.row L j) i = 0
      · rw [e]; rfl
      · rw [decide_eq_true (p := at0 (K97.row L j) i ≠ 0) e, decide_eq_false (p := V.int (at0 (K97.row L j) i).num = V.int 0) fun z => num_ne e (V.int.inj z)]
        rfl
    refine q_if c3' (b := (K97.picks L i).isEmpty) (et_test (ev_op (ev_var rfl pp) (ev_lst (Rs := []) ea_nil) rv_eqNil)) (fun hb g4 h4 c4' s4' => ?_) (fun hb g4 h4 c4' s4' => ?_)
    · have hp : K97.picks L i = [] := List.isEmpty_iff.mp hb
      have hst : K97.lawStep i L D = none := by unfold K97.lawStep; rw [hp]
      rw [hst] at hloop
      refine s_ret (P := RV .non) c4' ev_c fun v g9 h9 c9 s9 p9 => k v g9 h9 c9.w ?_
      unfold K97.lawSol
      rw [← hloop]
      exact p9
    · obtain ⟨p, ps, hp⟩ : ∃ p ps, K97.picks L i = p :: ps := by
        cases e : K97.picks L i with
        | nil => rw [e] at hb; cases hb
        | cons p ps => exact ⟨p, ps, rfl⟩
      obtain ⟨hpl, hpe⟩ := K97.picks_cons hp
      rw [hp] at pp
      have hst : K97.lawStep i L D = some ((L.eraseIdx p).map (fun r => K97.less r (K97.lead (K97.row L p) i) i), D.map (fun r => K97.less r (K97.lead (K97.row L p) i) i) ++ [K97.lead (K97.row L p) i]) := by unfold K97.lawStep; rw [hp]
      rw [hst] at hloop
      have hloop : K97.lawLoop ((List.range n).drop (i + 1)) ((L.eraseIdx p).map (fun r => K97.less r (K97.lead (K97.row L p) i) i)) (D.map (fun r => K97.less r (K97.lead (K97.row L p) i) i) ++ [K97.lead (K97.row L p) i]) = _ := hloop
      have s34 := s3'.trans s4'
      have pl := up s34 pl
      have pd := up s34 pd
      have pp := up s4' pp
      obtain ⟨hone1, hone2⟩ := hrow p hpl
      generalize hone : K97.row L p = one at *
      have hpk : ∀ {G' : Hp} {σ' : L2.St}, L2.Same g4 G' → σ'[6]? = some (some vp) → EvP (tOp (rIxL K) (tVar 6) (tC (.int 0))) σ' G' [] (RV (.int (p : Int))) := fun e h => ev_op (P1 := RL ((p :: ps).map fun k : Nat => RV (.int (k : Int)))) (P2 := RV (.int ((0 : Nat) : Int))) (ev_var h (up e pp)) ev_c (rv_ixL rfl)
      unfold tNext
      dsimp only
      refine q_set c4' (P := RFs one) ?_ fun vo g5 h5 c5 s5 po => ?_
      · rw [← hone]
        refine ev_ixFs (L := L) (j := p) ?_ ?_ hpl
        · exact ev_var rfl pl
        · exact hpk (.refl _) rfl
      have pl := up s5 pl
      refine q_set c5 (P := RFss (L.eraseIdx p)) ?_ fun vl2 g6 h6 c6 s6 pl2 => ?_
      · unfold RFss
        rw [List.eraseIdx_eq_take_drop_succ, List.map_append, List.map_take, List.map_drop]
        refine ev_op (P1 := RL ((L.map RFs).take p)) (P2 := RL ((L.map RFs).drop (p + 1))) (m1 := by rw [← List.map_take]; infer_instance) (m2 := by rw [← List.map_drop]; infer_instance) (ev_till (m := by rw [← List.map_take]; exact moA_map) (ev_var rfl pl) (hpk (σ' := [some v0, some v1, some vl, some (.int (n : Int)), some vd, some (.int (i : Int)), some vp, some vo, none, none, none]) s5 rfl) (by rw [List.length_map]; omega)) (ev_from (m := by rw [← List.map_drop]; exact moA_map) (ev_var rfl pl) ((ev_add (hpk (σ' := [some v0, some v1, some vl, some (.int (n : Int)), some vd, some (.int (i : Int)), some vp, some vo, none, none, none]) s5 rfl) ev_c).is (congrArg V.int (by omega))) (by rw [List.length_map]; omega)) (rv_cat (m1 := by rw [← List.map_take]; exact moA_map) (m2 := by rw [← List.map_drop]; exact moA_map) (by rw [List.length_take, List.length_drop, List.length_map]; omega))
      have hls := K97.lead_len one i
      have hne : at0 one i ≠ 0 := by rw [← hone]; exact hpe
      have hz : lz i ≤ 597 := by
        have : i = 0 ∨ i = 1 ∨ i = 2 ∨ i = 3 ∨ i = 4 := by omega
        rcases this with rfl | rfl | rfl | rfl | rfl <;> decide
      have hos : RowSz (2 * lz i) (K97.lead one i) := fun q hq => by
        obtain ⟨x, hx, rfl⟩ := List.mem_map.mp hq
        exact ((hone2 x hx).div (hone2.at i)).mono (by omega)
      have hlsz : ∀ r, r.length = n + 1 → RowSz (lz i) r → (K97.less r (K97.lead one i) i).length = n + 1 ∧ RowSz (lz (i + 1)) (K97.less r (K97.lead one i) i) := fun r h1 h2 => by
        refine ⟨by rw [K97.less_len]; exact h1, fun q hq => ?_⟩
        obtain ⟨j, hj, rfl⟩ := List.mem_map.mp hq
        exact ((h2.at j).sub ((h2.at i).mul (hos.at j))).mono (by show _ ≤ 4 * lz i + 1; omega)
      have po := up s6 po
      refine q_set c6 (P := RFs (K97.lead one i)) ?_ fun vo2 g7 h7 c7 s7 po2 => ?_
      · unfold RFs K97.lead
        rw [List.map_map, ← range_getD one 0 (RFr ∘ fun x => x / at0 one i)]
        refine ev_lcA (n := one.length) (ew_listN (Rs := one.map RFr) (ev_var rfl po) (by rw [List.length_map])) (by omega) (fun j => RFr (one.getD j 0 / at0 one i)) fun j x g' hj sg2 hY h' s' kk qq => ?_
        have hY := hY.map (List.getElem?_eq_getElem hj)
        have gd : one.getD j 0 = one[j] := getD_get hj
        rw [← gd] at hY
        exact qq _ rfl (ev_lar ev_c (ev_var rfl hY) (ev_ixF (ev_var rfl (up sg2 po)) (ev_var rfl rfl) (by omega)) (.of (hone2.at j) (hone2.at i) (by omega)) (.inr (.inr (.inr ⟨rfl, hne⟩))) (by unfold aop; rw [if_neg (by decide +kernel), if_neg (by decide +kernel), if_neg (by decide +kernel)]))
      refine q_set c7 (P := RFss ((L.eraseIdx p).map fun r => K97.less r (K97.lead one i) i)) ?_ fun vl3 g8 h8 c8 s8 pl3 => ?_
      · have pl2 := up s7 pl2
        have hLe : ∀ r ∈ L.eraseIdx p, r.length = n + 1 ∧ RowSz (lz i) r := fun r hr => hL r (List.mem_of_mem_eraseIdx hr)
        have hLl : (L.eraseIdx p).length ≤ 100 := by
          have := List.length_eraseIdx_le L p
          omega
        generalize L.eraseIdx p = M at pl2 hLe hLl
        unfold RFss
        rw [List.map_map, ← range_getD M [] (RFs ∘ fun r => K97.less r (K97.lead one i) i)]
        refine ev_lcA (n := M.length) (ew_listN (Rs := M.map RFs) (ev_var rfl pl2) (by rw [List.length_map])) (by omega) (fun j => RFs (K97.less (M.getD j []) (K97.lead one i) i)) fun j x g' hj sg2 hY h' s' kk qq => ?_
        have hY := hY.map (List.getElem?_eq_getElem hj)
        have gd : M.getD j [] = M[j] := getD_get hj
        obtain ⟨z1, z2⟩ := hLe _ (List.getElem_mem hj)
        rw [← gd] at hY z1 z2
        exact qq _ rfl (ev_callF (In := _) (Out := fun (x : LessIn) => RFs (K97.less x.r x.one x.c)) (n := 3) (⟨M.getD j [], K97.lead one i, i, lz i, 2 * lz i⟩ : LessIn) (ea_cons (P1 := RFs (M.getD j [])) (ev_var rfl hY) (ea_cons (P1 := RFs (K97.lead one i)) (ev_var rfl (up sg2 po2)) (ea_cons (P1 := RV (.int (i : Int))) (ev_var rfl rfl) ea_nil))) (F2.length_is rfl) (fun vs G2 s f => ⟨f, ⟨by show i < (M.getD j []).length; omega, by show (K97.lead one i).length = (M.getD j []).length; omega, by show (M.getD j []).length ≤ 100; omega, z2, hos, by show lz i + (lz i + 2 * lz i) + 1 < 13500; omega⟩⟩))
      refine s_set c8 (P := RFss (D.map (fun r => K97.less r (K97.lead one i) i) ++ [K97.lead one i])) ?_ fun vd3 g9 h9 c9 s9 pd3 => ?_
      · have pd := up (((s5.trans s6).trans s7).trans s8) pd
        have po2 := up s8 po2
        have hDl : D.length ≤ 100 := by omega
        unfold RFss
        rw [List.map_append, List.map_map]
        refine ev_op (P1 := RL (D.map fun r => RFs (K97.less r (K97.lead one i) i))) (P2 := RL ([K97.lead one i].map RFs)) ?_ (ev_lst (Rs := [RFs (K97.lead one i)]) (ea_cons (ev_var rfl po2) ea_nil)) (rv_cat (by rw [List.length_map, List.length_map]; simp; omega))
        rw [← range_getD D [] (fun r => RFs (K97.less r (K97.lead one i) i))]
        refine ev_lcA (n := D.length) (ew_listN (Rs := D.map RFs) (ev_var rfl pd) (by rw [List.length_map])) (by omega) (fun j => RFs (K97.less (D.getD j []) (K97.lead one i) i)) fun j x g' hj sg2 hY h' s' kk qq => ?_
        have hY := hY.map (List.getElem?_eq_getElem hj)
        have gd : D.getD j [] = D[j] := getD_get hj
        obtain ⟨z1, z2⟩ := hD _ (List.getElem_mem hj)
        rw [← gd] at hY z1 z2
        exact qq _ rfl (ev_callF (In := _) (Out := fun (x : LessIn) => RFs (K97.less x.r x.one x.c)) (n := 3) (⟨D.getD j [], K97.lead one i, i, lz i, 2 * lz i⟩ : LessIn) (ea_cons (P1 := RFs (D.getD j [])) (ev_var rfl hY) (ea_cons (P1 := RFs (K97.lead one i)) (ev_var rfl (up sg2 po2)) (ea_cons (P1 := RV (.int (i : Int))) (ev_var rfl rfl) ea_nil))) (F2.length_is rfl) (fun vs G2 s f => ⟨f, ⟨by show i < (D.getD j []).length; omega, by show (K97.lead one i).length = (D.getD j []).length; omega, by show (D.getD j []).length ≤ 100; omega, z2, hos, by show lz i + (lz i + 2 * lz i) + 1 < 13500; omega⟩⟩))
      · refine ⟨g9, (((((w2.g.trans s34).trans s5).trans s6).trans s7).trans s8).trans s9, _, _, _, _, _, _, _, rfl, c9, up s9 pl3, pd3, fun r hr => ?_, fun r hr => ?_, ?_, hloop⟩
        · obtain ⟨r0, hr0, rfl⟩ := List.mem_map.mp hr
          exact hlsz r0 (hL r0 (List.mem_of_mem_eraseIdx hr0)).1 (hL r0 (List.mem_of_mem_eraseIdx hr0)).2
        · rcases List.mem_append.mp hr with hr | hr
          · obtain ⟨r0, hr0, rfl⟩ := List.mem_map.mp hr
            exact hlsz r0 (hD r0 hr0).1 (hD r0 hr0).2
          · rw [List.mem_singleton.mp hr]
            exact ⟨by omega, hos.mono (by show _ ≤ 4 * lz i + 1; omega)⟩
        · have := List.length_eraseIdx_of_lt hpl
          rw [List.length_append, List.length_map, List.length_map, this]
          simp
          omega
  · rintro s' g h sg' ⟨o5, o6, o7, vl, vd, L, D, rfl, cc, pl, pd, hL, hD, hLD, hloop⟩
    rw [List.drop_eq_nil_of_le (by rw [List.length_range]; exact Nat.le_refl _)] at hloop
    have hloop : some D = K97.lawLoop (List.range A.length) (K97.aug A b) [] := hloop
    refine s_ret (P := RFs (D.map fun r => at0 r n)) cc ?_ fun v g9 h9 c9 s9 p9 => k v g9 h9 c9.w ?_
    · unfold RFs
      rw [List.map_map, ← range_getD D [] (RFr ∘ fun r => at0 r n)]
      refine ev_lcA (n := D.length) (ew_listN (Rs := D.map RFs) (ev_var rfl pd) (by rw [List.length_map])) (by omega) (fun j => RFr (at0 (D.getD j []) n)) fun j x g' hj sg2 hY h' s' kk qq => ?_
      have hY := hY.map (List.getElem?_eq_getElem hj)
      have gd : D.getD j [] = D[j] := getD_get hj
      obtain ⟨z1, z2⟩ := hD _ (List.getElem_mem hj)
      rw [← gd] at hY z1 z2
      exact qq _ rfl (ev_ixF (ev_var rfl hY) (ev_var rfl rfl) (by omega))
    · unfold K97.lawSol
      rw [← hloop, hAl]
      exact p9
end
end KW
end
section
set_option Elab.async false
set_option linter.all false
set_option maxRecDepth 100000
set_option maxHeartbeats 2000000
namespace KW
open PySem PySem.Spec PyProof.Rows L2
open K97 (Sz RowSz at0 Sq)
/-! ### the sizes of the law's systems fit -/
theorem fit1 : ∀ k < 5, K97.bb 2 k + K97.cb 2 530 k ≤ 13400 := by decide +kernel
theorem fit2 : ∀ m < 6, ∀ i < m, K97.cb 2 530 i + (m - 1 - i) * (K97.bb 2 i + 127 + 1) + K97.bb 2 i ≤ 13300 := by decide +kernel
theorem fit3 : ∀ k < 5, 2 * K97.bb 2 k + 2 * K97.cb 2 0 k ≤ 13300 := by decide +kernel
theorem fitA_of {A : List (List Rat)} {bv : List Rat} {n : Nat} (sq : Sq A n) (few : n ≤ 5) (lb : bv.length = n) (sA : ∀ r ∈ A, RowSz 2 r) (sb : RowSz 530 bv) (hS : ∀ xs, K97.solveL A bv = .sol xs → RowSz 127 xs) : FitA A bv 2 530 127 := by
  have hw := K97.width_sq sq
  have hl := sq.len
  exact ⟨fun r hr => by rw [hw]; exact sq.row r hr, by rw [hw]; omega, by omega, by omega, sA, sb, fun k hk => fit1 k (by omega), fun xs h => ⟨hS xs h, fun i m h1 h2 => fit2 m (by omega) i h1⟩, by omega⟩
theorem fitC_of {A : List (List Rat)} {bv : List Rat} {n : Nat} (sq : Sq A n) (few : n ≤ 5) (lb : bv.length = n) (sA : ∀ r ∈ A, RowSz 2 r) (sb : RowSz 2 bv) : FitC A bv 2 530 := by
  have hw := K97.width_sq sq
  have hl := sq.len
  exact ⟨fun r hr => by rw [hw]; exact sq.row r hr, by rw [hw]; omega, by omega, by omega, sA, sb.mono (by omega), fun k hk => fit1 k (by omega), fun k hk => fit3 k (by omega)⟩
end KW
end
section
set_option Elab.async false
set_option linter.all false
set_option maxRecDepth 100000
set_option maxHeartbeats 2000000
set_option exponentiation.threshold 20000
namespace KW
open PySem PySem.Spec PyProof.Rows L2
/-! ### the law's stream of numbers -/
abbrev sLSt : Stmt := top 35
abbrev sLDr : Stmt := top 36
def N_LSt : List Str := ["_law_script", "_law_mixed", "_law_cell"]
theorem scLSt : FnScope N_LSt ["_law_script"] (defScope sLSt) := ⟨rfl, rfl, rfl, by decide +kernel, rfl, by decide +kernel, by decide +kernel⟩
def N_LDr : List Str := ["_law_stream_here", "_law_many", "_law_value"]
theorem scLDr : FnScope N_LDr ["_law_stream_here", "_law_many"] (defScope sLDr) := ⟨rfl, rfl, rfl, by decide +kernel, rfl, by decide +kernel, by decide +kernel⟩
/-- the script -/
def RScr (K : PySem.W.Frag) (ns : List Int) : VP := fun v G => ∃ a, v = .ref a ∧ SqL K G a (ns.map V.int)
instance {K : PySem.W.Frag} {ns : List Int} : Mo (RScr K ns) := ⟨fun _ _ _ e ⟨a, h1, h2⟩ => ⟨a, h1, e.seq h2⟩⟩
def RIz (ns : List Int) : VP := RL (ns.map fun i => RV (.int i))
instance {ns : List Int} : Mo (RIz ns) := inferInstanceAs (Mo (RL _))
/-- what the stream's list holds -/
def StO (ns : List Int) (xs : List V) (G : Hp) : Prop := ∃ (a : V) (x : Int) (j : Nat) (m : Int), xs = [a, .int x, .int (j : Int), .int m] ∧ RIz ns a G ∧ 0 ≤ x ∧ j ≤ ns.length ∧ 0 ≤ m ∧ m < 2147483647
theorem StO.mono {ns : List Int} {xs : List V} {G G' : Hp} (h : StO ns xs G) (e : L2.Same G G') : StO ns xs G' := by
  obtain ⟨a, x, j, m, h1, h2, h3⟩ := h
  exact ⟨a, x, j, m, h1, up e h2, h3⟩
def spLSt (K : PySem.W.Frag) : Sp := fun vs H Q _ => vs.length = 1 ∧ ∃ (G : Hp) (ns : List Int), L2.Same G H ∧ F2 [RScr K ns] vs G ∧ ns.length ≤ 63 ∧
  ∀ l xs G2 H2, H l = none → Gw G H G2 H2 → G2 l = none → H2 l = some (.lst xs) → StO ns xs G2 → Q (.ref l) H2
def spLDr : Sp := fun vs H Q _ => vs.length = 2 ∧ ∃ (G : Hp) (ns : List Int) (l : Addr) (xs : List V) (many : Nat), L2.Same G H ∧ vs = [.ref l, .int (many : Int)] ∧ 0 < many ∧ many ≤ 1000 ∧ ns.length ≤ 63 ∧ HC [(l, .lst xs)] G H ∧ StO ns xs G ∧
  ∀ (d : Nat) ys G2 H2, d < many → Gw G (mask H [(l, .lst xs)]) G2 H2 → G2 l = none → H2 l = some (.lst ys) → StO ns ys G2 → Q (.int (d : Int)) H2
section
variable {P : Program} {w : World} {K : PySem.W.Frag} {mg : Str → Option Value} {base : Heap} {C : Addr} {σ : L2.St} {G0 H0 G H : Hp} {cs : List (Addr × HO)} {ta tb te : TE} {D : Ends} {u t : TS}
theorem f2_ints : ∀ (ns : List Int), F2 (ns.map fun i => RV (.int i)) (ns.map V.int) G
  | [] => trivial
  | _ :: ns => ⟨rfl, f2_ints ns⟩
theorem ew_scr {ns : List Int} (h : EvP ta σ G cs (RScr K ns)) : EvW (iList K ta) σ G cs ns.length (Ith (ns.map fun i => RV (.int i))) := fun H s hc R q =>
  h H s hc _ fun v G2 H2 w p => by
    obtain ⟨a, rfl, hs⟩ := p
    have e := wk_list (cs := cs) hs (f2_ints (G := G2) ns)
    rw [List.length_map] at e
    exact ⟨a, rfl, ⟨_, w.s.seq hs⟩, q _ G2 H2 w e⟩
theorem ev_int1 {i : Int} (h : EvP te σ G cs (RV (.int i))) : EvP (tCB (fun xs H Q => (∃ i, xs = [V.int i] ∧ Q (.int i) H) ∨ ∃ k, xs = [V.bl k] ∧ Q (.int (if k then 1 else 0)) H) (tCons te tNil)) σ G cs (RV (.int i)) :=
  ev_CB (ea_cons h ea_nil) fun xs G pa H s hc Q q => by
    obtain ⟨v, rfl, p⟩ := one_of pa
    obtain rfl : v = .int i := p
    exact .inl ⟨i, rfl, q _ G H (.refl s) rfl⟩
theorem ev_abs1 {i : Int} (h : EvP te σ G cs (RV (.int i))) : EvP (tCB (fun xs H Q => ∃ i, xs = [V.int i] ∧ Q (.int (if i < 0 then -i else i)) H) (tCons te tNil)) σ G cs (RV (.int (if i < 0 then -i else i))) :=
  ev_CB (ea_cons h ea_nil) fun xs G pa H s hc Q q => by
    obtain ⟨v, rfl, p⟩ := one_of pa
    obtain rfl : v = .int i := p
    exact ⟨i, rfl, q _ G H (.refl s) rfl⟩
theorem ev_mod {i j : Int} (h1 : EvP ta σ G cs (RV (.int i))) (h2 : EvP tb σ G cs (RV (.int j))) (h : j ≠ 0) : EvP (tOp (rI (fun _ j => j ≠ 0) fun i j => .int (i.fmod j)) ta tb) σ G cs (RV (.int (i.fmod j))) := ev_op h1 h2 (rv_I h)
theorem ev_mulW {i j : Int} (h1 : EvP ta σ G cs (RV (.int i))) (h2 : EvP tb σ G cs (RV (.int j))) (h : CMulW i j) : EvP (tOp (rI CMulW fun i j => .int (i * j)) ta tb) σ G cs (RV (.int (i * j))) := ev_op h1 h2 (rv_I h)
theorem ev_divW {i j : Int} (h1 : EvP ta σ G cs (RV (.int i))) (h2 : EvP tb σ G cs (RV (.int j))) (h : CDivW i j) : EvP (tOp (rI CDivW fun i j => .int (i / j)) ta tb) σ G cs (RV (.int (i / j))) := ev_op h1 h2 (rv_I h)
theorem ev_listScr {ns : List Int} (h : EvP te σ G cs (RScr K ns)) : EvP (tCB (fun xs H Q => ∃ p ys, xs = [.ref p] ∧ (SqL K H p ys ∨ SqT K H p ys) ∧ ∀ l, H l = none → Q (.ref l) (upd H l (.lst ys))) (tCons te tNil)) σ G cs (RIz ns) := fun H s hc Q q =>
  h H s hc _ fun v G2 H2 w p => by
    obtain ⟨a, rfl, hs⟩ := p
    exact ⟨a, _, rfl, .inl (w.s.seq hs), fun l hl => q _ _ _ (w.trans (.new w.s hl)) ⟨l, _, rfl, upd_same, f2_ints ns⟩⟩
theorem en_lstG {t : TA} {Rs : List VP} [m : MoA Rs] (h : EvA t σ G cs (F2 Rs)) (hl : Rs.length ≤ 1000) : EvN (tLst t) σ G cs (fun o G2 => ∃ vs, o = .lst vs ∧ F2 Rs vs G2) := fun H s hc Q q =>
  h H s hc _ fun xs G1 H1 w1 p1 => ⟨by rw [← p1.len]; exact Nat.le_trans hl (by decide), fun p hp => q p _ G1 _ (w1.h.free hp) (w1.trans (.newH w1.s hp)) (w1.s.free hp) upd_same ⟨xs, rfl, p1⟩⟩
theorem mix_ok {m : Int} (h0 : 0 ≤ m) (h1 : m < 2147483647) : CMulW m 48271 := wide_mul (a := 31) (b := 16) (by omega) (by decide) (by decide) (by decide) (by decide)
theorem mod_rng (i : Int) : 0 ≤ i.fmod 2147483647 ∧ i.fmod 2147483647 < 2147483647 := ⟨Int.fmod_nonneg_of_pos i (by decide), Int.fmod_lt_of_pos i (by decide)⟩
theorem dn_lst (Dd : Df K mg "_law_stream" sLSt) (B : Kit P w K mg base C) : Dn P w K mg base "_law_stream" 1 ["_law_script"] (spLSt K) := by
  refine dn_of Dd scLSt (fun _ _ _ _ _ _ us hl => match us, hl with | [_], _ => rfl) (fun vs H Q E h => h.1) (fun fa cdv A0 outer st H vs Q E hr h => ?_)
  obtain ⟨_, G, ns, sg, hF, few, q⟩ := h
  obtain ⟨v0, rfl, h0⟩ := one_of hF
  have nd := scLSt.nd
  refine ⟨_, (pss_cons (ps_set (i := 1) nd rfl (.inl rfl) pe_int)
  (pss_cons (ps_for PassesOwn.never rfl (pi_list (pv 0)) (pg_name (i := 2) nd rfl (.inl rfl))
  (pss_one (ps_set (i := 1) nd rfl (.inl rfl) (pe_op op_modN (pe_callTy call_int1 (by rfl) B.int (by rfl) (pa_cons (pe_op op_add (pe_op op_add (pe_op op_mulW (pv 1) pe_int) (pe_op op_modN (pe_callTy call_int1 (by rfl) B.int (by rfl) (pa_cons (pv 2) pa_nil)) pe_int)) pe_int) pa_nil)) pe_int))))
  (pss_one (ps_ret (pe_lst (pa_cons (pe_callTy call_list_of (by rfl) B.list PyProof.Rows.boot_list (pa_cons (pv 0) pa_nil)) (pa_cons pe_int (pa_cons pe_int (pa_cons (pv 1) pa_nil))))))))), ?_⟩
  have c : Cel G H G H [] := .start sg
  refine q_set c (P := RV (.int 17)) ev_c fun v G1 H1 c1 s1 p1 => ?_
  obtain rfl : v = .int 17 := p1
  refine q_for (cs' := []) c1 (ew_scr (ns := ns) (ev_var rfl (up s1 h0)))
    (fun i s' g h => ∃ m o2, s' = [some v0, some (.int m), o2] ∧ Cel G H g h [] ∧ L2.Same G g ∧ 0 ≤ m ∧ m < 2147483647)
    (fun i s' g h ⟨_, _, _, cc, _⟩ => ⟨cc.s, .nil⟩) (fun G3 H3 c3 s3 => ⟨17, none, rfl, c3, s1.trans s3, by decide, by decide⟩) ?_ ?_
  · rintro i s' g h x hi sg' ⟨m, o2, rfl, cc, sG, m0, m1⟩ g2 h2 w2 hY
    have hY := hY.map (List.getElem?_eq_getElem hi)
    generalize ns[i] = z at hY
    obtain rfl : x = .int z := hY
    refine s_set (cc.go w2) (ev_mod (ev_int1 (ev_add (ev_add (ev_mulW (ev_var rfl rfl) ev_c (mix_ok m0 m1)) (ev_mod (ev_int1 (ev_var rfl rfl)) ev_c (by decide))) ev_c)) ev_c (by decide)) fun v g4 h4 c4 s4 p4 => ?_
    obtain rfl := p4
    exact ⟨g4, w2.g.trans s4, _, _, rfl, c4, (sG.trans w2.g).trans s4, mod_rng _⟩
  · rintro s' g h sg' ⟨m, o2, rfl, cc, sG, m0, m1⟩
    refine en_lstG (Rs := [RIz ns, RV (.int 0), RV (.int 0), RV (.int m)]) (ea_cons (ev_listScr (ev_var rfl (up sG h0))) (ea_cons ev_c (ea_cons ev_c (ea_cons (ev_var rfl rfl) ea_nil)))) (by simp) h cc.s .nil _ fun l o G2 H2 hl w2 hg ho p => ?_
    obtain ⟨vs, rfl, pf⟩ := p
    obtain ⟨x0, r0, rfl, p0, pf⟩ := pf.inv_cons
    obtain ⟨x1, x2, x3, rfl, p1, p2, p3⟩ := three_of pf
    obtain rfl : x1 = _ := p1
    obtain rfl : x2 = _ := p2
    obtain rfl : x3 = _ := p3
    exact q l _ G2 H2 (cc.w.h.free hl) (cc.w.trans w2) hg ho ⟨x0, 0, 0, m, rfl, p0, Int.le_refl _, Nat.zero_le _, m0, m1⟩
end
end KW
end
section
set_option Elab.async false
set_option linter.all false
set_option maxRecDepth 100000
set_option maxHeartbeats 2000000
set_option exponentiation.threshold 20000
namespace KW
open PySem PySem.Spec PyProof.Rows L2
section
variable {P : Program} {w : World} {K : PySem.W.Frag} {mg : Str → Option Value} {base : Heap} {C : Addr} {σ : L2.St} {G0 H0 G H : Hp} {cs : List (Addr × HO)} {ta tb te : TE} {D : Ends} {u t : TS}
theorem q_mid (I : L2.St → Hp → Prop) (k : ∀ σ' H', I σ' H' → u D σ' H') (h : (∀ σ' H', I σ' H' → u D σ' H') → tSeq t u D σ H) : tSeq t u D σ H := h k
theorem fm_nat (i : Int) {many : Nat} (h : 0 < many) : ∃ d : Nat, d < many ∧ i.fmod (many : Int) = (d : Int) := by
  have h0 := Int.fmod_nonneg_of_pos i (show (0 : Int) < (many : Int) by omega)
  have h1 := Int.fmod_lt_of_pos i (show (0 : Int) < (many : Int) by omega)
  exact ⟨(i.fmod (many : Int)).toNat, by omega, by omega⟩
theorem dn_ldr (Dd : Df K mg "_law_draw" sLDr) (B : Kit P w K mg base C) : Dn P w K mg base "_law_draw" 1 ["_law_stream_here", "_law_many"] spLDr := by
  refine dn_of Dd scLDr (fun _ _ _ _ _ _ us hl => match us, hl with | [_, _], _ => rfl) (fun vs H Q E h => h.1) (fun fa cdv A0 outer st H vs Q E hr h => ?_)
  obtain ⟨_, G, ns, l, xs, many, sg, rfl, hm0, hm1, few, hcl, ⟨a, x, j, m, rfl, pa, x0, hj, m0, m1⟩, q⟩ := h
  have nd := scLDr.nd
  refine ⟨_, (pss_cons (ps_if (pw_and (pt_cmpR op_eq (pe_ix ix_list (pv 0) pe_int (fun _ _ => rfl)) pe_int (nomark _)) (pw_and1 (pt_cmpR op_lt (pe_ix ix_list (pv 0) pe_int (fun _ _ => rfl)) (pe_callB call_len_seq (by rfl) B.len PySem.boot_len (pa_cons (pe_ix ix_list (pv 0) pe_int (fun _ _ => rfl)) pa_nil)) (nomark _)))).pt (pss_cons (ps_asg (pe_callB call_abs (by rfl) B.abs (by decide +kernel) (pa_cons (pe_callTy call_int1 (by rfl) B.int (by rfl) (pa_cons (pe_ix ix_list (pe_ix ix_list (pv 0) pe_int (fun _ _ => rfl)) (pe_ix ix_list (pv 0) pe_int (fun _ _ => rfl)) (fun _ _ => rfl)) pa_nil)) pa_nil)) (pg_sub (pv 0) pe_int set_list))
    (pss_one (ps_asg (pe_op op_add (pe_ix ix_list (pv 0) pe_int (fun _ _ => rfl)) pe_int) (pg_sub (pv 0) pe_int set_list)))) pss_nil)
  (pss_cons (ps_if (pt_cmpR op_eq (pe_ix ix_list (pv 0) pe_int (fun _ _ => rfl)) pe_int (nomark _)) (pss_cons (ps_asg (pe_op op_modN (pe_callTy call_int1 (by rfl) B.int (by rfl) (pa_cons (pe_op op_add (pe_op op_mulW (pe_ix ix_list (pv 0) pe_int (fun _ _ => rfl)) pe_int) pe_int) pa_nil)) pe_int) (pg_sub (pv 0) pe_int set_list))
    (pss_one (ps_ret (pe_op op_modN (pe_callTy call_int1 (by rfl) B.int (by rfl) (pa_cons (pe_op op_fdivW (pe_ix ix_list (pv 0) pe_int (fun _ _ => rfl)) pe_int) pa_nil)) (pv 1))))) pss_nil)
  (pss_cons (ps_set (i := 2) nd rfl (.inl rfl) (pe_op op_modN (pe_callTy call_int1 (by rfl) B.int (by rfl) (pa_cons (pe_ix ix_list (pv 0) pe_int (fun _ _ => rfl)) pa_nil)) (pv 1)))
  (pss_cons (ps_asg (pe_op op_fdivW (pe_ix ix_list (pv 0) pe_int (fun _ _ => rfl)) (pv 1)) (pg_sub (pv 0) pe_int set_list))
  (pss_one (ps_ret (pv 2))))))), ?_⟩
  have c := Cel.given sg hcl (by simp)
  have ix : ∀ {G' : Hp} {σ' : L2.St} {ys : List V} {R : VP} (_ : Mo R) (k : Nat) {v : V}, σ'[0]? = some (some (.ref l)) → ys[k]? = some v → R v G' → EvP (tOp (rIxL K) (tVar 0) (tC (.int (k : Int)))) σ' G' [(l, .lst ys)] R :=
    fun m k v h1 h2 h3 => rv_ixC (m := m) (a := l) (i := k) mem_head h2 h3 (ev_var h1 rfl) ev_c
  refine q_mid (I := fun s' h => ∃ g x' j', s' = [some (.ref l), some (.int (many : Int)), none] ∧ Cel G (mask H [(l, .lst [a, .int x, .int (j : Int), .int m])]) g h [(l, .lst [a, .int x', .int ((j' : Nat) : Int), .int m])] ∧ L2.Same G g ∧ (0 : Int) ≤ x' ∧ j' ≤ ns.length) (fun s' h hI => ?_) (fun mid => ?_)
  · obtain ⟨g, x', j', rfl, cc, sG, x0', hj'⟩ := hI
    refine q_if cc (b := decide (V.int x' = V.int 0)) (et_test (ev_op (ix inferInstance 1 rfl rfl (rfl : RV (.int x') _ _)) ev_c (rv_eq rfl))) (fun hb g4 h4 c4 s4 => ?_) (fun hb g4 h4 c4 s4 => ?_)
    · refine q_setL (j := 3) c4 (ev_mod (ev_int1 (ev_add (ev_mulW (ix inferInstance 3 rfl rfl (rfl : RV (.int m) _ _)) ev_c (mix_ok m0 m1)) ev_c)) ev_c (by decide)) rfl ev_c (by simp) fun v g5 h5 c5 s5 p5 => ?_
      obtain rfl := p5
      obtain ⟨r0, r1⟩ := mod_rng (m * 48271 + 11)
      generalize (m * 48271 + 11).fmod 2147483647 = m' at c5 r0 r1
      obtain ⟨d, hd, ed⟩ := fm_nat (m' / 97) hm0
      refine s_ret c5 ((ev_mod (ev_int1 (ev_divW (ix inferInstance 3 rfl rfl (rfl : RV (.int m') _ _)) ev_c ⟨by decide, by decide⟩)) (ev_var rfl rfl) (by omega)).is (congrArg V.int ed)) fun v g6 h6 c6 s6 p6 => ?_
      obtain rfl := p6
      exact q d _ g6 h6 hd c6.w (c6.hc _ mem_head).2 c6.hd ⟨a, x', j', m', rfl, up (((sG.trans s4).trans s5).trans s6) pa, x0', hj', r0, r1⟩
    · unfold tNext
      dsimp only
      obtain ⟨d, hd, ed⟩ := fm_nat x' hm0
      refine q_set c4 ((ev_mod (ev_int1 (ix inferInstance 1 rfl rfl (rfl : RV (.int x') _ _))) (ev_var rfl rfl) (by omega)).is (congrArg V.int ed)) fun v g5 h5 c5 s5 p5 => ?_
      obtain rfl := p5
      refine q_setL (j := 1) c5 (ev_divW (ix inferInstance 1 rfl rfl (rfl : RV (.int x') _ _)) (ev_var rfl rfl) ⟨by omega, ?_⟩) rfl ev_c (by simp) fun v g6 h6 c6 s6 p6 => ?_
      · have : (((many : Nat) : Int)).natAbs.log2 < 11 := (Nat.log2_lt (by omega)).mpr (by omega)
        omega
      obtain rfl := p6
      refine s_ret c6 (P := RV (.int (d : Int))) (ev_var rfl rfl) fun v g7 h7 c7 s7 p7 => ?_
      obtain rfl := p7
      exact q d _ g7 h7 hd c7.w (c7.hc _ mem_head).2 c7.hd ⟨a, x' / (many : Int), j', m, rfl, up ((((sG.trans s4).trans s5).trans s6).trans s7) pa, Int.ediv_nonneg x0' (by omega), hj', m0, m1⟩
  · refine q_if c (b := decide (V.int x = V.int 0) && decide ((j : Int) < ((ns.map fun i => RV (.int i)).length : Int))) (et_and (et_test (ev_op (ix inferInstance 1 rfl rfl (rfl : RV (.int x) _ _)) ev_c (rv_eq rfl))) fun _ => et_test (ev_op (P1 := RV (.int (j : Int))) (P3 := RV (.bl (decide ((j : Int) < ((ns.map fun i => RV (.int i)).length : Int))))) (ix inferInstance 2 rfl rfl rfl) (ev_len (ix inferInstance 0 rfl rfl pa)) rv_I0)) (fun hb g4 h4 c4 s4 => ?_) (fun hb g4 h4 c4 s4 => ?_)
    · rw [Bool.and_eq_true] at hb
      have hjl : j < ns.length := by
        have := of_decide_eq_true hb.2
        rw [List.length_map] at this
        omega
      have pa4 := up s4 pa
      refine q_setL (j := 1) c4 (ev_abs1 (ev_int1 (i := ns[j]) (ev_op (P1 := RIz ns) (P2 := RV (.int (j : Int))) (ix inferInstance 0 rfl rfl pa4) (ix inferInstance 2 rfl rfl rfl) (rv_ixL (i := j) (by rw [List.getElem?_map, List.getElem?_eq_getElem hjl]; rfl))))) rfl ev_c (by simp) fun v g5 h5 c5 s5 p5 => ?_
      obtain rfl := p5
      refine s_setL (j := 2) c5 (ev_add (ix inferInstance 2 rfl rfl (rfl : RV (.int (j : Int)) _ _)) ev_c) rfl ev_c (by simp) fun v g6 h6 c6 s6 p6 => ?_
      obtain rfl := p6
      exact mid _ _ ⟨g6, _, j + 1, rfl, c6, (s4.trans s5).trans s6, by split <;> omega, hjl⟩
    · exact mid _ _ ⟨g4, x, j, rfl, c4, s4, x0, hj⟩
end
end KW
end
section
set_option Elab.async false
set_option linter.all false
set_option maxRecDepth 100000
set_option maxHeartbeats 2000000
set_option exponentiation.threshold 20000
namespace KW
open PySem PySem.Spec PyProof.Rows L2
open K97 (Sz RowSz at0 Sq)
/-! ### the law's telling of solve_linear -/
abbrev sLTo : Stmt := top 42
def N_LTo : List Str := ["_law_rows", "_law_constants"]
theorem scLTo : FnScope N_LTo ["_law_rows", "_law_constants"] (defScope sLTo) := ⟨rfl, rfl, rfl, by decide +kernel, rfl, by decide +kernel, by decide +kernel⟩
def RTold (C : Addr) (A : List (List Rat)) (b : List Rat) : VP := match K97.solveL A b with
  | .sol xs => RRow C xs
  | .none => RV (.str "none")
  | .many => RV (.str "many")
structure ToldIn where
  A : List (List Rat)
  b : List Rat
  p : Nat
  c : Nat
  S : Nat
def spLTo (C : Addr) : Sp := spF (fun (x : ToldIn) vs G => F2 [RMat C x.A, RRow C x.b] vs G ∧ FitA x.A x.b x.p x.c x.S) (fun x => RTold C x.A x.b) 2
theorem pe_dnxS {X : Cx} {W : WX} {x : Str} {j : Nat} {ps : List Str} {sp : Sp} {e : Expr} {es : List Expr} {t : TA} {p pos : Pos} (Dd : DnX X.prog X.w X.K X.mg X.base x j ps sp) (hr : Room j X.A) (hg : Gl X x) (tk : Takes X W) (ha : PA X (e :: es) t)
    (hdb : (x == ("__debug__" : Str)) = false := by decide) (he : starEach (e :: es) X.env = (false, eval e X.env) :: starEach es X.env := by rfl) (hpl : (backTo pos (starEach es X.env)).any (·.1) = false := by rfl) :
    PE X (.Call (.Name x p) (e :: es) [] pos) (tCallS sp (WE W) t) := by
  obtain ⟨f, fd, hm, hk, hb, F⟩ := Dd
  exact pe_callS F hr hg hm hk hb (fun σ => passAt tk σ) ha hdb he hpl
/-- an error of the class at S is what «except S» names -/
theorem ErrX.self {K : PySem.W.Frag} {mg : Str → Option Value} {x : Str} {S : Addr} (h : ErrX K mg x S) : PySem.W.exmOne K (.ref S) (.ref S) = some true := by
  have e1 : (PySem.W.subIn K (.ref S) (.type "BaseException") == some true) = true := by rw [h.bP] <;> rfl
  have e2 : ((PySem.W.clsIn K S).isSome && PySem.W.typeIn K (.ref S) == some (.type "type")) = true := by
    have h2' : (PySem.W.clsIn K S).isSome = true := h.iP
    rw [h2', h.tP] <;> rfl
  show (if (PySem.W.subIn K (.ref S) (.type "BaseException") == some true) = true then (if ((PySem.W.clsIn K S).isSome && PySem.W.typeIn K (.ref S) == some (.type "type")) = true then PySem.W.subIn K (.ref S) (.ref S) else none) else none) = some true
  rw [if_pos e1, if_pos e2]
  exact h.sP
theorem ErrX.not {K : PySem.W.Frag} {mg : Str → Option Value} {x : Str} {S T : Addr} (h : ErrX K mg x S) (n : PySem.W.subIn K (.ref T) (.ref S) = some false) : PySem.W.exmOne K (.ref T) (.ref S) = some false := by
  have e1 : (PySem.W.subIn K (.ref S) (.type "BaseException") == some true) = true := by rw [h.bP] <;> rfl
  have e2 : ((PySem.W.clsIn K S).isSome && PySem.W.typeIn K (.ref S) == some (.type "type")) = true := by
    have h2' : (PySem.W.clsIn K S).isSome = true := h.iP
    rw [h2', h.tP] <;> rfl
  show (if (PySem.W.subIn K (.ref S) (.type "BaseException") == some true) = true then (if ((PySem.W.clsIn K S).isSome && PySem.W.typeIn K (.ref S) == some (.type "type")) = true then PySem.W.subIn K (.ref T) (.ref S) else none) else none) = some false
  rw [if_pos e1, if_pos e2]
  exact n
section
variable {P : Program} {w : World} {K : PySem.W.Frag} {mg : Str → Option Value} {base : Heap} {C CB CN CM : Addr} {σ : L2.St} {G0 H0 G H : Hp} {cs : List (Addr × HO)} {ta tb te : TE}
theorem dn_lto (Dd : Df K mg "_law_told" sLTo) (B : Kit P w K mg base C) (XN : ErrX K mg "NoSolution" CN) (XM : ErrX K mg "ManySolutions" CM) (nm : PySem.W.subIn K (.ref CM) (.ref CN) = some false) (DX : DnX P w K mg base "solve_linear" 6 ["rows", "constants"] (spSol C CN CM)) : Dn P w K mg base "_law_told" 7 ["_law_rows", "_law_constants"] (spLTo C) := by
  refine dn_of Dd scLTo (fun _ _ _ _ _ _ us hl => match us, hl with | [_, _], _ => rfl) (fun vs H Q E h => h.1) (fun fa cdv A0 outer st H vs Q E hr h => ?_)
  obtain ⟨_, G, ⟨A, b, p, c, S⟩, sg, ⟨hF, fit⟩, k⟩ := h
  obtain ⟨v0, v1, rfl, h0, h1⟩ := two_of hF
  dsimp only at *
  have nd := scLTo.nd
  refine ⟨_, pss_cons (ps_try_many (Wout := fun _ _ _ _ => False) (tb := fun W => tRet (tCallS (spSol C CN CM) (WE W) (tCons (tVar 0) (tCons (tVar 1) tNil)))) (l := [(.ref CN, fun _ _ _ => tRet (tC (.str "none"))), (.ref CM, fun _ _ _ => tRet (tC (.str "many")))]) rfl rfl takes_none5
      (fun W pn xe tk _ => pss_one (ps_ret (by exact pe_dnxS DX hr (by rfl) tk (by exact (pa_cons (pv 0) (pa_cons (pv 1) pa_nil))))))
      (.cons ⟨by rfl, by decide, .inl XN.g⟩ (fun _ _ _ _ _ _ _ => pss_one (ps_ret (by exact pe_str))) (.cons ⟨by rfl, by decide, .inl XM.g⟩ (fun _ _ _ _ _ _ _ => pss_one (ps_ret (by exact pe_str))) .nil)))
    (pss_one (ps_ret pe_str)), ?_⟩
  have ea : EvA (tCons (tVar 0) (tCons (tVar 1) tNil)) (start N_LTo [v0, v1]) G [] (F2 [RMat C A, RRow C b]) := ea_cons (ev_var rfl h0) (ea_cons (ev_var rfl h1) ea_nil)
  unfold tSeq tRet tCallS
  dsimp only
  refine ea H sg .nil _ fun vs G1 H1 w1 p1 => ⟨F2.length_is rfl _ _ p1, G1, A, b, p, c, S, w1.s, p1, fit, ?_⟩
  unfold SolO
  unfold RTold at k
  cases e : K97.solveL A b with
  | sol xs => rw [e] at k; exact fun v G2 H2 w o => k v G2 H2 (w1.trans w) o
  | none => rw [e] at k; exact fun G2 H2 w => ⟨true, XN.self, fun _ a ha => k _ G2 H2 (w1.trans w) rfl, (fun z => nomatch z)⟩
  | many => rw [e] at k; exact fun G2 H2 w => ⟨false, XN.not nm, (fun z => nomatch z), fun _ => ⟨true, XM.self, fun _ a ha => k _ G2 H2 (w1.trans w) rfl, (fun z => nomatch z)⟩⟩
end
end KW
end
section
set_option Elab.async false
set_option linter.all false
set_option maxRecDepth 100000
set_option maxHeartbeats 2000000
set_option exponentiation.threshold 20000
namespace KW
open PySem PySem.Spec PyProof.Rows L2
open K97 (Sz RowSz at0 Sq total totalC isContr)
/-! ### the law's look at the factors -/
abbrev sLIc : Stmt := top 44
def N_LIc : List Str := ["_law_rows", "_law_constants", "_law_factors", "_law_column", "_law_total", "_law_k", "_law_part"]
theorem scLIc : FnScope N_LIc ["_law_rows", "_law_constants", "_law_factors"] (defScope sLIc) := ⟨rfl, rfl, rfl, by decide +kernel, rfl, by decide +kernel, by decide +kernel⟩
structure IcIn where
  A : List (List Rat)
  b : List Rat
  f : List Rat
  n : Nat
  F : Nat
structure IcPre (x : IcIn) : Prop where
  sq : Sq x.A x.n
  lb : x.b.length = x.n
  lf : x.f.length = x.n
  few : x.n ≤ 5
  pos : 0 < x.n
  sA : ∀ r ∈ x.A, RowSz 2 r
  sb : RowSz 2 x.b
  sf : RowSz x.F x.f
  slim : x.F ≤ 2400
def spLIc (C : Addr) : Sp := spF (fun (x : IcIn) vs G => F2 [RMat C x.A, RRow C x.b, RRow C x.f] vs G ∧ IcPre x) (fun x => RV (.bl (isContr x.A x.b x.f))) 3
theorem total_succ (A : List (List Rat)) (f : List Rat) (j k : Nat) : total A f j (k + 1) = total A f j k + at0 f k * K97.ent A k j := by
  unfold total
  rw [List.range_succ, List.foldl_append]
  rfl
theorem totalC_succ (b f : List Rat) (k : Nat) : totalC b f (k + 1) = totalC b f k + at0 f k * at0 b k := by
  unfold totalC
  rw [List.range_succ, List.foldl_append]
  rfl
theorem ent_sz {A : List (List Rat)} {b : Nat} (h : ∀ r ∈ A, RowSz b r) {k : Nat} (hk : k < A.length) (j : Nat) : Sz b (K97.ent A k j) := (h _ (K97.row_mem hk)).at j
theorem total_sz {A : List (List Rat)} {f : List Rat} {F : Nat} (hA : ∀ r ∈ A, RowSz 2 r) (hf : RowSz F f) (j : Nat) : ∀ k, k ≤ A.length → Sz (k * (F + 3)) (total A f j k)
  | 0, _ => Sz.zero
  | k + 1, hk => by
    rw [total_succ]
    refine ((total_sz hA hf j k (by omega)).add ((hf.at k).mul (ent_sz hA hk j))).mono ?_
    rw [Nat.add_mul]
    omega
theorem totalC_sz {b f : List Rat} {F : Nat} (hb : RowSz 2 b) (hf : RowSz F f) : ∀ k, Sz (k * (F + 3)) (totalC b f k)
  | 0 => Sz.zero
  | k + 1 => by
    rw [totalC_succ]
    refine ((totalC_sz hb hf k).add ((hf.at k).mul (hb.at k))).mono ?_
    rw [Nat.add_mul]
    omega
theorem num_dec (q : Rat) : (!decide (V.int q.num = V.int 0)) = decide (q ≠ 0) := by
  by_cases e : q = 0
  · subst e; rfl
  · rw [decide_eq_true (p := q ≠ 0) e, decide_eq_false (p := V.int q.num = V.int 0) fun z => num_ne e (V.int.inj z)]
    rfl
theorem ic_mul (k F : Nat) (hk : k < 5) (hF : F ≤ 2400) : k * (F + 3) + (F + 2) + 1 < 13500 := by
  have : k * (F + 3) ≤ 4 * 2403 := Nat.mul_le_mul (by omega) (by omega)
  omega
section
variable {P : Program} {w : World} {K : PySem.W.Frag} {mg : Str → Option Value} {base : Heap} {C : Addr} {σ : L2.St} {G0 H0 G H : Hp} {cs : List (Addr × HO)} {ta tb te : TE}
theorem ev_isiL {Rs : List VP} (h : EvP ta σ G cs (RL Rs)) : EvP (tCB (rIsi K) (tCons ta (tCons (tC (.ty "list")) tNil))) σ G cs (RV (.bl true)) := fun H s hc Q q =>
  h H s hc _ fun v G2 H2 w p => by
    obtain ⟨a, vs, rfl, ha, hf⟩ := p
    exact ⟨_, _, _, _, true, rfl, .ty _, .base (.lst (w.s _ _ ha)), kit_ty (by decide +kernel), q _ G2 H2 w rfl⟩
theorem ev_lenR {r : List Rat} (h : EvP ta σ G cs (RRow C r)) : EvP (tCB (rLen K) (tCons ta tNil)) σ G cs (RV (.int (r.length : Int))) := by
  have := ev_len (K := K) (Rs := r.map (RQ C)) h
  rw [List.length_map] at this
  exact this
theorem ev_ixM {A : List (List Rat)} {i : Nat} (h1 : EvP ta σ G cs (RMat C A)) (h2 : EvP tb σ G cs (RV (.int (i : Int)))) (h : i < A.length) : EvP (tOp (rIxL K) ta tb) σ G cs (RRow C (K97.row A i)) := ev_op h1 h2 (rv_ixL (mat_get h))
theorem ev_fr00 : EvP (tTup (tCons (tC (.int 0)) (tCons (tC (.int 1)) tNil))) σ G cs (RFr 0) := ev_tup (Rs := [RV (.int 0), RV (.int 1)]) (ea_cons ev_c (ea_cons ev_c ea_nil))
theorem dn_lic (Dd : Df K mg "_law_is_contradiction" sLIc) (B : Kit P w K mg base C) (L0 : Dn P w K mg base "_law_pair" 1 ["_law_value"] (spLPr C)) (L2a : Dn P w K mg base "_law_arithmetic" 2 ["_law_word", "_law_a", "_law_b"] spLAr) : Dn P w K mg base "_law_is_contradiction" 3 ["_law_rows", "_law_constants", "_law_factors"] (spLIc C) := by
  refine dn_of Dd scLIc (fun _ _ _ _ _ _ us hl => match us, hl with | [_, _, _], _ => rfl) (fun vs H Q E h => h.1) (fun fa cdv A0 outer st H vs Q E hr h => ?_)
  obtain ⟨_, G, ⟨A, b, f, n, F⟩, sg, ⟨hF, sq, lb, lf, few, pos, sA, sb, sf, slim⟩, q⟩ := h
  obtain ⟨v0, v1, v2, rfl, h0, h1, h2⟩ := three_of hF
  dsimp only at *
  have nd := scLIc.nd
  refine ⟨_, (pss_cons (ps_if (pw_or (pt_not (pt_val (pe_callB call_isi (by rfl) B.isi boot_isinstance (pa_cons (pv 2) (pa_cons (pe_bltn (v := .ty "list") (u := .type "list") (by rfl) B.list (by decide +kernel) rfl) pa_nil))))) (pw_or1 (pt_cmpR op_ne (pe_callB call_len_seq (by rfl) B.len PySem.boot_len (pa_cons (pv 2) pa_nil)) (pe_callB call_len_seq (by rfl) B.len PySem.boot_len (pa_cons (pv 0) pa_nil)) (nomark _)))).pt (pss_one (ps_ret pe_bl)) pss_nil)
  (pss_cons (ps_for PassesOwn.never rfl (pi_range1 (by rfl) B.range (pa_cons (pe_callB call_len_seq (by rfl) B.len PySem.boot_len (pa_cons (pe_ix ix_list (pv 0) pe_int (fun _ _ => rfl)) pa_nil)) pa_nil)) (pg_name (i := 3) nd rfl (.inl rfl))
  (pss_cons (ps_set (i := 4) nd rfl (.inl rfl) (pe_tup (pa_cons pe_int (pa_cons pe_int pa_nil))))
    (pss_cons (ps_for PassesOwn.never rfl (pi_range1 (by rfl) B.range (pa_cons (pe_callB call_len_seq (by rfl) B.len PySem.boot_len (pa_cons (pv 0) pa_nil)) pa_nil)) (pg_name (i := 5) nd rfl (.inl rfl))
    (pss_cons (ps_set (i := 6) nd rfl (.inl rfl) (pe_dn L2a (hr.mono (by decide)) (by rfl) (pa_cons pe_str (pa_cons (pe_dn L0 (hr.mono (by decide)) (by rfl) (pa_cons (pe_ix ix_list (pv 2) (pv 5) (fun _ _ => rfl)) pa_nil)) (pa_cons (pe_dn L0 (hr.mono (by decide)) (by rfl) (pa_cons (pe_ix ix_list (pe_ix ix_list (pv 0) (pv 5) (fun _ _ => rfl)) (pv 3) (fun _ _ => rfl)) pa_nil)) pa_nil)))))
      (pss_one (ps_set (i := 4) nd rfl (.inl rfl) (pe_dn L2a (hr.mono (by decide)) (by rfl) (pa_cons pe_str (pa_cons (pv 4) (pa_cons (pv 6) pa_nil))))))))
    (pss_one (ps_if (pt_cmpR op_ne (pe_ix ix_tup (pv 4) pe_int (fun _ _ => rfl)) pe_int (nomark _)) (pss_one (ps_ret pe_bl)) pss_nil)))))
  (pss_cons (ps_set (i := 4) nd rfl (.inl rfl) (pe_tup (pa_cons pe_int (pa_cons pe_int pa_nil))))
  (pss_cons (ps_for PassesOwn.never rfl (pi_range1 (by rfl) B.range (pa_cons (pe_callB call_len_seq (by rfl) B.len PySem.boot_len (pa_cons (pv 0) pa_nil)) pa_nil)) (pg_name (i := 5) nd rfl (.inl rfl))
  (pss_one (ps_set (i := 4) nd rfl (.inl rfl) (pe_dn L2a (hr.mono (by decide)) (by rfl) (pa_cons pe_str (pa_cons (pv 4) (pa_cons (pe_dn L2a (hr.mono (by decide)) (by rfl) (pa_cons pe_str (pa_cons (pe_dn L0 (hr.mono (by decide)) (by rfl) (pa_cons (pe_ix ix_list (pv 2) (pv 5) (fun _ _ => rfl)) pa_nil)) (pa_cons (pe_dn L0 (hr.mono (by decide)) (by rfl) (pa_cons (pe_ix ix_list (pv 1) (pv 5) (fun _ _ => rfl)) pa_nil)) pa_nil)))) pa_nil)))))))
  (pss_one (ps_ret (pe_cmpR op_ne (pe_ix ix_tup (pv 4) pe_int (fun _ _ => rfl)) pe_int (nomark _)))))))), ?_⟩
  have c : Cel G H G H [] := .start sg
  have hAl := sq.len
  have hw := K97.width_sq sq
  have hrl : ∀ k, k < n → (K97.row A k).length = n := fun k hk => sq.row _ (K97.row_mem (by omega))
  refine q_if c (b := false) ((et_or (et_not (et_B (ev_isiL (Rs := f.map (RQ C)) (ev_var rfl h2)))) fun _ => et_test (ev_op (ev_lenR (ev_var rfl h2)) (ev_lenM (ev_var rfl h0)) (rv_ne rfl))).is (by rw [lf, hAl]; simp)) (fun hb => by cases hb) fun _ G1 H1 c1 s1 => ?_
  unfold tNext
  dsimp only
  have h0 := up s1 h0
  have h1 := up s1 h1
  have h2 := up s1 h2
  refine q_for (cs' := []) c1 (ew_range (n := n) (ea_cons ((ev_lenR (ev_ixM (i := 0) (ev_var rfl h0) ev_c (by omega))).is (by rw [hrl 0 pos])) ea_nil) (by omega))
    (fun i s' g h => ∃ o3 o4 o5 o6, s' = [some v0, some v1, some v2, o3, o4, o5, o6] ∧ Cel G H g h [] ∧ L2.Same G1 g ∧ ∀ j, j < i → total A f j n = 0)
    (fun i s' g h ⟨_, _, _, _, _, cc, _⟩ => ⟨cc.s, .nil⟩) (fun G3 H3 c3 s3 => ⟨none, none, none, none, rfl, c3, s3, fun j hj => by omega⟩) ?_ ?_
  · rintro j s' g h x hj sg' ⟨o3, o4, o5, o6, rfl, cc, sG, hz⟩ g2 h2' w2 hY
    obtain rfl : x = .int (j : Int) := hY
    refine q_set (cc.go w2) (P := RFr (total A f j 0)) ev_fr00 fun vt g3 h3 c3 s3 p3 => ?_
    have s03 := (sG.trans w2.g).trans s3
    refine q_for (cs' := []) c3 (ew_range (n := n) (ea_cons ((ev_lenM (ev_var rfl (up s03 h0))).is (by rw [hAl])) ea_nil) (by omega))
      (fun k s' g h => ∃ o5 o6 vt, s' = [some v0, some v1, some v2, some (.int (j : Int)), some vt, o5, o6] ∧ Cel G H g h [] ∧ L2.Same g3 g ∧ RFr (total A f j k) vt g)
      (fun i s' g h ⟨_, _, _, _, cc, _⟩ => ⟨cc.s, .nil⟩) (fun G5 H5 c5 s5 => ⟨_, _, vt, rfl, c5, s5, up s5 p3⟩) ?_ ?_
    · rintro k s' g4 h4 x hk sg4 ⟨o5, o6, vt, rfl, c4, s4, p4⟩ g5 h5 w5 hY
      obtain rfl : x = .int (k : Int) := hY
      have s05 := (s03.trans s4).trans w5.g
      have p5 := up w5.g p4
      refine q_set (c4.go w5) (P := RFr (at0 f k * K97.ent A k j)) (ev_lar ev_c (ev_lpr (ev_ixR (ev_var rfl (up s05 h2)) (ev_var rfl rfl) (by omega))) (ev_lpr (ev_ixR (ev_ixM (ev_var rfl (up s05 h0)) (ev_var rfl rfl) (by omega)) (ev_var rfl rfl) (by rw [hrl k hk]; exact hj))) (.of (sf.at k) (ent_sz sA (by omega) j) (by omega)) (.inr (.inr (.inl rfl))) (by unfold aop; rw [if_neg (by decide +kernel), if_neg (by decide +kernel), if_pos rfl]; rfl)) fun vp g6 h6 c6 s6 p6 => ?_
      refine s_set c6 (P := RFr (total A f j (k + 1))) (ev_lar ev_c (ev_var rfl (up s6 p5)) (ev_var rfl p6) (.of (total_sz sA sf j k (by omega)) ((sf.at k).mul (ent_sz sA (by omega) j)) (ic_mul k F (by omega) slim)) (.inl rfl) (by unfold aop; rw [if_pos rfl, total_succ])) fun vq g7 h7 c7 s7 p7 => ?_
      exact ⟨g7, (w5.g.trans s6).trans s7, _, _, vq, rfl, c7, ((s4.trans w5.g).trans s6).trans s7, p7⟩
    · rintro s' g4 h4 sg4 ⟨o5, o6, vt, rfl, c4, s4, p4⟩
      refine s_if c4 (b := decide (total A f j n ≠ 0)) ((et_test (ev_op (ev_fr0 (ev_var rfl p4)) ev_c (rv_ne rfl))).is (num_dec _)) (fun hb g5 h5 c5 s5 => ?_) (fun hb g5 h5 c5 s5 => ?_)
      · refine s_ret c5 (P := RV (.bl false)) ev_c fun v g6 h6 c6 s6 p6 => q v g6 h6 c6.w ?_
        have e : isContr A b f = false := by
          unfold isContr
          rw [Bool.and_eq_false_iff]
          left
          rw [List.all_eq_false]
          refine ⟨j, List.mem_range.mpr (by omega), ?_⟩
          have := of_decide_eq_true hb
          rw [hAl]
          simpa using this
        rw [e]
        exact p6
      · refine ⟨g5, ((w2.g.trans s3).trans s4).trans s5, _, _, _, _, rfl, c5, ((s03.trans s4).trans s5), fun i hi => ?_⟩
        rcases Nat.lt_or_ge i j with h6 | h6
        · exact hz i h6
        · obtain rfl : i = j := by omega
          exact Classical.not_not.mp (of_decide_eq_false hb)
  · rintro s' g h sg' ⟨o3, o4, o5, o6, rfl, cc, sG, hz⟩
    refine q_set cc (P := RFr (totalC b f 0)) ev_fr00 fun vt g3 h3 c3 s3 p3 => ?_
    have s03 := sG.trans s3
    refine q_for (cs' := []) c3 (ew_range (n := n) (ea_cons ((ev_lenM (ev_var rfl (up s03 h0))).is (by rw [hAl])) ea_nil) (by omega))
      (fun k s' g h => ∃ o5 vt, s' = [some v0, some v1, some v2, o3, some vt, o5, o6] ∧ Cel G H g h [] ∧ L2.Same g3 g ∧ RFr (totalC b f k) vt g)
      (fun i s' g h ⟨_, _, _, cc, _⟩ => ⟨cc.s, .nil⟩) (fun G5 H5 c5 s5 => ⟨_, vt, rfl, c5, s5, up s5 p3⟩) ?_ ?_
    · rintro k s' g4 h4 x hk sg4 ⟨o5, vt, rfl, c4, s4, p4⟩ g5 h5 w5 hY
      obtain rfl : x = .int (k : Int) := hY
      have s05 := (s03.trans s4).trans w5.g
      have p5 := up w5.g p4
      refine s_set (c4.go w5) (P := RFr (totalC b f (k + 1))) (ev_lar ev_c (ev_var rfl p5) (ev_lar (x := at0 f k * at0 b k) ev_c (ev_lpr (ev_ixR (ev_var rfl (up s05 h2)) (ev_var rfl rfl) (by omega))) (ev_lpr (ev_ixR (ev_var rfl (up s05 h1)) (ev_var rfl rfl) (by omega))) (.of (sf.at k) (sb.at k) (by omega)) (.inr (.inr (.inl rfl))) (by unfold aop; rw [if_neg (by decide +kernel), if_neg (by decide +kernel), if_pos rfl]))
        (.of (totalC_sz sb sf k) ((sf.at k).mul (sb.at k)) (ic_mul k F (by omega) slim)) (.inl rfl) (by unfold aop; rw [if_pos rfl, totalC_succ])) fun vq g7 h7 c7 s7 p7 => ?_
      exact ⟨g7, w5.g.trans s7, _, vq, rfl, c7, (s4.trans w5.g).trans s7, p7⟩
    · rintro s' g4 h4 sg4 ⟨o5, vt, rfl, c4, s4, p4⟩
      refine s_ret c4 ((ev_op (ev_fr0 (ev_var rfl p4)) ev_c (rv_ne rfl)).is (congrArg V.bl (num_dec _))) fun v g6 h6 c6 s6 p6 => q v g6 h6 c6.w ?_
      have e : isContr A b f = decide (totalC b f n ≠ 0) := by
        unfold isContr
        rw [hAl, hw]
        have : (List.range n).all (fun j => decide (total A f j n = 0)) = true := List.all_eq_true.mpr fun j hj => decide_eq_true (hz j (List.mem_range.mp hj))
        rw [this, Bool.true_and]
      rw [e]
      exact p6
end
end KW
end
section
set_option Elab.async false
set_option linter.all false
set_option maxRecDepth 100000
set_option maxHeartbeats 2000000
set_option exponentiation.threshold 20000
namespace KW
open PySem PySem.Spec PyProof.Rows L2
open K97 (Sz RowSz at0 Sq Reg Solves rightOf inner ent colsOf rowsOf)
theorem hu65 {A : Around} {k : Nat} (hr : Room k A) : A.units + 65 < cLine := by have := hr.un; omega
/-! ### keys as data -/
def kdat (j : Nat) : PyData := .tuple [.str (Str.ofString "var"), .str (xS j), .int 0]
theorem key_eqv : ∀ i < 8, ∀ j < 8, PyData.eqv (kdat i) (kdat j) = decide (i = j) := by decide +kernel
theorem key_shp : ∀ j < 8, SeqAt.shaped (kdat j) = true := by decide +kernel
theorem keys_shp : ∀ n < 8, SeqAt.shaped (.list ((List.range n).map kdat)) = true := by decide +kernel
theorem name_cut : ∀ i < 8, PySem.intText? (cutS (eS i) (some 1) none) = some (i : Int) ∧ (cutS (eS i) (some 1) none).length ≤ 640 ∧ (eS i).length ≤ 640 := by decide +kernel
theorem txt_len : ∀ i < 8, (Str.ofString (toString ((i : Nat) : Int))).length ≤ 640 := by decide +kernel
section
variable {P : Program} {w : World} {K : PySem.W.Frag} {mg : Str → Option Value} {base : Heap} {C : Addr} {σ : L2.St} {G0 H0 G H : Hp} {cs : List (Addr × HO)} {ta tb te : TE} {D : Ends} {u t : TS}
theorem dp_key {j : Nat} {v : V} (h : RK (kK j) v G) : Dp K G v (kdat j) := by
  obtain ⟨b, rfl, hb⟩ := h
  exact .tup (.inl (.inl hb)) (.cons (.str _) (.cons (.str _) (.cons (.int _) .nil)))
theorem dp_keys : ∀ {l : List Nat} {vs : List V}, F2 (l.map fun k => RK (kK k)) vs G → DpAll K G vs (l.map kdat)
  | [], [], _ => .nil
  | _ :: _, [], h => h.elim
  | [], _ :: _, h => h.elim
  | _ :: _, _ :: _, h => .cons (dp_key h.1) (dp_keys h.2)
theorem ev_index {n j : Nat} (h1 : EvP ta σ G cs (RKs (List.range n))) (h2 : EvP tb σ G cs (RK (kK j))) (hn : n ≤ 5) (hj : j < n) : EvP (tBM K "list" (rIndexD K) ta (tCons tb tNil)) σ G cs (RV (.int (j : Int))) := fun H s hc Q q =>
  h1 H s hc _ fun x G1 H1 w1 p1 => by
    obtain ⟨a, vs, rfl, ha, hf⟩ := p1
    refine ⟨.inl ⟨rfl, _, .inl (.inl (w1.s _ _ ha))⟩, (h2.up w1.g) H1 w1.s (hc.up w1) _ fun y G2 H2 w2 p2 => ?_⟩
    refine ⟨a, y, kdat j, (List.range n).map kdat, j, kdat j, rfl, rfl, .lst (.inl (.inl (w2.h _ _ (w1.s _ _ ha)))) (dp_keys (hf.mono (moA_map (f := fun k => RK (kK k))).mo (w2.g.trans w2.s))), dp_key (up w2.s p2), keys_shp n (by omega), key_shp j (by omega), by rw [List.getElem?_map, List.getElem?_range hj]; rfl, by rw [key_eqv j (by omega) j (by omega)]; simp, fun m z hm hz => ?_, q _ G2 H2 (w1.trans w2) rfl⟩
    rw [List.getElem?_map, List.getElem?_range (by omega)] at hz
    cases hz
    rw [key_eqv m (by omega) j (by omega), decide_eq_false (by omega)]
theorem ev_addS {a b : Str} (h1 : EvP ta σ G cs (RV (.str a))) (h2 : EvP tb σ G cs (RV (.str b))) (hl : a.length + b.length ≤ 2000) : EvP (tOp (fun x y H Q => ∃ i j, x = V.str i ∧ y = V.str j ∧ i.length + j.length ≤ sizeLine ∧ Q (.str (i ++ j)) H) ta tb) σ G cs (RV (.str (a ++ b))) :=
  ev_op h1 h2 fun x y G p1 p2 H s hc Q q => by
    obtain rfl : x = .str a := p1
    obtain rfl : y = .str b := p2
    exact ⟨a, b, rfl, rfl, Nat.le_trans hl (by decide), q _ G H (.refl s) rfl⟩
theorem ev_strI {i : Nat} (h : EvP te σ G cs (RV (.int (i : Int)))) (hi : i < 8) : EvP (tCB (fun xs H Q => ∃ i, xs = [V.int i] ∧ i.natAbs.log2 < 1920 ∧ Q (.str (toString i)) H) (tCons te tNil)) σ G cs (RV (.str (Str.ofString (toString ((i : Nat) : Int))))) :=
  ev_CB (ea_cons h ea_nil) fun xs G pa H s hc Q q => by
    obtain ⟨v, rfl, p⟩ := one_of pa
    obtain rfl : v = .int (i : Int) := p
    refine ⟨i, rfl, ?_, q _ G H (.refl s) rfl⟩
    have h0 : ∀ i < 8, ((i : Nat) : Int).natAbs.log2 < 1920 := by decide
    exact h0 i hi
theorem ev_eS {i : Nat} (h : EvP te σ G cs (RV (.int (i : Int)))) (hi : i < 8) : EvP (tOp (fun x y H Q => ∃ i j, x = V.str i ∧ y = V.str j ∧ i.length + j.length ≤ sizeLine ∧ Q (.str (i ++ j)) H) (tC (.str (Str.ofString "e"))) (tCB (fun xs H Q => ∃ i, xs = [V.int i] ∧ i.natAbs.log2 < 1920 ∧ Q (.str (toString i)) H) (tCons te tNil))) σ G cs (RV (.str (eS i))) :=
  ev_addS ev_c (ev_strI h hi) (by have := txt_len i hi; have h1 : (Str.ofString "e").length = 1 := rfl; omega)
theorem ev_xS {i : Nat} (h : EvP te σ G cs (RV (.int (i : Int)))) (hi : i < 8) : EvP (tOp (fun x y H Q => ∃ i j, x = V.str i ∧ y = V.str j ∧ i.length + j.length ≤ sizeLine ∧ Q (.str (i ++ j)) H) (tC (.str (Str.ofString "x"))) (tCB (fun xs H Q => ∃ i, xs = [V.int i] ∧ i.natAbs.log2 < 1920 ∧ Q (.str (toString i)) H) (tCons te tNil))) σ G cs (RV (.str (xS i))) :=
  ev_addS ev_c (ev_strI h hi) (by have := txt_len i hi; have h1 : (Str.ofString "x").length = 1 := rfl; omega)
theorem RK.of3 {j : Nat} {v : V} (h : RT [RV (.str (Str.ofString "var")), RV (.str (xS j)), RV (.int 0)] v G) : RK (kK j) v G := by
  obtain ⟨a, us, rfl, ha, hf⟩ := h
  obtain ⟨x, y, z, rfl, h1, h2, h3⟩ := three_of hf
  obtain rfl : x = _ := h1
  obtain rfl : y = _ := h2
  obtain rfl : z = _ := h3
  exact ⟨a, rfl, ha⟩
theorem ev_cut {i : Nat} (h : EvP te σ G cs (RS i)) (hi : i < 8) : EvP (tCB (fun xs H Q => ∃ a n, xs = [V.str a] ∧ PySem.intText? a = some n ∧ a.length ≤ 640 ∧ Q (.int n) H) (tCons (tSl rSlS te (tPart (tC (.int 1))) tNoPart) tNil)) σ G cs (RV (.int (i : Int))) := fun H s hc Q q =>
  h H s hc _ fun v G2 H2 w p => by
    obtain rfl : v = .str (eS i) := p
    obtain ⟨h1, h2, h3⟩ := name_cut i hi
    exact ⟨1, rfl, _, rfl, Nat.le_trans h3 (by decide), _, _, rfl, h1, h2, q _ G2 H2 w rfl⟩
/-- what is walked is first worked out -/
theorem q_forE {g : TG} {tb' : TS} {Pv : VP} (c : Cel G0 H0 G H cs) (h : EvP ta σ G cs Pv) (k : ∀ v G2 H2, Cel G0 H0 G2 H2 cs → L2.Same G G2 → Pv v G2 → tSeq (tFor (iList K (tC v)) g tb') u D σ H2) : tSeq (tFor (iList K ta) g tb') u D σ H :=
  h H c.s c.hc _ fun v G2 H2 w p => k v G2 H2 (c.go w) w.g p
theorem ev_cP {P : VP} {v : V} (h : P v G) : EvP (tC v) σ G cs P := fun H s hc Q q => q v G H (.refl s) h
end
/-! ### sizes of the blocks' systems -/
def knownOf (xs : List Rat) (cols : List Nat) (j : Nat) : Option Rat := if j ∈ cols then some (at0 xs j) else none
theorem right_succ (A : List (List Rat)) (b : List Rat) (known : Nat → Option Rat) (r k : Nat) : rightOf A b known r (k + 1) = match known k with
    | none => rightOf A b known r k
    | some v => rightOf A b known r k - ent A r k * v := by
  unfold rightOf
  rw [List.range_succ, List.foldl_append]
  rfl
theorem right_sz {A : List (List Rat)} {b xs : List Rat} {cols : List Nat} {r : Nat} (hr : r < A.length) (sA : ∀ r ∈ A, RowSz 2 r) (sb : RowSz 2 b) (sx : RowSz 127 xs) : ∀ k, Sz (2 + ((List.range k).filter fun j => decide (j ∈ cols)).length * 130) (rightOf A b (knownOf xs cols) r k)
  | 0 => sb.at r
  | k + 1 => by
    have ih := right_sz (cols := cols) hr sA sb sx k
    rw [right_succ, List.range_succ, List.filter_append, List.length_append]
    unfold knownOf at ih ⊢
    by_cases e : k ∈ cols
    · rw [if_pos e, List.filter_cons, if_pos (decide_eq_true e)]
      refine (ih.sub ((ent_sz sA hr k).mul (sx.at k))).mono ?_
      rw [Nat.add_mul]
      simp
      omega
    · rw [if_neg e]
      exact ih.mono (by rw [Nat.add_mul]; omega)
theorem right_fit {A : List (List Rat)} {b xs : List Rat} {cols : List Nat} {r m k : Nat} (hr : r < A.length) (sA : ∀ r ∈ A, RowSz 2 r) (sb : RowSz 2 b) (sx : RowSz 127 xs) (hm : cols.length ≤ m) : Sz (2 + m * 130) (rightOf A b (knownOf xs cols) r k) := by
  refine (right_sz (cols := cols) hr sA sb sx k).mono ?_
  have h := K97.nodup_le (l := (List.range k).filter fun j => decide (j ∈ cols)) (m := cols) (List.nodup_range.filter _) fun x hx => of_decide_eq_true (List.mem_filter.mp hx).2
  have := Nat.mul_le_mul_right 130 (Nat.le_trans h hm)
  omega
end KW
end
section
set_option Elab.async false
set_option linter.all false
set_option maxRecDepth 100000
set_option maxHeartbeats 4000000
set_option exponentiation.threshold 20000
namespace KW
open PySem PySem.Spec PyProof.Rows L2
open K97 (Sz RowSz at0 Sq Reg Solves rightOf inner ent colsOf rowsOf jn graphOf matchM keyOf groupsOf)
abbrev sLBb : Stmt := top 43
def N_LBb : List Str := ["_law_rows", "_law_constants", "_law_many", "_law_k", "_law_keys", "_law_table", "_law_n", "_law_known", "_law_names", "_law_found", "_law_columns", "_law_inner", "_law_right", "_law_name", "_law_rest", "_law_values", "_law_key"]
theorem scLBb : FnScope N_LBb ["_law_rows", "_law_constants"] (defScope sLBb) := ⟨rfl, rfl, rfl, by decide +kernel, rfl, by decide +kernel, by decide +kernel⟩
structure BbIn where
  A : List (List Rat)
  b : List Rat
  n : Nat
  xs : List Rat
structure BbPre (x : BbIn) : Prop where
  sq : Sq x.A x.n
  reg : Reg x.A x.n
  lb : x.b.length = x.n
  few : x.n ≤ 5
  sA : ∀ r ∈ x.A, RowSz 2 r
  sb : RowSz 2 x.b
  sol : Solves x.A x.b x.n fun j => at0 x.xs j
  lx : x.xs.length = x.n
  sx : RowSz 127 x.xs
def spLBb (C : Addr) : Sp := spF (fun (x : BbIn) vs G => F2 [RMat C x.A, RRow C x.b] vs G ∧ BbPre x) (fun x => RFs x.xs) 2
/-- the known values as they stand in the dict -/
def KwR (C : Addr) (xs : List Rat) (cols : List Nat) (kvs : List (L2.Key × V)) (G : Hp) : Prop := DRel (cols.map fun j : Nat => (.inl (j : Int) : L2.Key)) (cols.map fun j => RQ C (at0 xs j)) kvs G
theorem KwR.mono {C : Addr} {xs : List Rat} {cols : List Nat} {kvs : List (L2.Key × V)} {G G' : Hp} (h : KwR C xs cols kvs G) (e : L2.Same G G') : KwR C xs cols kvs G' := DRel.mono (m := moA_map) h e
theorem inl_inj {i j : Nat} (h : (.inl (i : Int) : L2.Key) = .inl (j : Int)) : i = j := by
  injection h with h
  omega
theorem KwR.has {C : Addr} {xs : List Rat} {cols : List Nat} {kvs : List (L2.Key × V)} {G : Hp} (h : KwR C xs cols kvs G) (j : Nat) : (valV kvs (.inl (j : Int))).isSome = decide (j ∈ cols) := by
  rw [DRel.has h]
  congr 1
  exact propext ⟨fun hm => by
    obtain ⟨i, hi, e⟩ := List.mem_map.mp hm
    exact inl_inj e ▸ hi, fun hm => List.mem_map.mpr ⟨j, hm, rfl⟩⟩
theorem KwR.get {C : Addr} {xs : List Rat} {cols : List Nat} {kvs : List (L2.Key × V)} {G : Hp} (h : KwR C xs cols kvs G) (nd : cols.Nodup) {j : Nat} (hj : j ∈ cols) : ∃ v, valV kvs (.inl (j : Int)) = some v ∧ RQ C (at0 xs j) v G := by
  obtain ⟨i, hi, e⟩ := List.mem_iff_getElem.mp hj
  obtain ⟨v, h1, _, h3⟩ := DRel.get h (nodup_map_inj nd fun a _ b _ e => inl_inj e) (i := i) (k := .inl (j : Int)) (R := RQ C (at0 xs j)) (by rw [List.getElem?_map, List.getElem?_eq_getElem hi, e]; rfl) (by rw [List.getElem?_map, List.getElem?_eq_getElem hi, e]; rfl)
  exact ⟨v, h1, h3⟩
theorem KwR.put {C : Addr} {xs : List Rat} {cols : List Nat} {kvs : List (L2.Key × V)} {G : Hp} (h : KwR C xs cols kvs G) {j : Nat} {v : V} (hj : j ∉ cols) (hv : RQ C (at0 xs j) v G) : KwR C xs (cols ++ [j]) (putK kvs (.inl (j : Int)) v) G := by
  have := DRel.put h (k := .inl (j : Int)) (v := v) (R := RQ C (at0 xs j)) (fun hm => by
    obtain ⟨i, hi, e⟩ := List.mem_map.mp hm
    exact hj (inl_inj e ▸ hi)) hv
  unfold KwR
  rw [List.map_append, List.map_append]
  exact this
theorem pe_indexK {X : Cx} {K : PySem.W.Frag} {o e : Expr} {es : List Expr} {to : TE} {t : TA} {apos cpos : Pos} (hu : X.A.units + 65 < cLine) (ho : PE X o to) (ha : PA X (e :: es) t) (hK : X.K = K := by rfl)
    (hbase : attributeBase o "index" X.env (eval o X.env) = eval o X.env := by rfl)
    (hfew : ((backTo cpos (starEach (e :: es) X.env)).all (fun x => !x.1) && (backToKw cpos (keywordEach [] X.env)).all (fun x => x.1.isSome)
      && decide ((e :: es).length + ([] : List Keyword).length + (if ([] : List Keyword).isEmpty then 0 else 1) < 30)) = true := by rfl)
    (hline : (apos.endLine == cpos.line) = true := by rfl) (hs : starEach (e :: es) X.env = (false, eval e X.env) :: starEach es X.env := by rfl) (hplain : (backTo cpos (starEach es X.env)).any (·.1) = false := by rfl) :
    PE X (.Call (.Attribute o "index" apos) (e :: es) [] cpos) (tBM K "list" (rIndexD K) to t) := by
  subst hK
  exact pe_bm PySem.F.plainAttrs_list PySem.F.slot_list_index PySem.F.type_list_index (mt_indexD hu) ho ha hbase hfew hline hs hplain
section
variable {P : Program} {w : World} {K : PySem.W.Frag} {mg : Str → Option Value} {base : Heap} {C CB CN CM : Addr} {σ : L2.St} {G0 H0 G H : Hp} {cs : List (Addr × HO)} {ta tb te : TE}
theorem dn_lbb (Dd : Df K mg "_law_by_blocks" sLBb) (B : Kit P w K mg base C) (L0 : Dn P w K mg base "_law_pair" 1 ["_law_value"] (spLPr C)) (D5 : Dn P w K mg base "blocks" 11 ["pair"] spBlo) (DX : DnX P w K mg base "solve_linear" 6 ["rows", "constants"] (spSol C CN CM)) : Dn P w K mg base "_law_by_blocks" 12 ["_law_rows", "_law_constants"] (spLBb C) := by
  refine dn_of Dd scLBb (fun _ _ _ _ _ _ us hl => match us, hl with | [_, _], _ => rfl) (fun vs H Q E h => h.1) (fun fa cdv A0 outer st H vs Q E hr h => ?_)
  obtain ⟨_, G, ⟨A, b, n, xs⟩, sg, ⟨hF, sq, reg, lb, few, sA, sb, sol, lx, sx⟩, q⟩ := h
  obtain ⟨v0, v1, rfl, h0, h1⟩ := two_of hF
  dsimp only at *
  have nd := scLBb.nd
  have hu := hu_of hr
  refine ⟨_, (pss_cons (ps_set (i := 2) nd rfl (.inl rfl) (pe_callB call_len_seq (by rfl) B.len PySem.boot_len (pa_cons (pv 0) pa_nil)))
  (pss_cons (ps_set (i := 4) nd rfl (.inr rfl) (pe_lc (own := [("_law_k", 3)]) (tt := tYes) rfl nd (pi_range1 (by rfl) B.range (pa_cons (pv 2) pa_nil)) (blkOk_by (N := N_LBb) (sc := defScope sLBb) (by decide +kernel)) (fun _ _ _ _ _ => (pg_name (i := 3) nd rfl (.inl rfl))) (fun _ _ _ _ _ => pts_nil) (fun _ _ _ _ _ => (pe_tup (pa_cons pe_str (pa_cons (pe_op op_add_str pe_str (pe_callTy call_str_int (by rfl) B.str (by rfl) (pa_cons (pv 3) pa_nil))) (pa_cons pe_int pa_nil)))))))
  (pss_cons (ps_set (i := 5) nd rfl (.inl rfl) pe_dnewK)
  (pss_cons (ps_for PassesOwn.never rfl (pi_range1 (by rfl) B.range (pa_cons (pv 2) pa_nil)) (pg_name (i := 3) nd rfl (.inr rfl))
  (pss_one (ps_dput hu (pv 5) (pe_op op_add_str pe_str (pe_callTy call_str_int (by rfl) B.str (by rfl) (pa_cons (pv 3) pa_nil))) (pe_lc (own := [("_law_n", 6)]) rfl nd (pi_range1 (by rfl) B.range (pa_cons (pv 2) pa_nil)) (blkOk_by (N := N_LBb) (sc := defScope sLBb) (by decide +kernel)) (fun _ _ _ _ _ => (pg_name (i := 6) nd rfl (.inl rfl))) (fun _ _ _ _ _ => (pts_one (pt_cmpR (op_qne B (hr.mono (by decide))) (pe_ix (r := rIxL K) ix_list (pe_ix (r := rIxL K) ix_list (pv 0) (pv 3) (fun _ _ => rfl)) (pv 6) (fun _ _ => rfl)) (pe_ratio1 B.T B.gd (hr.mono (by decide)) (by rfl) (pa_cons pe_int pa_nil)) (nomark _)))) (fun _ _ _ _ _ => (pe_ix (r := rIxL K) ix_list (pv 4) (pv 6) (fun _ _ => rfl)))) rfl)))
  (pss_cons (ps_set (i := 7) nd rfl (.inr rfl) pe_dnewK)
  (pss_cons (ps_for PassesOwn.never rfl (pi_list (pe_dn D5 (hr.mono (by decide)) (by rfl) (pa_cons (pe_tup (pa_cons (pv 4) (pa_cons (pv 5) pa_nil))) pa_nil))) (pg_tup rfl (pgs_cons (pg_name (i := 8) nd rfl (.inl rfl)) (pgs_cons (pg_name (i := 9) nd rfl (.inl rfl)) pgs_nil)))
  (pss_cons (ps_setLc (i := 10) (own := [("_law_key", 16)]) (tt := tYes) rfl nd rfl rfl (sw_true rfl rfl rfl (by decide +kernel)) (pi_list (pv 9)) (blkOk_by (N := N_LBb) (sc := defScope sLBb) (by decide +kernel)) (fun _ _ _ _ _ => (pg_name (i := 16) nd rfl (.inl rfl))) (fun _ _ _ _ _ => pts_nil) (fun _ _ _ _ _ => (pe_indexK (K := K) (hu65 hr) (pv 4) (pa_cons (pv 16) pa_nil))))
    (pss_cons (ps_set (i := 11) nd rfl (.inl rfl) (pe_lst pa_nil))
    (pss_cons (ps_set (i := 12) nd rfl (.inl rfl) (pe_lst pa_nil))
    (pss_cons (ps_for PassesOwn.never rfl (pi_list (pv 8)) (pg_name (i := 13) nd rfl (.inl rfl))
    (pss_cons (ps_set (i := 3) nd rfl (.inr rfl) (pe_callTy call_int_str (by rfl) B.int (by rfl) (pa_cons (pe_slice sl_str (pv 13) (po_some pe_int) po_none) pa_nil)))
      (pss_cons (ps_set (i := 14) nd rfl (.inl rfl) (pe_ix ix_list (pv 1) (pv 3) (fun _ _ => rfl)))
      (pss_cons (ps_for PassesOwn.never rfl (pi_range1 (by rfl) B.range (pa_cons (pv 2) pa_nil)) (pg_name (i := 6) nd rfl (.inl rfl))
      (pss_one (ps_if (pt_cmp (pc_din hu (pv 6) (pv 7))) (pss_one (ps_set (i := 14) nd rfl (.inl rfl) (pe_op (op_qsub B (hr.mono (by decide))) (pv 14) (pe_op (op_qmul B (hr.mono (by decide))) (pe_ix ix_list (pe_ix ix_list (pv 0) (pv 3) (fun _ _ => rfl)) (pv 6) (fun _ _ => rfl)) (pe_dget hu (pv 7) (pv 6) (fun _ _ => rfl)))))) pss_nil)))
      (pss_cons (ps_expr (pe_bm PySem.F.plainAttrs_list PySem.F.slot_list_append PySem.F.type_list_append mt_append (pv 11) (pa_cons (pe_lc (own := [("_law_n", 6)]) (tt := tYes) rfl nd (pi_list (pv 10)) (blkOk_by (N := N_LBb) (sc := defScope sLBb) (by decide +kernel)) (fun _ _ _ _ _ => (pg_name (i := 6) nd rfl (.inl rfl))) (fun _ _ _ _ _ => pts_nil) (fun _ _ _ _ _ => (pe_ix (r := rIxL K) ix_list (pe_ix (r := rIxL K) ix_list (pv 0) (pv 3) (fun _ _ => rfl)) (pv 6) (fun _ _ => rfl)))) pa_nil)))
      (pss_one (ps_expr (pe_bm PySem.F.plainAttrs_list PySem.F.slot_list_append PySem.F.type_list_append mt_append (pv 12) (pa_cons (pv 14) pa_nil)))))))))
    (pss_cons (ps_set (i := 15) nd rfl (.inl rfl) (pe_dnx DX (hr.mono (by decide)) (by rfl) (pa_cons (pv 11) (pa_cons (pv 12) pa_nil))))
    (pss_one (ps_for PassesOwn.never rfl (pi_range1 (by rfl) B.range (pa_cons (pe_callB call_len_seq (by rfl) B.len PySem.boot_len (pa_cons (pv 10) pa_nil)) pa_nil)) (pg_name (i := 6) nd rfl (.inl rfl))
    (pss_one (ps_dput hu (pv 7) (pe_ix ix_list (pv 10) (pv 6) (fun _ _ => rfl)) (pe_ix ix_list (pv 15) (pv 6) (fun _ _ => rfl)) rfl))))))))))
  (pss_one (ps_ret (pe_lc (own := [("_law_n", 6)]) (tt := tYes) rfl nd (pi_range1 (by rfl) B.range (pa_cons (pv 2) pa_nil)) (blkOk_by (N := N_LBb) (sc := defScope sLBb) (by decide +kernel)) (fun _ _ _ _ _ => (pg_name (i := 6) nd rfl (.inl rfl))) (fun _ _ _ _ _ => pts_nil) (fun _ _ _ _ _ => (pe_dn L0 (hr.mono (by decide)) (by rfl) (pa_cons (pe_dget hu (pv 7) (pv 6) (fun _ _ => rfl)) pa_nil)))))))))))), ?_⟩
  have c : Cel G H G H [] := .start sg
  have hAl := sq.len
  have hrl : ∀ k, k < n → (K97.row A k).length = n := fun k hk => sq.row _ (K97.row_mem (by omega))
  refine q_set c (P := RV (.int (n : Int))) ((ev_lenM (ev_var rfl h0)).is (by rw [hAl])) fun vn G1 H1 c1 s1 p1 => ?_
  obtain rfl : vn = .int (n : Int) := p1
  refine q_set c1 (P := RKs (List.range n)) ?_ fun vk G2 H2 c2 s2 pk => ?_
  · unfold RKs
    refine ev_lcA (n := n) (ew_range (n := n) (ea_cons (ev_var rfl rfl) ea_nil) (by omega)) (by omega) (fun k => RK (kK k)) fun i x g' hi sg' hY h' s' kk qq => ?_
    obtain rfl : x = .int (i : Int) := hY
    exact qq _ rfl ((ev_tup (ea_cons ev_c (ea_cons (ev_xS (ev_var rfl rfl) (by omega)) (ea_cons ev_c ea_nil)))).imp fun v G2 _ p => .of3 p)
  have hkn : ((List.range n).map eK).Nodup := nodup_map_inj List.nodup_range fun a ha b hb e => eK_inj (by have := List.mem_range.mp ha; omega) (by have := List.mem_range.mp hb; omega) e
  refine q_setN c2 en_dK fun dj o G3 H3 c3 s3 ho => ?_
  subst ho
  have s03 := (s1.trans s2).trans s3
  refine q_for (cs' := []) c3 (ew_range (n := n) (ea_cons (ev_var rfl rfl) ea_nil) (by omega))
    (fun i s' g h => ∃ o3 jvs, s' = [some v0, some v1, some (.int (n : Int)), o3, some vk, some (.ref dj), none, none, none, none, none, none, none, none, none, none, none] ∧ Cel G H g h [(dj, .dK jvs)] ∧ L2.Same G3 g ∧
      DRel ((List.range i).map eK) ((List.range i).map fun a => RKs (jn (graphOf A) a)) jvs g)
    (fun i s' g h ⟨_, _, _, cc, _⟩ => ⟨cc.s, .nil⟩) (fun G4 H4 c4 s4 => ⟨none, [], rfl, c4, s4, .nil⟩) ?_ ?_
  · rintro i s' g h x hi sg' ⟨o3, jvs, rfl, cc, sG, hj⟩ g2 h2 w2 hY
    obtain rfl : x = .int (i : Int) := hY
    have sS := sG.trans w2.g
    refine s_dputK (k := eK i) (P := RKs (jn (graphOf A) i)) (cc.go w2) ?_ (ev_var rfl rfl) (ev_eS (ev_var rfl rfl) (by omega)) (by
      have := hj.len.1
      rw [List.length_map, List.length_range] at this
      omega) fun v g4 h4 c4 s4 p4 => ?_
    · unfold RKs
      rw [K97.jn_graph (by omega : i < A.length), hAl]
      refine ev_lc (n := n) (ew_range (n := n) (ea_cons (ev_var rfl rfl) ea_nil) (by omega)) (by omega) (fun j => decide (ent A i j ≠ 0)) (fun j => RK (kK j)) fun j x g' hj sg2 hY h' s' kk qq => ?_
      obtain rfl : x = .int (j : Int) := hY
      have a1 := up ((s03.trans sS).trans sg2) h0
      refine qq _ rfl ((et_test (ev_qne (ev_ixR (ev_ixM (ev_var rfl a1) (ev_var rfl rfl) (by omega)) (ev_var rfl rfl) (by rw [hrl i hi]; exact hj)) (ev_q0 ev_c))).is ?_) fun _ => ev_op (P1 := RKs (List.range n)) (ev_var rfl (up ((s3.trans sS).trans sg2) pk)) (ev_var rfl rfl) (rv_ixL (i := j) (by rw [List.getElem?_map, List.getElem?_range hj]; rfl))
      show (!decide (ent A i j = 0)) = decide (¬ (ent A i j = 0))
      rw [decide_not]
    · have s24 := w2.g.trans s4
      refine ⟨g4, s24, _, _, rfl, c4, sG.trans s24, ?_⟩
      have hp := (hj.mono (m := moA_map) s24).put (k := eK i) (v := v) (R := RKs (jn (graphOf A) i)) (fun hm => by
        obtain ⟨a, ha, e⟩ := List.mem_map.mp hm
        have ha := List.mem_range.mp ha
        have := eK_inj (by omega) (by omega) e
        omega) p4
      rw [List.range_succ, List.map_append, List.map_append]
      exact hp
  rintro s' g h sg' ⟨o3, jvs, rfl, cc, sG, hj⟩
  have hjr : JR (graphOf A) jvs g := ⟨fun i hi => by
    rw [graph_nm hAl] at hi
    have hi := List.mem_range.mp hi
    obtain ⟨v, h1, _, h3⟩ := hj.get hkn (i := i) (k := eK i) (R := RKs (jn (graphOf A) i)) (by rw [List.getElem?_map, List.getElem?_range hi]; rfl) (by rw [List.getElem?_map, List.getElem?_range hi]; rfl)
    exact ⟨v, h1, h3⟩⟩
  refine q_setN cc en_dK fun dk o G5 H5 c5 s5 ho => ?_
  subst ho
  have s35 := (s3.trans sG).trans s5
  refine q_forE (Pv := RBl A n) c5 (ev_callC (In := _) (cells := _) (Out := fun (x : BloIn) => RBl x.A x.n) (n := 1) (⟨A, n, dj, jvs⟩ : BloIn) (ea_cons (P1 := RT [RKs (List.range n), RV (.ref dj)]) (ev_tup (ea_cons (ev_var rfl (up s35 pk)) (ea_cons (ev_var rfl rfl) ea_nil))) ea_nil) (F2.length_is rfl) (fun vs G2 s f => ⟨f, ⟨sq, reg, few, hjr.mono (s5.trans s), hj.1⟩⟩) (by simp) (by simp)) fun vb G6 H6 c6 s6 hb => ?_
  obtain ⟨bl, hb1, hb2, hbl⟩ := hb
  have O := K97.blocks_ok sq (by omega) (K97.mat1_ok sq (K97.reg_match sq (by omega) reg)) hb1 hb2
  have s36 := s35.trans s6
  have s06 := (s1.trans s2).trans s36
  have h0 := up s06 h0
  have h1 := up s06 h1
  have pk := up s36 pk
  refine q_for (cs' := []) c6 (ew_listN (n := bl.length) (Rs := bl.map fun q => RT [RSs q.1, RKs q.2]) (ev_cP hbl) (by rw [List.length_map]))
    (fun i s' g h => ∃ o3 o6 o8 o9 o10 o11 o12 o13 o14 o15 kvs, s' = [some v0, some v1, some (.int (n : Int)), o3, some vk, some (.ref dj), o6, some (.ref dk), o8, o9, o10, o11, o12, o13, o14, o15, none] ∧ Cel G H g h [(dk, .dK kvs), (dj, .dK jvs)] ∧ L2.Same G6 g ∧ KwR C xs (colsOf (bl.take i)) kvs g)
    (fun i s' g h ⟨_, _, _, _, _, _, _, _, _, _, _, _, cc, _⟩ => ⟨cc.s, .nil⟩) (fun G7 H7 c7 s7 => ⟨o3, none, none, none, none, none, none, none, none, none, [], rfl, c7, s7, DRel.nil⟩) ?_ ?_
  · rintro i s' g7 h7 x hi sg7 ⟨o3, o6, o8, o9, o10, o11, o12, o13, o14, o15, kvs, rfl, c7, s7, hk⟩ g8 h8 w8 hY
    have hei := List.getElem?_eq_getElem hi
    have hY := hY.map hei
    have ebl : bl = bl.take i ++ bl[i] :: bl.drop (i + 1) := by
      conv => lhs; rw [← List.take_append_drop i bl]
      rw [List.drop_eq_getElem_cons hi]
    have etk : bl.take (i + 1) = bl.take i ++ [bl[i]] := (List.take_append_getElem hi).symm
    rcases hbi : bl[i] with ⟨gr, cl⟩
    rw [hbi] at hY ebl etk
    have hcl : cl.length = gr.length := O.same (gr, cl) (by rw [ebl]; exact List.mem_append_right _ List.mem_cons_self)
    have ec : colsOf bl = colsOf (bl.take i) ++ (cl ++ colsOf (bl.drop (i + 1))) := by
      conv => lhs; rw [ebl]
      rw [K97.colsOf_append, K97.colsOf_cons]
    have er : rowsOf bl = rowsOf (bl.take i) ++ (gr ++ rowsOf (bl.drop (i + 1))) := by
      conv => lhs; rw [ebl]
      rw [K97.rowsOf_append, K97.rowsOf_cons]
    have etc : colsOf (bl.take (i + 1)) = colsOf (bl.take i) ++ cl := by
      rw [etk, K97.colsOf_append, K97.colsOf_cons]
      show _ ++ (cl ++ []) = _
      rw [List.append_nil]
    have cnd := O.cnd
    rw [ec] at cnd
    obtain ⟨nd1, nd2, dj1⟩ := List.nodup_append.mp cnd
    obtain ⟨nd3, nd4, dj2⟩ := List.nodup_append.mp nd2
    have hclt : ∀ j ∈ cl, j < n := fun j hj => O.clt j (by rw [ec]; exact List.mem_append_right _ (List.mem_append_left _ hj))
    have hglt : ∀ r ∈ gr, r < n := fun r hr => O.rlt r (by rw [er]; exact List.mem_append_right _ (List.mem_append_left _ hr))
    have hlen : (colsOf (bl.take i)).length + cl.length ≤ n := by
      have h := K97.nodup_le (l := colsOf (bl.take i) ++ cl) (m := List.range n) (List.nodup_append.mpr ⟨nd1, nd3, fun a ha b hb => dj1 a ha b (List.mem_append_left _ hb)⟩) fun x hx => List.mem_range.mpr (O.clt x (by
        rw [ec]
        rcases List.mem_append.mp hx with hx | hx
        · exact List.mem_append_left _ hx
        · exact List.mem_append_right _ (List.mem_append_left _ hx)))
      rw [List.length_append, List.length_range] at h
      exact h
    have hbs := K97.block_solve sq reg O ebl sol (known := knownOf xs (colsOf (bl.take i))) (fun j hj => rfl)
    have hrsz : ∀ r ∈ gr, ∀ k, Sz 522 (rightOf A b (knownOf xs (colsOf (bl.take i))) r k) := fun r hr k => right_fit (m := 4) (by have := hglt r hr; omega) sA sb sx (by
      have : 0 < gr.length := List.length_pos_of_mem hr
      omega)
    generalize hcols : colsOf (bl.take i) = cols at *
    have fitB : FitA (inner A gr cl) (gr.map fun r => rightOf A b (knownOf xs cols) r n) 2 530 127 := fitA_of (K97.inner_sq hcl) (by omega) (by rw [List.length_map, hcl]) (fun r hr q hq => by
        obtain ⟨r0, hr0, rfl⟩ := List.mem_map.mp hr
        obtain ⟨c0, hc0, rfl⟩ := List.mem_map.mp hq
        exact ent_sz sA (by have := hglt r0 hr0; omega) c0) (fun q hq => by
        obtain ⟨r0, hr0, rfl⟩ := List.mem_map.mp hq
        exact (hrsz r0 hr0 n).mono (by omega)) (fun ys e => by
        rw [hbs] at e
        injection e with e
        subst e
        intro q hq
        obtain ⟨c0, hc0, rfl⟩ := List.mem_map.mp hq
        exact sx.at c0)
    have c8 := c7.go w8
    have hk := hk.mono w8.g
    have sA8 := s7.trans w8.g
    refine g_tup2 hY c8.s fun vg vc pg pc => ?_
    refine q_set c8 (P := RI cl) ?_ fun vl g9 h9 c9 s9 pl => ?_
    · unfold RI
      rw [← range_getD cl 0 fun j : Nat => RV (.int (j : Int))]
      refine ev_lcA (n := cl.length) (ew_listN (Rs := cl.map fun k => RK (kK k)) (ev_var rfl pc) (by rw [List.length_map])) (by omega) (fun j => RV (.int ((cl.getD j 0 : Nat) : Int))) fun j x g' hj sg2 hY h' s' kk qq => ?_
      have hY := hY.map (List.getElem?_eq_getElem hj)
      have gd : cl.getD j 0 = cl[j] := getD_get hj
      have hlt := hclt _ (List.getElem_mem hj)
      rw [← gd] at hY hlt
      exact qq _ rfl (ev_index (ev_var rfl (up ((sA8).trans sg2) pk)) (ev_var rfl hY) few hlt)
    refine q_setN c9 en_nil fun li o g10 h10 c10 s10 ho => ?_
    subst ho
    refine q_setN c10 en_nil fun lr o g11 h11 c11 s11 ho => ?_
    subst ho
    have s911 := s10.trans s11
    have sB := (sA8.trans s9).trans s911
    have hk11 := hk.mono (s9.trans s911)
    refine q_for (cs' := []) c11 (ew_listN (n := gr.length) (Rs := gr.map RS) (ev_var rfl (up (s9.trans s911) pg)) (by rw [List.length_map]))
      (fun k s' g h => ∃ o3 o6 o13 o14 xi xr, s' = [some v0, some v1, some (.int (n : Int)), o3, some vk, some (.ref dj), o6, some (.ref dk), some vg, some vc, some vl, some (.ref li), some (.ref lr), o13, o14, o15, none] ∧ Cel G H g h [(lr, .lst xr), (li, .lst xi), (dk, .dK kvs), (dj, .dK jvs)] ∧ L2.Same g11 g ∧
        F2 ((gr.take k).map fun r => RRow C (cl.map fun c => ent A r c)) xi g ∧ F2 ((gr.take k).map fun r => RQ C (rightOf A b (knownOf xs cols) r n)) xr g)
      (fun i s' g h ⟨_, _, _, _, _, _, _, cc, _⟩ => ⟨cc.s, .nil⟩) (fun G7 H7 c7 s7 => ⟨o3, o6, o13, o14, [], [], rfl, c7, s7, trivial, trivial⟩) ?_ ?_
    · rintro k s' g12 h12 x hk' sg12 ⟨o3, o6, o13, o14, xi, xr, rfl, c12, s12, hxi, hxr⟩ g13 h13 w13 hY
      have hek := List.getElem?_eq_getElem hk'
      have hY := hY.map hek
      have egk : gr.take (k + 1) = gr.take k ++ [gr[k]] := (List.take_append_getElem hk').symm
      have hrm := List.getElem_mem hk'
      generalize gr[k] = r at hY egk hrm
      have hrn := hglt r hrm
      have sC := sB.trans (s12.trans w13.g)
      have xi1000 : xi.length ≤ 1000 := by
        rw [← hxi.len, List.length_map, List.length_take]
        omega
      have xr1000 : xr.length ≤ 1000 := by
        rw [← hxr.len, List.length_map, List.length_take]
        omega
      have hk13 := hk11.mono (s12.trans w13.g)
      refine q_set (c12.go w13) (P := RV (.int (r : Int))) (ev_cut (ev_var rfl hY) (by omega)) fun v g14 h14 c14 s14 p14 => ?_
      obtain rfl : v = .int (r : Int) := p14
      refine q_set c14 (P := RQ C (rightOf A b (knownOf xs cols) r 0)) (ev_ixR (ev_var rfl (up (sC.trans s14) h1)) (ev_var rfl rfl) (by omega)) fun v g15 h15 c15 s15 p15 => ?_
      have s1415 := s14.trans s15
      refine q_for (cs' := []) c15 (ew_range (n := n) (ea_cons (ev_var rfl rfl) ea_nil) (by omega))
        (fun j s' g h => ∃ o6 vr, s' = [some v0, some v1, some (.int (n : Int)), some (.int (r : Int)), some vk, some (.ref dj), o6, some (.ref dk), some vg, some vc, some vl, some (.ref li), some (.ref lr), some x, some vr, o15, none] ∧ Cel G H g h [(lr, .lst xr), (li, .lst xi), (dk, .dK kvs), (dj, .dK jvs)] ∧ L2.Same g15 g ∧
          RQ C (rightOf A b (knownOf xs cols) r j) vr g)
        (fun i s' g h ⟨_, _, _, cc, _⟩ => ⟨cc.s, .nil⟩) (fun G7 H7 c7 s7 => ⟨o6, v, rfl, c7, s7, up s7 p15⟩) ?_ ?_
      · rintro j s' g16 h16 y hj' sg16 ⟨o6, vr, rfl, c16, s16, p16⟩ g17 h17 w17 hY
        obtain rfl : y = .int (j : Int) := hY
        have c17 := c16.go w17
        have sD := s1415.trans (s16.trans w17.g)
        have p17 := up w17.g p16
        have hk17 := hk13.mono sD
        have hin := hk17.has j
        refine s_if c17 (et_B (ev_dinK (k := .inl (j : Int)) mem_3 (.inl rfl) (ev_var rfl rfl) (ev_var rfl rfl))) (fun hb g18 h18 c18 s18 => ?_) (fun hb g18 h18 c18 s18 => ?_)
        · rw [hin] at hb
          have hb := of_decide_eq_true hb
          obtain ⟨vj, hvj, hRj⟩ := hk17.get nd1 hb
          have e : rightOf A b (knownOf xs cols) r (j + 1) = rightOf A b (knownOf xs cols) r j - ent A r j * at0 xs j := by
            rw [right_succ]
            unfold knownOf
            rw [if_pos hb]
          refine s_set c18 (P := RQ C (rightOf A b (knownOf xs cols) r (j + 1))) ?_ fun v2 g19 h19 c19 s19 p19 => ?_
          · rw [e]
            refine ev_qop (ev_var rfl (up s18 p17)) (ev_qop (p := ent A r j) (q := at0 xs j) (ev_ixR (ev_ixM (ev_var rfl (up (sC.trans (sD.trans s18)) h0)) (ev_var rfl rfl) (by omega)) (ev_var rfl rfl) (by rw [hrl r hrn]; exact hj')) (ev_dgetK (k := .inl (j : Int)) (kvs := kvs) (d := dk) mem_3 (.inl rfl) (ev_var rfl rfl) (ev_var rfl rfl) hvj (up s18 hRj)) (.of (ent_sz sA (by omega) j) (sx.at j) (by omega))) (.of (hrsz r hrm j) ((ent_sz sA (by omega) j).mul (sx.at j)) (by omega))
          · exact ⟨g19, (w17.g.trans s18).trans s19, _, v2, rfl, c19, ((s16.trans w17.g).trans s18).trans s19, p19⟩
        · rw [hin] at hb
          have hb := of_decide_eq_false hb
          have e : rightOf A b (knownOf xs cols) r (j + 1) = rightOf A b (knownOf xs cols) r j := by
            rw [right_succ]
            unfold knownOf
            rw [if_neg hb]
          exact ⟨g18, w17.g.trans s18, _, vr, rfl, c18, (s16.trans w17.g).trans s18, by rw [e]; exact up s18 p17⟩
      · rintro s' g16 h16 sg16 ⟨o6, vr, rfl, c16, s16, p16⟩
        have sE := s1415.trans s16
        refine q_app (P := RRow C (cl.map fun c => ent A r c)) c16.swap rfl ?_ xi1000 fun vi g17 h17 c17 s17 p17 => ?_
        · unfold RRow
          rw [List.map_map, ← range_getD cl 0 (RQ C ∘ fun c => ent A r c)]
          refine ev_lcA (n := cl.length) (ew_listN (Rs := cl.map fun i : Nat => RV (.int (i : Int))) (ev_var rfl (up (s911.trans ((s12.trans w13.g).trans sE)) pl)) (by rw [List.length_map])) (by omega) (fun j => RQ C (ent A r (cl.getD j 0))) fun j x g' hj sg2 hY h' s' kk qq => ?_
          have hY := hY.map (List.getElem?_eq_getElem hj)
          have gd : cl.getD j 0 = cl[j] := getD_get hj
          have hlt := hclt _ (List.getElem_mem hj)
          rw [← gd] at hY hlt
          exact qq _ rfl (ev_ixR (ev_ixM (ev_var rfl (up ((sC.trans sE).trans sg2) h0)) (ev_var rfl rfl) (by omega)) (ev_var rfl hY) (by rw [hrl r hrn]; exact hlt))
        · refine s_app (P := RQ C (rightOf A b (knownOf xs cols) r n)) c17.swap rfl (ev_var rfl (up s17 p16)) xr1000 fun vq g18 h18 c18 s18 p18 => ?_
          have s1318 := ((w13.g.trans sE).trans s17).trans s18
          refine ⟨g18, s1318, _, _, _, _, xi ++ [vi], xr ++ [vq], rfl, c18, s12.trans s1318, ?_, ?_⟩
          · rw [egk, List.map_append]
            exact (hxi.mono (moA_map (f := fun r => RRow C (cl.map fun c => ent A r c))).mo s1318).snoc (up s18 p17)
          · rw [egk, List.map_append]
            exact (hxr.mono (moA_map (f := fun r => RQ C (rightOf A b (knownOf xs cols) r n))).mo s1318).snoc p18
    · rintro s' g12 h12 sg12 ⟨o3, o6, o13, o14, xi, xr, rfl, c12, s12, hxi, hxr⟩
      rw [List.take_length] at hxi hxr
      obtain ⟨c13, s13⟩ := c12.freeze
      obtain ⟨c14, s14⟩ := c13.freeze
      have s1214 := s13.trans s14
      have pr : RRow C (gr.map fun r => rightOf A b (knownOf xs cols) r n) (.ref lr) (upd (upd g12 lr (.lst xr)) li (.lst xi)) := ⟨lr, xr, rfl, s14 _ _ upd_same, by rw [List.map_map]; exact hxr.mono (moA_map (f := fun r => RQ C (rightOf A b (knownOf xs cols) r n))).mo s1214⟩
      have pi : RMat C (inner A gr cl) (.ref li) (upd (upd g12 lr (.lst xr)) li (.lst xi)) := ⟨li, xi, rfl, upd_same, by unfold inner; rw [List.map_map]; exact hxi.mono (moA_map (f := fun r => RRow C (cl.map fun c => ent A r c))).mo s1214⟩
      generalize upd (upd g12 lr (.lst xr)) li (.lst xi) = g14 at c14 s14 s1214 pr pi
      refine q_set c14 (P := RRow C (cl.map fun c => at0 xs c)) (ev_sol (ev_var rfl pi) (ev_var rfl pr) fitB hbs) fun vv g15 h15 c15 s15 p15 => ?_
      have pl15 := up (s911.trans (s12.trans (s1214.trans s15))) pl
      have hk15 := hk11.mono (s12.trans (s1214.trans s15))
      refine s_for (cs' := []) c15 (ew_range (n := cl.length) (ea_cons ((ev_len (Rs := cl.map fun i : Nat => RV (.int (i : Int))) (ev_var rfl pl15)).is (by rw [List.length_map])) ea_nil) (by omega))
        (fun j s' g h => ∃ o6 kvs, s' = [some v0, some v1, some (.int (n : Int)), o3, some vk, some (.ref dj), o6, some (.ref dk), some vg, some vc, some vl, some (.ref li), some (.ref lr), o13, o14, some vv, none] ∧ Cel G H g h [(dk, .dK kvs), (dj, .dK jvs)] ∧ L2.Same g15 g ∧ KwR C xs (cols ++ cl.take j) kvs g)
        (fun i s' g h ⟨_, _, _, cc, _⟩ => ⟨cc.s, .nil⟩) (fun G7 H7 c7 s7 => ⟨o6, kvs, rfl, c7, s7, by rw [List.take_zero, List.append_nil]; exact hk15.mono s7⟩) ?_ ?_
      · rintro j s' g16 h16 y hj' sg16 ⟨o6, kvs, rfl, c16, s16, hk16⟩ g17 h17 w17 hY
        obtain rfl : y = .int (j : Int) := hY
        have hmj : cl[j] ∈ cl := List.getElem_mem hj'
        have ecj : cl.take (j + 1) = cl.take j ++ [cl[j]] := (List.take_append_getElem hj').symm
        have hnotin : cl[j] ∉ cols ++ cl.take j := fun hm => by
          rcases List.mem_append.mp hm with hm | hm
          · exact dj1 _ hm _ (List.mem_append_left _ hmj) rfl
          · have h := nd3
            rw [← List.take_append_drop j cl, List.drop_eq_getElem_cons hj'] at h
            exact (List.nodup_append.mp h).2.2 _ hm _ List.mem_cons_self rfl
        have egj : (cl.map fun i : Nat => RV (.int (i : Int)))[j]? = some (RV (.int ((cl[j] : Nat) : Int))) := by rw [List.getElem?_map, List.getElem?_eq_getElem hj']; rfl
        have evj : at0 (cl.map fun c => at0 xs c) j = at0 xs cl[j] := by rw [K97.at0_lt (by rw [List.length_map]; exact hj'), List.getElem_map]
        generalize cl[j] = cj at hmj ecj hnotin egj evj
        have s17 := s16.trans w17.g
        refine s_dputK (k := .inl (cj : Int)) (P := RQ C (at0 xs cj)) (c16.go w17) (by rw [← evj]; exact ev_ixR (ev_var rfl (up s17 p15)) (ev_var rfl rfl) (by rw [List.length_map]; exact hj')) (ev_var rfl rfl) (ev_op (P1 := RI cl) (P2 := RV (.int (j : Int))) (ev_var rfl (up s17 pl15)) (ev_var rfl rfl) (rv_ixL egj)) (by
            have := DRel.len hk16
            rw [List.length_map, List.length_append, List.length_take] at this
            omega) fun vq g18 h18 c18 s18 p18 => ?_
        refine ⟨g18, w17.g.trans s18, _, _, rfl, c18, s17.trans s18, ?_⟩
        rw [ecj, ← List.append_assoc]
        exact (hk16.mono (w17.g.trans s18)).put hnotin p18
      · rintro s' g16 h16 sg16 ⟨o6, kvs, rfl, c16, s16, hk16⟩
        rw [List.take_length] at hk16
        refine ⟨g16, ((w8.g.trans (s9.trans s911)).trans s12).trans (s1214.trans (s15.trans s16)), _, _, _, _, _, _, _, _, _, _, _, rfl, c16, sB.trans (s12.trans (s1214.trans (s15.trans s16))), ?_⟩
        rw [etc]
        exact hk16
  · rintro s' g7 h7 sg7 ⟨o3, o6, o8, o9, o10, o11, o12, o13, o14, o15, kvs, rfl, c7, s7, hk⟩
    rw [List.take_length] at hk
    refine s_ret (P := RFs xs) c7 ?_ fun v g9 h9 c9 s9 p9 => q v g9 h9 c9.w p9
    unfold RFs
    rw [← range_getD xs 0 RFr, lx]
    refine ev_lcA (n := n) (ew_range (n := n) (ea_cons (ev_var rfl rfl) ea_nil) (by omega)) (by omega) (fun j => RFr (xs.getD j 0)) fun j x g' hj sg2 hY h' s' kk qq => ?_
    obtain rfl : x = .int (j : Int) := hY
    obtain ⟨vj, hvj, hRj⟩ := hk.get O.cnd (O.ccov j hj)
    exact qq _ rfl (ev_lpr (ev_dgetK (k := .inl (j : Int)) (kvs := kvs) (d := dk) mem_head (.inl rfl) (ev_var rfl rfl) (ev_var rfl rfl) hvj (up sg2 hRj)))
end
end KW
end
section
set_option Elab.async false
set_option linter.all false
set_option maxRecDepth 100000
set_option maxHeartbeats 2000000
set_option exponentiation.threshold 20000
namespace KW
open PySem PySem.Spec PyProof.Rows L2
open K97 (Sz RowSz at0 Sq Ent)
/-! ### what is worked out while the stream is drawn from -/
abbrev msk (H : Hp) (l : Addr) : Hp := mask H [(l, .lst [])]
section
variable {P : Program} {w : World} {K : PySem.W.Frag} {mg : Str → Option Value} {base : Heap} {C : Addr} {σ : L2.St} {G0 H0 G H G1 H1 G2 H2 : Hp} {cs : List (Addr × HO)} {ta tb te : TE} {D : Ends} {u t tu tw : TS} {l : Addr} {ns : List Int} {P1 P2 P3 R : VP} {i : Nat}
theorem msk_ne {a : Addr} (h : a ≠ l) : msk H l a = H a := mask_out (by simpa using h)
theorem Gs.of (w : Gw G H G2 H2) : Gw G (msk H l) G2 H2 := ⟨w.g, fun a u e => w.h a u (mask_some e).1, w.s, fun a u e1 e2 => w.f a u (mask_some e1).1 e2⟩
theorem Gs.trans (a : Gw G (msk H l) G1 H1) (b : Gw G1 (msk H1 l) G2 H2) : Gw G (msk H l) G2 H2 := by
  refine ⟨a.g.trans b.g, fun x u e => ?_, b.s, fun x u e1 e2 => ?_⟩
  · have ne : x ≠ l := by simpa using (mask_some e).2
    exact b.h x u (by rw [msk_ne ne]; exact a.h x u e)
  · have ne : x ≠ l := by simpa using (mask_some e1).2
    exact b.f x u (by rw [msk_ne ne]; exact a.h x u e1) (a.f x u e1 e2)
/-- the stream's list stands at l -/
def StAt (ns : List Int) (l : Addr) (G H : Hp) : Prop := G l = none ∧ ∃ xs, H l = some (.lst xs) ∧ StO ns xs G
theorem StAt.go (h : StAt ns l G H) (w : Gw G H G2 H2) : StAt ns l G2 H2 := by
  obtain ⟨h1, xs, h2, h3⟩ := h
  exact ⟨w.f _ _ h2 h1, xs, w.h _ _ h2, h3.mono w.g⟩
def Off (l : Addr) (cs : List (Addr × HO)) : Prop := ∀ c ∈ cs, c.1 ≠ l
theorem HC.upS (hc : HC cs G H) (off : Off l cs) (w : Gw G (msk H l) G2 H2) : HC cs G2 H2 := fun c h =>
  ⟨w.h _ _ (by rw [msk_ne (off c h)]; exact (hc c h).1), w.f _ _ (by rw [msk_ne (off c h)]; exact (hc c h).1) (hc c h).2⟩
def EvS (te : TE) (σ : L2.St) (ns : List Int) (l : Addr) (G : Hp) (cs : List (Addr × HO)) (P : VP) : Prop := ∀ H, L2.Same G H → HC cs G H → Off l cs → StAt ns l G H → ∀ Q : VK, (∀ v G2 H2, Gw G (msk H l) G2 H2 → StAt ns l G2 H2 → P v G2 → Q v H2) → te σ H Q
def EvSA (ta : TA) (σ : L2.St) (ns : List Int) (l : Addr) (G : Hp) (cs : List (Addr × HO)) (P : List V → Hp → Prop) : Prop := ∀ H, L2.Same G H → HC cs G H → Off l cs → StAt ns l G H → ∀ Q : List V → Hp → Prop, (∀ vs G2 H2, Gw G (msk H l) G2 H2 → StAt ns l G2 H2 → P vs G2 → Q vs H2) → ta σ H Q
def EvST (tt : TT) (σ : L2.St) (ns : List Int) (l : Addr) (G : Hp) (cs : List (Addr × HO)) : Prop := ∀ H, L2.Same G H → HC cs G H → Off l cs → StAt ns l G H → ∀ Q : Bool → Hp → Prop, (∀ b G2 H2, Gw G (msk H l) G2 H2 → StAt ns l G2 H2 → Q b H2) → tt σ H Q
theorem EvP.toS (h : EvP te σ G cs R) : EvS te σ ns l G cs R := fun H s hc off st Q q => h H s hc Q fun v G2 H2 w p => q v G2 H2 (Gs.of w) (st.go w) p
theorem EvS.imp (h : EvS te σ ns l G cs P1) (i : ∀ v G2, P1 v G2 → P2 v G2) : EvS te σ ns l G cs P2 := fun H s hc off st Q q => h H s hc off st Q fun v G2 H2 w st2 p => q v G2 H2 w st2 (i v G2 p)
/-- an int of these -/
def RFin (S : Int → Prop) : VP := fun v _ => ∃ i, S i ∧ v = .int i
instance {S : Int → Prop} : Mo (RFin S) := ⟨fun _ _ _ _ h => h⟩
def RB : VP := fun v _ => ∃ b, v = .bl b
instance : Mo RB := ⟨fun _ _ _ _ h => h⟩
def REnt (C : Addr) : VP := fun v G => ∃ q, Ent q ∧ RQ C q v G
instance : Mo (REnt C) := ⟨fun _ _ _ e ⟨q, h1, h2⟩ => ⟨q, h1, up e h2⟩⟩
theorem es_c {z : Int} : EvS (tC (.int z)) σ ns l G cs (RFin fun j => j = z) := (ev_c (v := .int z)).toS.imp fun v _ h => ⟨z, rfl, h⟩
theorem es_draw (many : Nat) (hi : σ[i]? = some (some (.ref l))) (h0 : 0 < many) (h1 : many ≤ 1000) (few : ns.length ≤ 63) : EvS (tCall spLDr [] E0 (tCons (tVar i) (tCons (tC (.int (many : Int))) tNil))) σ ns l G cs (RFin fun j => 0 ≤ j ∧ j < (many : Int)) := fun H s hc off st Q q => by
  obtain ⟨hl, xs, hx, so⟩ := st
  refine ⟨.ref l, hi, rfl, G, ns, l, xs, many, s, rfl, h0, h1, few, fun c hc => ?_, so, fun d ys G2 H2 hd w g2 h2 so2 => q _ G2 H2 w ⟨g2, ys, h2, so2⟩ ⟨(d : Int), ⟨by omega, by omega⟩, rfl⟩⟩
  obtain rfl := List.mem_singleton.mp hc
  exact ⟨hx, hl⟩
theorem es_op {r : R2} [m1 : Mo P1] (ha : EvS ta σ ns l G cs P1) (hb : ∀ G', L2.Same G G' → EvS tb σ ns l G' cs P2) (hr : RvP cs r P1 P2 P3) : EvS (tOp r ta tb) σ ns l G cs P3 := fun H s hc off st Q q =>
  ha H s hc off st _ fun x G1 H1 w1 st1 p1 => hb G1 w1.g H1 w1.s (hc.upS off w1) off st1 _ fun y G2 H2 w2 st2 p2 =>
    hr x y G2 (m1.mo _ _ _ w2.g p1) p2 H2 w2.s ((hc.upS off w1).upS off w2) Q fun v G3 H3 w3 p3 => q v G3 H3 (Gs.trans (Gs.trans w1 w2) (Gs.of w3)) (st2.go w3) p3
theorem rv_fin {f : Int → Int → Int} {S T U : Int → Prop} (h : ∀ i j, S i → T j → U (f i j)) : RvP cs (rI0 fun i j => .int (f i j)) (RFin S) (RFin T) (RFin U) := fun x y G p1 p2 H s hc Q q => by
  obtain ⟨i, hi, rfl⟩ := p1
  obtain ⟨j, hj, rfl⟩ := p2
  exact ⟨i, j, rfl, rfl, q _ G H (.refl s) ⟨_, h i j hi hj, rfl⟩⟩
theorem rv_finB {f : Int → Int → Bool} {S T : Int → Prop} : RvP cs (rI0 fun i j => .bl (f i j)) (RFin S) (RFin T) RB := fun x y G p1 p2 H s hc Q q => by
  obtain ⟨i, hi, rfl⟩ := p1
  obtain ⟨j, hj, rfl⟩ := p2
  exact ⟨i, j, rfl, rfl, q _ G H (.refl s) ⟨_, rfl⟩⟩
theorem rv_finEq {S T : Int → Prop} : RvP cs rEq (RFin S) (RFin T) RB := fun x y G p1 p2 H s hc Q q => by
  obtain ⟨i, hi, rfl⟩ := p1
  obtain ⟨j, hj, rfl⟩ := p2
  exact ⟨rfl, q _ G H (.refl s) ⟨_, rfl⟩⟩
theorem est_of (h : EvS te σ ns l G cs RB) : EvST (tTest te) σ ns l G cs := fun H s hc off st Q q => h H s hc off st _ fun v G2 H2 w st2 p => by
  obtain ⟨b, rfl⟩ := p
  exact ⟨b, rfl, q b G2 H2 w st2⟩
theorem est_and {t u : TT} (h1 : EvST t σ ns l G cs) (h2 : ∀ G', L2.Same G G' → EvST u σ ns l G' cs) : EvST (tAnd t u) σ ns l G cs := fun H s hc off st Q q => h1 H s hc off st _ fun b G1 H1 w1 st1 => by
  cases b with
  | true => exact h2 G1 w1.g H1 w1.s (hc.upS off w1) off st1 Q fun b G2 H2 w2 st2 => q b G2 H2 (Gs.trans w1 w2) st2
  | false => exact q _ G1 H1 w1 st1
theorem est_or {t u : TT} (h1 : EvST t σ ns l G cs) (h2 : ∀ G', L2.Same G G' → EvST u σ ns l G' cs) : EvST (tOr t u) σ ns l G cs := fun H s hc off st Q q => h1 H s hc off st _ fun b G1 H1 w1 st1 => by
  cases b with
  | false => exact h2 G1 w1.g H1 w1.s (hc.upS off w1) off st1 Q fun b G2 H2 w2 st2 => q b G2 H2 (Gs.trans w1 w2) st2
  | true => exact q _ G1 H1 w1 st1
theorem esa_nil : EvSA tNil σ ns l G cs (F2 []) := fun H s hc off st Q q => q [] G H (Gs.of (.refl s)) st trivial
theorem esa_cons {tr : TA} {Rs : List VP} [m1 : Mo P1] (h : EvS ta σ ns l G cs P1) (hr : ∀ G', L2.Same G G' → EvSA tr σ ns l G' cs (F2 Rs)) : EvSA (tCons ta tr) σ ns l G cs (F2 (P1 :: Rs)) := fun H s hc off st Q q =>
  h H s hc off st _ fun x G1 H1 w1 st1 p1 => hr G1 w1.g H1 w1.s (hc.upS off w1) off st1 _ fun xs G2 H2 w2 st2 p2 => q (x :: xs) G2 H2 (Gs.trans w1 w2) st2 ⟨m1.mo _ _ _ w2.g p1, p2⟩
theorem small_big {n : Int} (h : n.natAbs ≤ 4) : n.natAbs < 2 ^ 13500 := Nat.lt_of_le_of_lt (Nat.le_trans h (show 4 ≤ 2 ^ 2 by decide)) (Nat.pow_lt_pow_right (by decide) (by decide))
theorem es_make2 {t : TA} {S T : Int → Prop} (hS : ∀ n, S n → n.natAbs ≤ 4) (hT : ∀ d, T d → d = 1 ∨ d = 2) (h : EvSA t σ ns l G cs (F2 [RFin S, RFin T])) : EvS (tMake C (spRI C) [] E0 t) σ ns l G cs (REnt C) := fun H s hc off st Q q =>
  h H s hc off st _ fun vs G1 H1 w st1 p x dx hx hdx ne => by
    obtain ⟨v, v2, rfl, ⟨n, h1, rfl⟩, d, h2, rfl⟩ := two_of p
    have hn := hS n h1
    have hd := hT d h2
    exact sp_make (sv := fun _ => True) w.s (by rcases hd with rfl | rfl <;> decide) ⟨small_big hn, small_big (by rcases hd with rfl | rfl <;> decide)⟩ (fun v G2 H2 w2 p => q v G2 H2 (Gs.trans w (Gs.of w2)) (st1.go w2) ⟨_, .mk hn hd, p⟩) x dx hx hdx ne
theorem es_make1 {t : TA} {S : Int → Prop} (hS : ∀ n, S n → n.natAbs ≤ 4) (h : EvSA t σ ns l G cs (F2 [RFin S])) : EvS (tMake C (spRI C) [.int 1] E0 t) σ ns l G cs (REnt C) := fun H s hc off st Q q =>
  h H s hc off st _ fun vs G1 H1 w st1 p x dx hx hdx ne => by
    obtain ⟨v, rfl, n, h1, rfl⟩ := one_of p
    have hn := hS n h1
    exact sp_make (sv := fun _ => True) w.s (by decide) ⟨small_big hn, small_big (by decide)⟩ (fun v G2 H2 w2 p => q v G2 H2 (Gs.trans w (Gs.of w2)) (st1.go w2) ⟨_, .mk hn (.inl rfl), p⟩) x dx hx hdx ne
/-! ### statements -/
theorem Cel.off {xs : List V} (c : Cel G0 H0 G H ((l, .lst xs) :: cs)) : Off l cs := fun x hx z => (List.nodup_cons.mp c.nd).1 (by
  have q := List.mem_map_of_mem (f := fun (p : Addr × HO) => p.1) hx
  rw [← z]
  exact q)
theorem Cel.stat {xs : List V} (c : Cel G0 H0 G H ((l, .lst xs) :: cs)) (so : StO ns xs G) : StAt ns l G H := ⟨(c.hc _ mem_head).2, xs, c.hd, so⟩
theorem q_setS {xs : List V} (c : Cel G0 H0 G H ((l, .lst xs) :: cs)) (so : StO ns xs G) (h : EvS te σ ns l G cs R) (k : ∀ v ys G2 H2, Cel G0 H0 G2 H2 ((l, .lst ys) :: cs) → L2.Same G G2 → StO ns ys G2 → R v G2 → u D (σ.set i (some v)) H2) : tSeq (tAsg te (gName i)) u D σ H :=
  h H c.s c.drop.hc c.off (c.stat so) _ fun v G2 H2 w st p => by
    obtain ⟨hl, ys, hy, so2⟩ := st
    exact k v ys G2 H2 (c.wrote w hy hl) w.g so2 p
theorem s_ifS {t : TT} {xs : List V} (c : Cel G0 H0 G H ((l, .lst xs) :: cs)) (so : StO ns xs G) (h : EvST t σ ns l G cs) (k1 : ∀ ys G2 H2, Cel G0 H0 G2 H2 ((l, .lst ys) :: cs) → L2.Same G G2 → StO ns ys G2 → tu D σ H2) (k2 : ∀ ys G2 H2, Cel G0 H0 G2 H2 ((l, .lst ys) :: cs) → L2.Same G G2 → StO ns ys G2 → tw D σ H2) : tIfS t tu tw D σ H :=
  h H c.s c.drop.hc c.off (c.stat so) _ fun b G2 H2 w st => by
    obtain ⟨hl, ys, hy, so2⟩ := st
    cases b with
    | true => exact k1 ys G2 H2 (c.wrote w hy hl) w.g so2
    | false => exact k2 ys G2 H2 (c.wrote w hy hl) w.g so2
theorem s_setLS {lw : Addr} {xs ws : List V} {jx j : Nat} (c : Cel G0 H0 G H ((l, .lst xs) :: (lw, .lst ws) :: cs)) (so : StO ns xs G) (h : EvS te σ ns l G ((lw, .lst ws) :: cs) R) (hl : σ[i]? = some (some (.ref lw))) (hi : σ[jx]? = some (some (.int (j : Int)))) (hj : j < ws.length)
    (k : ∀ v ys G2 H2, Cel G0 H0 G2 H2 ((l, .lst ys) :: (lw, .lst (ws.set j v)) :: cs) → L2.Same G G2 → StO ns ys G2 → R v G2 → D.nx σ H2) : tAsg te (gSub (tVar i) (tVar jx) rSetL) D σ H :=
  h H c.s c.drop.hc c.off (c.stat so) _ fun v G2 H2 w st p => by
    obtain ⟨hl2, ys, hy, so2⟩ := st
    have c2 := c.wrote w hy hl2
    refine ⟨.ref lw, hl, .int (j : Int), hi, lw, ws, _, j, rfl, rfl, c2.hd2, ?_, k v ys G2 _ (c2.swap.put _).swap w.g so2 p⟩
    unfold ixN
    rw [if_pos (Int.natCast_nonneg j), if_pos (by omega)]
    rfl
/-- cells beside the stream's -/
theorem Cel.goS (c : Cel G0 (msk H0 l) G H cs) (off : Off l cs) (w : Gw G (msk H l) G2 H2) : Cel G0 (msk H0 l) G2 H2 cs := by
  refine ⟨⟨c.w.g.trans w.g, fun x u e => ?_, w.s, fun x u e1 e2 => ?_⟩, fun x hx => ?_, c.nd⟩
  · have ne : x ≠ l := by simpa using (mask_some e).2
    exact w.h x u (by rw [msk_ne ne]; exact c.w.h x u e)
  · have ne : x ≠ l := by simpa using (mask_some e1).2
    exact w.f x u (by rw [msk_ne ne]; exact c.w.h x u e1) (c.w.f x u e1 e2)
  · obtain ⟨h1, h2, h3⟩ := c.at_ x hx
    exact ⟨w.h _ _ (by rw [msk_ne (off x hx)]; exact h1), w.f _ _ (by rw [msk_ne (off x hx)]; exact h1) h2, h3⟩
theorem es_lcA {wi : TI} {g : TG} {vs : List Nat} {n : Nat} {Y : Nat → VP} (hw : EvW wi σ G cs n Y) (hn : n ≤ 1000) [m : Mo R]
    (hb : ∀ i x g', i < n → L2.Same G g' → Y i x g' → ∀ h', L2.Same g' h' → ∀ k : L2.St → Hp → Prop, (∀ s2, wipe s2 vs = wipe σ vs → EvS te s2 ns l g' cs R → k s2 h') → g x (wipe σ vs) h' k) :
    EvS (tLc wi g tYes te vs) σ ns l G cs (RL (List.replicate n R)) := fun H s hc off st Q q =>
  hw H s hc _ fun J G1 H1 w1 wk L hL => by
    have st1 := st.go w1
    have hLl : L ≠ l := fun z => by
      obtain ⟨_, xs, hx, _⟩ := st1
      rw [← z, hL] at hx
      cases hx
    have c0 : Cel G (msk H l) G1 H1 [] := ⟨Gs.of w1, fun c h => by simp at h, List.nodup_nil⟩
    have c1 := c0.new (l := L) (o := .lst []) hL
    have offL : ∀ acc : List V, Off l [(L, HO.lst acc)] := fun acc c hc => by
      obtain rfl := List.mem_singleton.mp hc
      exact hLl
    have stU : ∀ {g' h' : Hp} {acc : List V}, StAt ns l g' h' → StAt ns l g' (upd h' L (.lst acc)) := fun {g' h' acc} h => by
      obtain ⟨k1, xs, k2, k3⟩ := h
      exact ⟨k1, xs, by rw [upd_ne (Ne.symm hLl)]; exact k2, k3⟩
    refine ⟨fun i m h' => m = n - i ∧ i ≤ n ∧ ∃ g' acc, L2.Same G1 g' ∧ Cel G (msk H l) g' h' [(L, .lst acc)] ∧ StAt ns l g' h' ∧ F2 (List.replicate i R) acc g', ⟨n, by simp, Nat.zero_le _, G1, [], .refl _, c1, stU st1, trivial⟩, ?_⟩
    rintro i m' h' ⟨rfl, hi, g', acc, sg, c, st', hf⟩
    have hc' : HC cs g' h' := hc.upS off c.w
    by_cases hlt : i < n
    · obtain ⟨hgo, hy⟩ := wk.1 i g' h' hlt sg c.s hc'
      refine .inr ⟨hgo, fun h => ∃ g4 acc', L2.Same g' g4 ∧ Cel G (msk H l) g4 h [(L, .lst acc')] ∧ StAt ns l g4 h ∧ F2 (List.replicate (i + 1) R) acc' g4, fun h ⟨g4, acc', a, b, d, e⟩ => ⟨n - (i + 1), by omega, rfl, hlt, g4, acc', sg.trans a, b, d, e⟩, fun x h2 y => ?_⟩
      obtain ⟨g2, w2, hY⟩ := hy x h2 y
      have c2 := c.go w2
      refine hb i x g2 hlt ((w1.g.trans sg).trans w2.g) hY h2 c2.s _ fun s2 hw2 he => ⟨hw2, ?_⟩
      show te s2 h2 _
      refine he h2 c2.s (hc.upS off c2.w) off (st'.go w2) _ fun v g4 h4 w4 st4 p => ?_
      have c4 := c2.goS (offL acc) w4
      have hlen : acc.length ≤ 1000 := by
        have e1 := hf.len
        rw [List.length_replicate] at e1
        omega
      refine ⟨acc, c4.hd, small1000 hlen, g4, acc ++ [v], w2.g.trans w4.g, c4.put _, stU st4, ?_⟩
      rw [List.replicate_succ']
      exact (hf.mono moA_rep.mo (w2.g.trans w4.g)).snoc p
    · have e : i = n := by omega
      subst e
      obtain ⟨c5, s5⟩ := c.freeze
      obtain ⟨k1, xs, k2, k3⟩ := st'
      exact .inl ⟨wk.2 g' h' sg c.s hc', q (.ref L) _ h' c5.w ⟨by rw [upd_ne (Ne.symm hLl)]; exact k1, xs, k2, k3.mono s5⟩ ⟨L, acc, rfl, upd_same, hf.mono moA_rep.mo s5⟩⟩
theorem ents_of : ∀ {n : Nat} {vs : List V} {G : Hp}, F2 (List.replicate n (REnt C)) vs G → ∃ b : List Rat, b.length = n ∧ (∀ q ∈ b, Ent q) ∧ F2 (b.map (RQ C)) vs G
  | 0, vs, G, h => by
    rw [F2.inv_nil h]
    exact ⟨[], rfl, fun q h => by simp at h, trivial⟩
  | n + 1, vs, G, h => by
    rw [List.replicate_succ] at h
    obtain ⟨v, r, rfl, ⟨q, h1, h2⟩, h3⟩ := h.inv_cons
    obtain ⟨b, e1, e2, e3⟩ := ents_of h3
    refine ⟨q :: b, by rw [List.length_cons, e1], fun x hx => ?_, h2, e3⟩
    rcases List.mem_cons.mp hx with rfl | hx
    · exact h1
    · exact e2 x hx
end
end KW
end
section
set_option Elab.async false
set_option linter.all false
set_option maxRecDepth 100000
set_option maxHeartbeats 4000000
set_option exponentiation.threshold 20000
namespace KW
open PySem PySem.Spec PyProof.Rows L2
open K97 (Sz RowSz at0 Sq Ent lawSol)
/-! ### the law -/
abbrev sLaw : Stmt := top 45
def N_Law : List Str := ["_law_script", "_law_stream_here", "_law_many", "_law_rows", "_law_k", "_law_n", "_law_row", "_law_constants", "_law_due", "_law_actual", "_law_factors", "_law_tears", "_law_x"]
theorem scLaw : FnScope N_Law ["_law_script"] (defScope sLaw) := ⟨rfl, rfl, rfl, by decide +kernel, rfl, by decide +kernel, by decide +kernel⟩
def spLaw (K : PySem.W.Frag) : Sp := fun vs H Q _ => ∃ (a : Addr) (ns : List Int), vs = [.ref a] ∧ SqL K H a (ns.map V.int) ∧ ns.length ≤ 63 ∧ ∀ H', Q (.bl true) H'
section
variable {P : Program} {w : World} {K : PySem.W.Frag} {mg : Str → Option Value} {base : Heap} {C CB CN CM : Addr} {σ : L2.St} {G0 H0 G H : Hp} {cs : List (Addr × HO)} {ta tb te : TE}
theorem en_lst {ns : List Int} (h : EvP te σ G cs (RScr K ns)) (few : ns.length ≤ 63) : EvN (tCall (spLSt K) [] E0 (tCons te tNil)) σ G cs (fun o G2 => ∃ xs, o = .lst xs ∧ StO ns xs G2) := fun H s hc Q q =>
  (ea_cons h ea_nil) H s hc _ fun vs G1 H1 w1 p1 => by
    rw [List.append_nil]
    exact ⟨F2.length_is rfl _ _ p1, G1, ns, w1.s, p1, few, fun l xs G2 H2 hH w2 gl el so => q l _ G2 H2 (w1.h.free hH) (w1.trans w2) gl el ⟨xs, rfl, so⟩⟩
theorem ev_con {A : List (List Rat)} {bv : List Rat} {b c : Nat} (h1 : EvP ta σ G cs (RMat C A)) (h2 : EvP tb σ G cs (RRow C bv)) (fc : FitC A bv b c) : EvP (tCall (spCon C) [] E0 (tCons ta (tCons tb tNil))) σ G cs (ConO C A bv b) := fun H s hc Q q =>
  (ea_cons h1 (ea_cons h2 ea_nil)) H s hc _ fun vs G1 H1 w1 p1 => by
    rw [List.append_nil]
    exact ⟨F2.length_is rfl _ _ p1, G1, A, bv, b, c, w1.s, p1, fc, fun v G2 H2 w o => q v G2 H2 (w1.trans w) o⟩
theorem ev_lrg {n : Nat} (h : EvP te σ G cs (RV (.int (n : Int)))) (hn : n ≤ 1000) : EvP (tLstRg (tRg1 te)) σ G cs (RI (List.range n)) := fun H s hc Q q =>
  h H s hc _ fun v G2 H2 w p => by
    obtain rfl : v = .int (n : Int) := p
    refine ⟨(n : Int), rfl, .of_le (Int.le_refl _) (by omega) (by decide) (by omega), fun a ha => q _ _ _ (w.trans (.new w.s ha)) ⟨a, _, rfl, upd_same, ?_⟩⟩
    unfold rgV
    rw [show ((n : Int) - 0).toNat = n by omega]
    have f2 : ∀ l : List Nat, F2 (l.map fun i : Nat => RV (.int (i : Int))) (l.map fun i : Nat => V.int (0 + (i : Int))) (upd G2 a (.lst ((List.range n).map fun i : Nat => V.int (0 + (i : Int))))) := fun l => by
      induction l with
      | nil => trivial
      | cons x r ih => exact ⟨by show V.int (0 + (x : Int)) = V.int (x : Int); rw [Int.zero_add], ih⟩
    exact f2 _
theorem ev_listRow {r : List Rat} (h : EvP te σ G cs (RRow C r)) : EvP (tCB (fun xs H Q => ∃ p ys, xs = [.ref p] ∧ (SqL K H p ys ∨ SqT K H p ys) ∧ ∀ l, H l = none → Q (.ref l) (upd H l (.lst ys))) (tCons te tNil)) σ G cs (RRow C r) := (en_list (Rs := r.map (RQ C)) h).frz
theorem ev_isN {v : V} (h : EvP te σ G cs (RV v)) : EvP (tIsN te) σ G cs (RV (.bl (decide (v = .non)))) := fun H s hc Q q => h H s hc _ fun x G2 H2 w p => by
  obtain rfl : x = v := p
  exact q _ G2 H2 w rfl
theorem ev_notN {v : V} (h : EvP te σ G cs (RV v)) : EvP (tNotN te) σ G cs (RV (.bl (!decide (v = .non)))) := fun H s hc Q q => h H s hc _ fun x G2 H2 w p => by
  obtain rfl : x = v := p
  exact q _ G2 H2 w rfl
/-- list(xs) within a comprehension -/
theorem pe_listK {X : Cx} {K : PySem.W.Frag} {e : Expr} {es : List Expr} {t : TA} {p pos : Pos} (hg : Gl X "list") (hm : X.mg "list" = none) (ha : PA X (e :: es) t) (hK : X.K = K := by rfl)
    (he : starEach (e :: es) X.env = (false, eval e X.env) :: starEach es X.env := by rfl) (hpl : (backTo pos (starEach es X.env)).any (·.1) = false := by rfl) :
    PE X (.Call (.Name "list" p) (e :: es) [] pos) (tCB (fun xs H Q => ∃ p ys, xs = [.ref p] ∧ (SqL K H p ys ∨ SqT K H p ys) ∧ ∀ l, H l = none → Q (.ref l) (upd H l (.lst ys))) t) := by
  subst hK
  exact pe_callTy call_list_of hg hm PyProof.Rows.boot_list ha (by decide) (by decide) he hpl
theorem ib5 : ∀ n ≤ 5, K97.ib 3 n ≤ 127 := by decide +kernel
theorem cb5 : ∀ n ≤ 5, K97.cb 2 0 n ≤ 2400 := by decide +kernel
/-- the pairs of a row -/
theorem ev_prs {s0 s1 s2 s3 s4 s5 s6 s7 s8 s9 s10 s11 s12 : Option V} {xs : List Rat} (h : EvP te [s0, s1, s2, s3, s4, s5, s6, s7, s8, s9, s10, s11, s12] G cs (RRow C xs)) (hx : xs.length ≤ 1000) :
    EvP (tLc (iList K te) (gName 12) tYes (tCall (spLPr C) [] E0 (tCons (tVar 12) tNil)) [12]) [s0, s1, s2, s3, s4, s5, s6, s7, s8, s9, s10, s11, s12] G cs (RFs xs) := by
  unfold RFs
  rw [← range_getD xs 0 RFr]
  refine ev_lcA (n := xs.length) (ew_listN (Rs := xs.map (RQ C)) h (by rw [List.length_map])) hx (fun j => RFr (xs.getD j 0)) fun j x g' hj sg2 hY h' s' kk qq => ?_
  have hY := hY.map (List.getElem?_eq_getElem hj)
  have gd : xs.getD j 0 = xs[j] := getD_get hj
  rw [← gd] at hY
  exact qq _ rfl (ev_lpr (ev_var rfl hY))
theorem ok_law {f : Addr} {fd : FuncData} (F : Fun K "law" "law" sLaw f fd) (B : Kit P w K mg base C) (TB : BasX K mg CB) (L4 : Dn P w K mg base "_law_stream" 1 ["_law_script"] (spLSt K)) (L5 : Dn P w K mg base "_law_draw" 1 ["_law_stream_here", "_law_many"] spLDr)
    (L0 : Dn P w K mg base "_law_pair" 1 ["_law_value"] (spLPr C)) (L6 : Dn P w K mg base "_law_solution" 4 ["_law_rows", "_law_constants"] (spLSo C)) (L7 : Dn P w K mg base "_law_told" 7 ["_law_rows", "_law_constants"] (spLTo C)) (D7 : Dn P w K mg base "contradiction" 6 ["rows", "constants"] (spCon C))
    (L8 : Dn P w K mg base "_law_is_contradiction" 3 ["_law_rows", "_law_constants", "_law_factors"] (spLIc C)) (L9 : Dn P w K mg base "_law_by_blocks" 12 ["_law_rows", "_law_constants"] (spLBb C)) (D8 : Dn P w K mg base "best_tears" 5 ["rows"] (spBes C)) (D9 : Dn P w K mg base "solve_torn" 7 ["rows", "constants", "tears"] (spSto C)) :
    FnOk P w K mg base CX0 13 f fd ["_law_script"] (spLaw K) := by
  refine F.ok scLaw (fun vs H Q E h => ?_) (fun cdv A0 outer st H vs Q E hr h => ?_)
  · obtain ⟨a, ns, rfl, _⟩ := h
    rfl
  obtain ⟨a, ns, rfl, hS, few, q⟩ := h
  have nd := scLaw.nd
  refine ⟨_, (pss_cons (ps_set (i := 1) nd rfl (.inr rfl) (pe_dn L4 (hr.mono (by decide)) (by rfl) (pa_cons (pv 0) pa_nil)))
  (pss_cons (ps_set (i := 2) nd rfl (.inl rfl) (pe_op op_add pe_int (pe_dn L5 (hr.mono (by decide)) (by rfl) (pa_cons (pv 1) (pa_cons pe_int pa_nil)))))
  (pss_cons (ps_set (i := 3) nd rfl (.inl rfl) (pe_lst pa_nil))
  (pss_cons (ps_for PassesOwn.never rfl (pi_range1 (by rfl) B.range (pa_cons (pv 2) pa_nil)) (pg_name (i := 4) nd rfl (.inl rfl))
  (pss_cons (ps_setLc (i := 6) (own := [("_law_n", 5)]) (tt := tYes) rfl nd rfl rfl (sw_true rfl rfl rfl (by decide +kernel)) (pi_range1 (by rfl) B.range (pa_cons (pv 2) pa_nil)) (blkOk_by (N := N_Law) (sc := defScope sLaw) (by decide +kernel)) (fun _ _ _ _ _ => (pg_name (i := 5) nd rfl (.inl rfl))) (fun _ _ _ _ _ => pts_nil) (fun _ _ _ _ _ => (pe_ratio1 B.T B.gd (hr.mono (by decide)) (by rfl) (pa_cons pe_int pa_nil))))
    (pss_cons (ps_for PassesOwn.never rfl (pi_range1 (by rfl) B.range (pa_cons (pv 2) pa_nil)) (pg_name (i := 5) nd rfl (.inl rfl))
    (pss_one (ps_if (pw_or (pw_and (pt_cmpR op_eq (pv 5) (pv 4) (nomark _)) (pw_and1 (pt_cmpR op_gt (pe_dn L5 (hr.mono (by decide)) (by rfl) (pa_cons (pv 1) (pa_cons pe_int pa_nil))) pe_int (nomark _)))).pt (pw_or1 (pt_cmpR op_eq (pe_dn L5 (hr.mono (by decide)) (by rfl) (pa_cons (pv 1) (pa_cons pe_int pa_nil))) pe_int (nomark _)))).pt (pss_one (ps_asg (pe_ratio2 B.T B.gd (hr.mono (by decide)) (by rfl) (pa_cons (pe_op op_sub (pe_dn L5 (hr.mono (by decide)) (by rfl) (pa_cons (pv 1) (pa_cons pe_int pa_nil))) pe_int) (pa_cons (pe_op op_add pe_int (pe_dn L5 (hr.mono (by decide)) (by rfl) (pa_cons (pv 1) (pa_cons pe_int pa_nil)))) pa_nil))) (pg_sub (pv 6) (pv 5) set_list))) pss_nil)))
    (pss_one (ps_expr (pe_bm PySem.F.plainAttrs_list PySem.F.slot_list_append PySem.F.type_list_append mt_append (pv 3) (pa_cons (pv 6) pa_nil)))))))
  (pss_cons (ps_setLc (i := 7) (own := [("_law_k", 4)]) (tt := tYes) rfl nd rfl rfl (sw_true rfl rfl rfl (by decide +kernel)) (pi_range1 (by rfl) B.range (pa_cons (pv 2) pa_nil)) (blkOk_by (N := N_Law) (sc := defScope sLaw) (by decide +kernel)) (fun _ _ _ _ _ => (pg_name (i := 4) nd rfl (.inl rfl))) (fun _ _ _ _ _ => pts_nil) (fun _ _ _ _ _ => (pe_ratio1 B.T B.gd (hr.mono (by decide)) (by rfl) (pa_cons (pe_op op_sub (pe_dn L5 (hr.mono (by decide)) (by rfl) (pa_cons (pv 1) (pa_cons pe_int pa_nil))) pe_int) pa_nil))))
  (pss_cons (ps_set (i := 8) nd rfl (.inl rfl) (pe_dn L6 (hr.mono (by decide)) (by rfl) (pa_cons (pv 3) (pa_cons (pv 7) pa_nil))))
  (pss_cons (ps_set (i := 9) nd rfl (.inl rfl) (pe_dn L7 (hr.mono (by decide)) (by rfl) (pa_cons (pe_lc (own := [("_law_row", 6)]) (tt := tYes) rfl nd (pi_list (pv 3)) (blkOk_by (N := N_Law) (sc := defScope sLaw) (by decide +kernel)) (fun _ _ _ _ _ => (pg_name (i := 6) nd rfl (.inl rfl))) (fun _ _ _ _ _ => pts_nil) (fun _ _ _ _ _ => (pe_listK (K := K) (by rfl) B.list (pa_cons (pv 6) pa_nil)))) (pa_cons (pe_callTy call_list_of (by rfl) B.list PyProof.Rows.boot_list (pa_cons (pv 7) pa_nil)) pa_nil))))
  (pss_cons (ps_set (i := 10) nd rfl (.inl rfl) (pe_dn D7 (hr.mono (by decide)) (by rfl) (pa_cons (pv 3) (pa_cons (pv 7) pa_nil))))
  (pss_cons (ps_if (pt_cmp (pc_isN (pv 8))) (pss_cons (ps_if (pt_cmpR op_eq (pv 9) pe_str (nomark _)) (pss_one (ps_ret (pe_dn L8 (hr.mono (by decide)) (by rfl) (pa_cons (pv 3) (pa_cons (pv 7) (pa_cons (pv 10) pa_nil)))))) pss_nil)
    (pss_one (ps_ret (pe_and (pe_cmpR op_eq (pv 9) pe_str (nomark _)) (pe_one (pe_cmp (pc_isN (pv 10)))))))) pss_nil)
  (pss_cons (ps_if (pw_or (pt_not (pt_val (pe_callB call_isi (by rfl) B.isi boot_isinstance (pa_cons (pv 9) (pa_cons (pe_bltn (v := .ty "list") (u := .type "list") (by rfl) B.list (by decide +kernel) rfl) pa_nil))))) (pw_or (pt_cmpR (op_neD (hu64 hr)) (pe_lc (own := [("_law_x", 12)]) (tt := tYes) rfl nd (pi_list (pv 9)) (blkOk_by (N := N_Law) (sc := defScope sLaw) (by decide +kernel)) (fun _ _ _ _ _ => (pg_name (i := 12) nd rfl (.inl rfl))) (fun _ _ _ _ _ => pts_nil) (fun _ _ _ _ _ => (pe_dn L0 (hr.mono (by decide)) (by rfl) (pa_cons (pv 12) pa_nil)))) (pv 8) (nomark _)) (pw_or1 (pt_cmp (pc_notN (pv 10)))))).pt (pss_one (ps_ret pe_bl)) pss_nil)
  (pss_cons (ps_if (pt_cmpR (op_neD (hu64 hr)) (pe_dn L9 (hr.mono (by decide)) (by rfl) (pa_cons (pv 3) (pa_cons (pv 7) pa_nil))) (pv 8) (nomark _)) (pss_one (ps_ret pe_bl)) pss_nil)
  (pss_cons (ps_set (i := 11) nd rfl (.inl rfl) (pe_dn D8 (hr.mono (by decide)) (by rfl) (pa_cons (pv 3) pa_nil)))
  (pss_cons (ps_if (pt_cmpR (op_neD (hu64 hr)) (pe_lc (own := [("_law_x", 12)]) (tt := tYes) rfl nd (pi_list (pe_dn D9 (hr.mono (by decide)) (by rfl) (pa_cons (pv 3) (pa_cons (pv 7) (pa_cons (pv 11) pa_nil))))) (blkOk_by (N := N_Law) (sc := defScope sLaw) (by decide +kernel)) (fun _ _ _ _ _ => (pg_name (i := 12) nd rfl (.inl rfl))) (fun _ _ _ _ _ => pts_nil) (fun _ _ _ _ _ => (pe_dn L0 (hr.mono (by decide)) (by rfl) (pa_cons (pv 12) pa_nil)))) (pv 8) (nomark _)) (pss_one (ps_ret pe_bl)) pss_nil)
  (pss_one (ps_ret (pe_cmpR (op_eqD (hu64 hr)) (pe_lc (own := [("_law_x", 12)]) (tt := tYes) rfl nd (pi_list (pe_dn D9 (hr.mono (by decide)) (by rfl) (pa_cons (pv 3) (pa_cons (pv 7) (pa_cons (pe_listRg rfl (by rfl) B.list (prg_1 (by rfl) B.range (pv 2))) pa_nil))))) (blkOk_by (N := N_Law) (sc := defScope sLaw) (by decide +kernel)) (fun _ _ _ _ _ => (pg_name (i := 12) nd rfl (.inl rfl))) (fun _ _ _ _ _ => pts_nil) (fun _ _ _ _ _ => (pe_dn L0 (hr.mono (by decide)) (by rfl) (pa_cons (pv 12) pa_nil)))) (pv 8) (nomark _))))))))))))))))), ?_⟩
  have c : Cel H H H H [] := .start (.refl _)
  refine q_setN c (en_lst (ns := ns) (ev_var rfl ⟨a, rfl, hS⟩) few) fun l o G1 H1 c1 s1 ho => ?_
  obtain ⟨xs, rfl, so⟩ := ho
  refine q_setS (R := RFin fun j => 1 ≤ j ∧ j ≤ 5) c1 so (es_op es_c (fun G' _ => es_draw 5 rfl (by decide) (by decide) few) (rv_fin fun i j hi hj => by omega)) fun v xs G2 H2 c2 s2 so2 p2 => ?_
  obtain ⟨n', hn', rfl⟩ := p2
  obtain ⟨n, rfl⟩ : ∃ n : Nat, n' = (n : Int) := ⟨n'.toNat, by omega⟩
  have n1 : 1 ≤ n := by omega
  have n5 : n ≤ 5 := by omega
  refine q_setN c2 en_nil fun lr o G3 H3 c3 s3 ho => ?_
  subst ho
  refine q_for (cs' := []) c3.swap (ew_range (n := n) (ea_cons (ev_var rfl rfl) ea_nil) (by omega))
    (fun i s' g h => ∃ o4 o5 o6 xs rs, ∃ A : List (List Rat), s' = [some (.ref a), some (.ref l), some (.int (n : Int)), some (.ref lr), o4, o5, o6, none, none, none, none, none, none] ∧ Cel H H g h [(l, .lst xs), (lr, .lst rs)] ∧ StO ns xs g ∧ A.length = i ∧ (∀ r ∈ A, r.length = n ∧ ∀ q ∈ r, Ent q) ∧ F2 (A.map (RRow C)) rs g)
    (fun i s' g h ⟨_, _, _, _, _, _, _, cc, _⟩ => ⟨cc.s, .nil⟩) (fun G4 H4 c4 s4 => ⟨none, none, none, _, _, [], rfl, c4, so2.mono (s3.trans s4), rfl, fun r hr => by simp at hr, trivial⟩) ?_ ?_
  · rintro i s' g h x hi sg' ⟨o4, o5, o6, xs, rs, A, rfl, cc, so, hAl, hA, hrs⟩ g2 h2 w2 hY
    obtain rfl : x = .int (i : Int) := hY
    refine q_setN (cc.go w2) (en_lcA (n := n) (ew_range (n := n) (ea_cons (ev_var rfl rfl) ea_nil) (by omega)) (by omega) (fun _ => RQ C 0) fun j x g' hj sg2 hY h' s' kk qq => qq _ rfl (ev_q0 ev_c)) fun lw o g3 h3 c3 s3 ho => ?_
    obtain ⟨ws, rfl, hws⟩ := ho
    refine q_for (cs' := []) c3.swap (ew_range (n := n) (ea_cons (ev_var rfl rfl) ea_nil) (by omega))
      (fun j s' g h => ∃ o5 xs ws, ∃ r : List Rat, s' = [some (.ref a), some (.ref l), some (.int (n : Int)), some (.ref lr), some (.int (i : Int)), o5, some (.ref lw), none, none, none, none, none, none] ∧ Cel H H g h [(l, .lst xs), (lw, .lst ws), (lr, .lst rs)] ∧ L2.Same g3 g ∧ StO ns xs g ∧ r.length = n ∧ (∀ q ∈ r, Ent q) ∧ F2 (r.map (RQ C)) ws g)
      (fun i s' g h ⟨_, _, _, _, _, cc, _⟩ => ⟨cc.s, .nil⟩) (fun G4 H4 c4 s4 => ⟨o5, _, ws, List.replicate n 0, rfl, c4, s4, so.mono ((w2.g.trans s3).trans s4), List.length_replicate, fun q hq => by rw [List.eq_of_mem_replicate hq]; exact .zero, ?_⟩) ?_ ?_
    · have e : (List.replicate n (0 : Rat)).map (RQ C) = (List.range n).map fun _ => RQ C 0 := by
        rw [List.map_replicate, List.map_const', List.length_range]
      rw [e]
      exact hws.mono (moA_map (f := fun _ : Nat => RQ C 0)).mo s4
    · rintro j s' g4 h4 x hj sg4 ⟨o5, xs, ws, r, rfl, c4, s4, so, hrl, hrE, hws⟩ g5 h5 w5 hY
      obtain rfl : x = .int (j : Int) := hY
      have so5 := so.mono w5.g
      have hwl : ws.length = n := by rw [← hws.len, List.length_map, hrl]
      refine s_ifS (c4.go w5) so5 (est_or (est_and (est_of (EvP.toS (ev_op (P1 := RFin fun z => z = (j : Int)) (P2 := RFin fun z => z = (i : Int)) (ev_var rfl ⟨_, rfl, rfl⟩) (ev_var rfl ⟨_, rfl, rfl⟩) rv_finEq))) fun G' _ => est_of (es_op (es_draw 8 rfl (by decide) (by decide) few) (fun G' _ => es_c) rv_finB)) fun G' _ => est_of (es_op (es_draw 3 rfl (by decide) (by decide) few) (fun G' _ => es_c) rv_finEq)) (fun ys g6 h6 c6 s6 so6 => ?_) (fun ys g6 h6 c6 s6 so6 => ?_)
      · refine s_setLS (j := j) (R := REnt C) c6 so6 (es_make2 (S := fun z => z.natAbs ≤ 4) (T := fun z => z = 1 ∨ z = 2) (fun _ h => h) (fun _ h => h) (esa_cons (es_op (es_draw 9 rfl (by decide) (by decide) few) (fun G' _ => es_c) (rv_fin fun i j hi hj => by omega)) fun G' _ => esa_cons (es_op es_c (fun G' _ => es_draw 2 rfl (by decide) (by decide) few) (rv_fin fun i j hi hj => by omega)) fun G' _ => esa_nil)) rfl rfl (by omega) fun v ys g7 h7 c7 s7 so7 p7 => ?_
        obtain ⟨q0, hq0, hR0⟩ := p7
        have s57 := (w5.g.trans s6).trans s7
        refine ⟨g7, s57, _, ys, ws.set j v, r.set j q0, rfl, c7, s4.trans s57, so7, by rw [List.length_set, hrl], fun x hx => ?_, ?_⟩
        · rcases List.mem_or_eq_of_mem_set hx with hx | rfl
          · exact hrE x hx
          · exact hq0
        · rw [List.map_set]
          exact (hws.mono moA_map.mo s57).set j hR0
      · have s56 := w5.g.trans s6
        exact ⟨g6, s56, _, ys, ws, r, rfl, c6, s4.trans s56, so6, hrl, hrE, hws.mono moA_map.mo s56⟩
    · rintro s' g4 h4 sg4 ⟨o5, xs, ws, r, rfl, c4, s4, so, hrl, hrE, hws⟩
      obtain ⟨c5, s5⟩ := c4.swap.freeze
      have s35 := (s3.trans s4).trans s5
      have hrow : RRow C r (.ref lw) (upd g4 lw (.lst ws)) := ⟨lw, ws, rfl, upd_same, hws.mono moA_map.mo s5⟩
      have hrsl : rs.length ≤ 1000 := by rw [← hrs.len, List.length_map]; omega
      refine s_app (P := RRow C r) c5.swap rfl (ev_var rfl hrow) hrsl fun v g6 h6 c6 s6 p6 => ?_
      have s26 := (w2.g.trans s35).trans s6
      refine ⟨g6, s26, _, _, _, xs, rs ++ [v], A ++ [r], rfl, c6.swap, so.mono (s5.trans s6), by rw [List.length_append, hAl]; rfl, fun x hx => ?_, ?_⟩
      · rcases List.mem_append.mp hx with hx | hx
        · exact hA x hx
        · rw [List.mem_singleton.mp hx]
          exact ⟨hrl, hrE⟩
      · rw [List.map_append]
        exact (hrs.mono moA_map.mo s26).snoc p6
  rintro s' g h sg' ⟨o4, o5, o6, xs, rs, A, rfl, cc, so, hAl, hA, hrs⟩
  obtain ⟨c4, s4⟩ := cc.swap.freeze
  have pA : RMat C A (.ref lr) (upd g lr (.lst rs)) := ⟨lr, rs, rfl, upd_same, hrs.mono moA_map.mo s4⟩
  have so4 := so.mono s4
  generalize upd g lr (.lst rs) = g4 at c4 s4 pA so4
  refine q_setS (R := RL (List.replicate n (REnt C))) c4 so4 (es_lcA (n := n) (ew_range (n := n) (ea_cons (ev_var rfl rfl) ea_nil) (by omega)) (by omega) fun j x g' hj sg2 hY h' s' kk qq => qq _ rfl (es_make1 (S := fun z => z.natAbs ≤ 4) (fun _ h => h) (esa_cons (es_op (es_draw 9 rfl (by decide) (by decide) few) (fun G' _ => es_c) (rv_fin fun i j hi hj => by omega)) fun G' _ => esa_nil))) fun vb ys G5 H5 c5 s5 so5 pb => ?_
  obtain ⟨ab, bs, rfl, hab, hbs⟩ := pb
  obtain ⟨b, lb, hb, hbs⟩ := ents_of hbs
  have pb : RRow C b (.ref ab) G5 := ⟨ab, bs, rfl, hab, hbs⟩
  have pA := up s5 pA
  have c5 := c5.drop
  have sq : Sq A n := ⟨hAl, fun r hr => (hA r hr).1⟩
  have hA := fun r hr => (hA r hr).2
  have sA : ∀ r ∈ A, RowSz 2 r := fun r hr q hq => (hA r hr q hq).sz
  have sb : RowSz 2 b := fun q hq => (hb q hq).sz
  have core := K97.law_core sq hA hb lb
  have hS : ∀ ys, K97.solveL A b = .sol ys → RowSz 127 ys := fun ys e => by
    rcases core with ⟨xs, e1, e2, e3, L⟩ | ⟨e1, e2, e3⟩ | ⟨e1, e2, f, e3, e4, e5⟩
    · rw [e2] at e
      injection e with e
      subst e
      exact fun q hq => (L.sz q hq).mono (ib5 n n5)
    · rw [e2] at e; cases e
    · rw [e2] at e; cases e
  refine q_set c5 (P := ROpt (lawSol A b)) (ev_callF (In := _) (Out := fun (x : LSoIn) => ROpt (lawSol x.A x.b)) (n := 2) (⟨A, b, n⟩ : LSoIn) (ea_cons (P1 := RMat C A) (ev_var rfl pA) (ea_cons (P1 := RRow C b) (ev_var rfl pb) ea_nil)) (F2.length_is rfl) (fun vs G2 s f => ⟨f, ⟨sq, lb, n5, sA, sb⟩⟩)) fun vd G6 H6 c6 s6 pd => ?_
  refine q_set c6 (P := RTold C A b) (ev_callF (In := _) (Out := fun (x : ToldIn) => RTold C x.A x.b) (n := 2) (⟨A, b, 2, 530, 127⟩ : ToldIn) (ea_cons (P1 := RMat C A) ?_ (ea_cons (P1 := RRow C b) (ev_listRow (ev_var rfl (up s6 pb))) ea_nil)) (F2.length_is rfl) (fun vs G2 s f => ⟨f, fitA_of sq n5 lb sA (sb.mono (by omega)) hS⟩)) fun va G7 H7 c7 s7 pa => ?_
  · unfold RMat
    rw [← range_getD A [] (RRow C)]
    refine ev_lcA (n := A.length) (ew_listN (Rs := A.map (RRow C)) (ev_var rfl (up s6 pA)) (by rw [List.length_map])) (by omega) (fun j => RRow C (A.getD j [])) fun j x g' hj sg2 hY h' s' kk qq => ?_
    have hY := hY.map (List.getElem?_eq_getElem hj)
    have gd : A.getD j [] = A[j] := getD_get hj
    rw [← gd] at hY
    exact qq _ rfl (ev_listRow (ev_var rfl hY))
  have s57 := s6.trans s7
  refine q_set c7 (P := ConO C A b 2) (ev_con (ev_var rfl (up s57 pA)) (ev_var rfl (up s57 pb)) (fitC_of sq n5 lb sA sb)) fun vf G8 H8 c8 s8 pf => ?_
  have pA := up (s57.trans s8) pA
  have pb := up (s57.trans s8) pb
  unfold ROpt at pd
  unfold RTold at pa
  unfold ConO at pf
  rcases core with ⟨xs, e1, e2, e3, L⟩ | ⟨e1, e2, e3⟩ | ⟨e1, e2, f, e3, e4, e5⟩
  · rw [e1] at pd
    rw [e2] at pa
    rw [e3] at pf
    have pd : RFs xs vd G6 := pd
    have pa : RRow C xs va G7 := pa
    obtain rfl : vf = .non := pf
    obtain ⟨ad, dvs, rfl, _⟩ := id pd
    have hx : xs.length ≤ 1000 := by have := L.len; omega
    have sx := hS xs e2
    refine q_if c8 (et_B (ev_isN (v := .ref ad) (ev_var rfl rfl))) (fun hb => by simp at hb) fun _ G9 H9 c9 s9 => ?_
    first | (unfold tNext; dsimp only) | skip
    have s69 := (s7.trans s8).trans s9
    refine q_if c9 (b := false) ((et_or (et_not (et_B (ev_isiL (Rs := xs.map (RQ C)) (ev_var rfl (up (s8.trans s9) pa))))) fun _ => et_or (et_test (ev_op (ev_prs (ev_var rfl (up (s8.trans s9) pa)) hx) (ev_var rfl (up s69 pd)) rv_neF)) fun _ => et_B (ev_notN (v := .non) (ev_var rfl rfl))).is (by simp)) (fun hb => by cases hb) fun _ G10 H10 c10 s10 => ?_
    first | (unfold tNext; dsimp only) | skip
    have s910 := s9.trans s10
    refine q_if c10 (b := false) ((et_test (ev_op (ev_callF (In := _) (Out := fun (x : BbIn) => RFs x.xs) (n := 2) (⟨A, b, n, xs⟩ : BbIn) (ea_cons (P1 := RMat C A) (ev_var rfl (up s910 pA)) (ea_cons (P1 := RRow C b) (ev_var rfl (up s910 pb)) ea_nil)) (F2.length_is rfl) (fun vs G2 s f => ⟨f, ⟨sq, L.reg, lb, n5, sA, sb, L.sol, L.len, sx⟩⟩)) (ev_var rfl (up (s69.trans s10) pd)) rv_neF)).is (by simp)) (fun hb => by cases hb) fun _ G11 H11 c11 s11 => ?_
    first | (unfold tNext; dsimp only) | skip
    have s911 := s910.trans s11
    obtain ⟨t, ht, T⟩ := K97.bestTears_ok sq
    refine q_set c11 (P := RI t) (ev_callF (In := _) (Out := fun (x : TearIn) => RI x.t) (n := 1) (⟨A, t⟩ : TearIn) (ea_cons (P1 := RMat C A) (ev_var rfl (up s911 pA)) ea_nil) (F2.length_is rfl) (fun vs G2 s f => ⟨f, by show A.length ≤ 5; omega, fun r hr => by rw [sq.row r hr]; omega, ht⟩)) fun vt G12 H12 c12 s12 pt => ?_
    have s912 := s911.trans s12
    have s612 := ((s69.trans s10).trans s11).trans s12
    have tf : ∀ t, K97.Tears A n t → TornFit A b n t xs := fun t T => ⟨sq, n5, lb, sA, sb, L.reg, T, L.sol, L.len, sx⟩
    refine q_if c12 (b := false) ((et_test (ev_op (ev_prs (ev_callF (In := _) (Out := fun (x : StoIn) => RRow C x.xs) (n := 3) (⟨A, b, n, t, xs⟩ : StoIn) (ea_cons (P1 := RMat C A) (ev_var rfl (up s912 pA)) (ea_cons (P1 := RRow C b) (ev_var rfl (up s912 pb)) (ea_cons (P1 := RI t) (ev_var rfl pt) ea_nil))) (F2.length_is rfl) (fun vs G2 s f => ⟨f, tf t T⟩)) hx) (ev_var rfl (up s612 pd)) rv_neF)).is (by simp)) (fun hb => by cases hb) fun _ G13 H13 c13 s13 => ?_
    first | (unfold tNext; dsimp only) | skip
    have s913 := s912.trans s13
    refine s_ret c13 (P := RV (.bl true)) ((ev_op (ev_prs (ev_callF (In := _) (Out := fun (x : StoIn) => RRow C x.xs) (n := 3) (⟨A, b, n, List.range n, xs⟩ : StoIn) (ea_cons (P1 := RMat C A) (ev_var rfl (up s913 pA)) (ea_cons (P1 := RRow C b) (ev_var rfl (up s913 pb)) (ea_cons (P1 := RI (List.range n)) (ev_lrg (ev_var rfl rfl) (by omega)) ea_nil))) (F2.length_is rfl) (fun vs G2 s f => ⟨f, tf _ (K97.tears_all sq)⟩)) hx) (ev_var rfl (up (s612.trans s13) pd)) rv_eqF).is (by simp)) fun v G14 H14 c14 s14 p14 => ?_
    obtain rfl : v = .bl true := p14
    exact q _
  · rw [e1] at pd
    rw [e2] at pa
    rw [e3] at pf
    obtain rfl : vd = .non := pd
    obtain rfl : va = .str "many" := pa
    obtain rfl : vf = .non := pf
    refine q_if c8 (et_B (ev_isN (v := .non) (ev_var rfl rfl))) (fun _ G9 H9 c9 s9 => ?_) fun hb => by simp at hb
    refine q_if c9 (b := false) ((et_test (ev_op (P1 := RV (.str "many")) (ev_var rfl rfl) ev_c (rv_eq rfl))).is (by decide +kernel)) (fun hb => by cases hb) fun _ G10 H10 c10 s10 => ?_
    first | (unfold tNext; dsimp only) | skip
    refine s_ret c10 (P := RV (.bl true)) ((ev_andV (a := true) ((ev_op (P1 := RV (.str "many")) (ev_var rfl rfl) ev_c (rv_eq rfl)).is (by decide +kernel)) fun _ => (ev_isN (v := .non) (ev_var rfl rfl))).is (by simp)) fun v G11 H11 c11 s11 p11 => ?_
    obtain rfl : v = .bl true := p11
    exact q _
  · rw [e1] at pd
    rw [e2] at pa
    rw [e3] at pf
    obtain rfl : vd = .non := pd
    obtain rfl : va = .str "none" := pa
    obtain ⟨pf, sf⟩ := pf
    refine q_if c8 (et_B (ev_isN (v := .non) (ev_var rfl rfl))) (fun _ G9 H9 c9 s9 => ?_) fun hb => by simp at hb
    refine q_if c9 (b := true) ((et_test (ev_op (P1 := RV (.str "none")) (ev_var rfl rfl) ev_c (rv_eq rfl))).is (by decide +kernel)) (fun _ G10 H10 c10 s10 => ?_) fun hb => by cases hb
    have s910 := s9.trans s10
    refine s_ret c10 (P := RV (.bl true)) ((ev_callF (In := _) (Out := fun (x : IcIn) => RV (.bl (K97.isContr x.A x.b x.f))) (n := 3) (⟨A, b, f, n, K97.cb 2 0 n⟩ : IcIn) (ea_cons (P1 := RMat C A) (ev_var rfl (up s910 pA)) (ea_cons (P1 := RRow C b) (ev_var rfl (up s910 pb)) (ea_cons (P1 := RRow C f) (ev_var rfl (up s910 pf)) ea_nil))) (F2.length_is rfl) (fun vs G2 s f' => ⟨f', ⟨sq, lb, e4, n5, by show 0 < n; omega, sA, sb, by rw [hAl] at sf; exact sf, cb5 n n5⟩⟩)).is (congrArg V.bl e5)) fun v G11 H11 c11 s11 p11 => ?_
    obtain rfl : v = .bl true := p11
    exact q _
end
end KW
end
section
set_option Elab.async false
set_option linter.all false
set_option maxRecDepth 100000
set_option maxHeartbeats 4000000
namespace KW
open PySem PySem.Spec PyProof.Rows L2
/-! ### what the top has written -/
section
variable {P : Program} {w : World} {K : PySem.W.Frag} {mg : Str → Option Value} {base h : Heap} {C CB CN CM : Addr}
theorem df_mk {x : Str} {st : Stmt} {f : Addr} {oc : Value} {od an : Option Addr} {osl : Array (Option Value)} {kV doc pm cdv ct : Value} (X : K.In h) (G : h.Ns mainGlobals mg) (a : PySem.W.nsIn K mainGlobals x = some (some (.ref f)))
    (l : K.lookup f = some ⟨oc, od, .func (PySem.W.fnOf x x (defArgs st) (defBody st) (defScope st) .none kV doc pm an cdv ct), osl⟩) (c : PySem.W.codeIn K cdv x = true) (k : PySem.W.keepIn K (.ref f) = true) : Df K mg x st := ⟨f, _, PySem.W.mg_of X G a, fun_mk l c k⟩
theorem mf_mk {m q : Str} {st : Stmt} {f : Addr} {oc : Value} {od an : Option Addr} {osl : Array (Option Value)} {kV doc pm cdv ct : Value} (a : PySem.W.findIn K (.ref C) m = some (some (.ref f))) (i : PySem.W.isFn K (.ref f) = true)
    (l : K.lookup f = some ⟨oc, od, .func (PySem.W.fnOf m q (defArgs st) (defBody st) (defScope st) .none kV doc pm an cdv ct), osl⟩) (c : PySem.W.codeIn K cdv q = true) (k : PySem.W.keepIn K (.ref f) = true) : Mf K C m q st := ⟨f, _, a, i, fun_mk l c k⟩
theorem cls_mk (pg : PySem.W.plainGet K C Str.empty = true) (hd : PySem.W.hasDictIn K C = true) (po : PySem.W.plainOver K C = true) (sa : PySem.W.findIn K (.ref C) "__setattr__" = some (some (.builtin "object.__setattr__"))) : Cls K C := ⟨pg, hd, po, sa⟩
theorem na_mk {x : Str} (a : PySem.W.findIn K (.ref C) x = some none) : NoAttr K C x := a
theorem init_mk {f T : Addr} {oc : Value} {od an : Option Addr} {osl : Array (Option Value)} {kV doc pm cdv ct : Value} {oT : Obj} {tk : Tok} {n : Nat} (a : PySem.W.findIn K (.ref C) "__init__" = some (some (.ref f))) (i : PySem.W.isFn K (.ref f) = true)
    (l : K.lookup f = some ⟨oc, od, .func (PySem.W.fnOf "__init__" "Ratio.__init__" (defArgs sRI) (defBody sRI) (defScope sRI) (.ref T) kV doc pm an cdv ct), osl⟩) (c : PySem.W.codeIn K cdv "Ratio.__init__" = true) (k : PySem.W.keepIn K (.ref f) = true) (lT : K.lookup T = some oT) (dT : oT.data = .seq [Value.int 1 tk].toArray n) :
    ∃ f fd, PySem.W.findIn K (.ref C) "__init__" = some (some (.ref f)) ∧ PySem.W.isFn K (.ref f) = true ∧ FunD K "__init__" "Ratio.__init__" (defArgs sRI) (defBody sRI) (defScope sRI) [.int 1] [] f fd :=
  ⟨f, _, a, i, ⟨⟨oc, od, .ref T, kV, doc, pm, an, cdv, ct, osl, rfl, l, c, .inr ⟨by simp, T, oT, [Value.int 1 tk], n, rfl, lT, dT, .cons ⟨tk, rfl⟩ .nil⟩, .inl rfl⟩, k⟩⟩
theorem kit_bool (s : PySem.W.subIn K (.ref C) (.type "bool") = some false) : PySem.W.kitOne K (.ref C) (.type "bool") = some false := by
  unfold PySem.W.kitOne
  rw [if_neg (by simp)]
  unfold PySem.W.kitCls
  dsimp only
  rw [if_pos (by decide +kernel)]
  exact s
theorem all_mk {l : PySem.W.OpenLaw} {fa f45 : Addr} {oc : Value} {od an : Option Addr} {osl : Array (Option Value)} {kV doc pm cdv ct : Value} (X : K.In h) (G : h.Ns mainGlobals mg) (hfa : mg "law" = some (.ref fa))
    (TX : RatX K mg C) (TB : BasX K mg CB) (XN : ErrX K mg "NoSolution" CN) (XM : ErrX K mg "ManySolutions" CM) (nm : PySem.W.subIn K (.ref CM) (.ref CN) = some false)
    (d7 : Df K mg "greatest_divisor" sGd) (d9 : Df K mg "quotient" sQuo) (d10 : Df K mg "is_zero" sIsz) (d12 : Df K mg "augmented" sAug) (d13 : Df K mg "owners" sOwn) (d14 : Df K mg "without" sWit) (d15 : Df K mg "match" sMat) (d17 : Df K mg "reached" sRea) (d18 : Df K mg "together" sTog) (d19 : Df K mg "ordered" sOrd) (d20 : Df K mg "blocks" sBlo) (d23 : Df K mg "solve_linear" sSol) (d24 : Df K mg "contradiction" sCon) (d26 : Df K mg "open_columns" sOpe) (d27 : Df K mg "next_pair" sNex) (d28 : Df K mg "causal" sCau) (d29 : Df K mg "torn" sTor) (d30 : Df K mg "choices" sCho) (d31 : Df K mg "best_tears" sBes) (d32 : Df K mg "expressed" sExp) (d33 : Df K mg "solve_torn" sSto) (d35 : Df K mg "_law_stream" sLSt) (d36 : Df K mg "_law_draw" sLDr) (d37 : Df K mg "_law_pair" sLPr) (d38 : Df K mg "_law_made" sLMa) (d39 : Df K mg "_law_arithmetic" sLAr) (d40 : Df K mg "_law_solution" sLSo) (d41 : Df K mg "_law_less" sLLe) (d42 : Df K mg "_law_told" sLTo) (d43 : Df K mg "_law_by_blocks" sLBb) (d44 : Df K mg "_law_is_contradiction" sLIc)
    (a45 : PySem.W.nsIn K mainGlobals "law" = some (some (.ref f45))) (l45 : K.lookup f45 = some ⟨oc, od, .func (PySem.W.fnOf "law" "law" (defArgs sLaw) (defBody sLaw) (defScope sLaw) .none kV doc pm an cdv ct), osl⟩) (c45 : PySem.W.codeIn K cdv "law" = true) (k45 : PySem.W.keepIn K (.ref f45) = true)
    (z_len : PySem.W.nsIn K mainGlobals "len" = some none) (z_range : PySem.W.nsIn K mainGlobals "range" = some none) (z_enumerate : PySem.W.nsIn K mainGlobals "enumerate" = some none) (z_zip : PySem.W.nsIn K mainGlobals "zip" = some none) (z_list : PySem.W.nsIn K mainGlobals "list" = some none) (z_sorted : PySem.W.nsIn K mainGlobals "sorted" = some none) (z_all : PySem.W.nsIn K mainGlobals "all" = some none) (z_abs : PySem.W.nsIn K mainGlobals "abs" = some none) (z_str : PySem.W.nsIn K mainGlobals "str" = some none) (z_int : PySem.W.nsIn K mainGlobals "int" = some none) (z_isinstance : PySem.W.nsIn K mainGlobals "isinstance" = some none) (z_bool : PySem.W.nsIn K mainGlobals "bool" = some none) :
    ∃ fd : FuncData, (∀ (s : Shared) (v : Value), BindsTo s fd ⟨[v], []⟩ [("_law_script", v)]) ∧ ∀ base : Heap, K.In base → base.Ns mainGlobals mg → FnOk l.prog w K mg base CX0 13 fa fd ["_law_script"] (spLaw K) := by
  have e := hfa.symm.trans (PySem.W.mg_of X G a45)
  cases e
  have F45 := fun_mk (st := sLaw) l45 c45 k45
  refine ⟨PySem.W.fnOf "law" "law" (defArgs sLaw) (defBody sLaw) (defScope sLaw) .none kV doc pm an cdv ct, fun s v => .of_eq rfl, fun base _ _ => ?_⟩
  have gd := dn_gd (P := l.prog) (w := w) (base := base) d7 (PySem.W.mg_none_of X G z_abs)
  have B : Kit l.prog w K mg base C := ⟨TX, gd, dn_quo d9 TX gd, dn_isz d10 TX, PySem.W.mg_none_of X G z_len, PySem.W.mg_none_of X G z_range, PySem.W.mg_none_of X G z_enumerate, PySem.W.mg_none_of X G z_zip, PySem.W.mg_none_of X G z_list, PySem.W.mg_none_of X G z_sorted, PySem.W.mg_none_of X G z_all, PySem.W.mg_none_of X G z_abs, PySem.W.mg_none_of X G z_str, PySem.W.mg_none_of X G z_int, PySem.W.mg_none_of X G z_isinstance, PySem.W.mg_none_of X G z_bool⟩
  have ope := dn_ope d26 B
  have nex := dn_nex d27 B ope
  have cau := dn_cau d28 B nex
  have tor := dn_tor d29 B cau
  have cho := dn_cho d30 B
  have bes := dn_bes d31 B cau cho
  have exp := dn_exp d32 B
  have sol := dn_sol d23 B TB XN XM
  have con := dn_con d24 B TB
  have sto := dn_sto d33 B tor exp sol
  have aug := dn_aug d12 B
  have own := dn_own d13 B (aug 7)
  have wit := dn_wit d14 B
  have mat := dn_mat d15 B own wit
  have rea := dn_rea d17 B
  have tog := dn_tog d18 B rea
  have ord := dn_ord d19 B
  have blo := dn_blo d20 B mat tog ord
  have lma := dn_lma d38 B
  have lpr := dn_lpr d37 B
  have lar := dn_lar d39 B lma
  have lle := dn_lle d41 B lar
  have lso := dn_lso d40 B lpr lar lle
  have lst := dn_lst d35 B
  have ldr := dn_ldr d36 B
  have lto := dn_lto d42 B XN XM nm sol
  have lic := dn_lic d44 B lpr lar
  have lbb := dn_lbb d43 B lpr blo sol
  exact ok_law F45 B TB lst ldr lpr lso lto con lic lbb bes sto
end
theorem walk {l : PySem.W.OpenLaw} {q : Program} {loose : List Str} {XP : (Str → Option Value) → Heap → Prop} {YP : World → Heap → Prop} {d : DefRec} {K : Params → PySem.W.Frag} (hn : l.most = some 63) (hdf : d.params.defaults = [])
    (hY : ∀ (w : World) (h : Heap), YP w h → (K w.params).In h)
    (F : ∀ (w : World) (mg : Str → Option Value) (fa : Addr) (h : Heap), (K w.params).In h → h.Ns mainGlobals mg → mg d.name = some (.ref fa) →
      ∃ fd : FuncData, (∀ (s : Shared) (u : Value), BindsTo s fd ⟨[u], []⟩ [("_law_script", u)]) ∧ ∀ base : Heap, (K w.params).In base → base.Ns mainGlobals mg → FnOk l.prog w (K w.params) mg base CX0 13 fa fd ["_law_script"] (spLaw (K w.params))) :
    PySem.W.WalkO q loose XP YP l.row.toRowW d [] (fun f vs => PySem.call f vs) :=
  L2.walk_of (n := 63) (k := 13) (x := "_law_script") (CX := fun _ => CX0) (sp := fun w => spLaw (K w.params)) hn (by decide) hdf ⟨rfl, by decide, by decide⟩ hY F (fun _ _ a ns hl _ hS => ⟨a, ns, rfl, hS, hl, fun _ => rfl⟩) fun _ _ _ _ _ z => z
end KW
end
open PySem PySem.W PyProof.Rows
set_option maxRecDepth 100000 in
set_option maxHeartbeats 0 in
theorem PySem.Challenge.cw_linkwork_k97_whole_blocks_and_tears_holds : PySem.Challenge.rw_linkwork_k97_whole_blocks_and_tears.Holds := by
  w_on; o_law; k_head; (case hw => w_witness2)
  k_fill
  refine KW.walk (l := PySem.Challenge.rw_linkwork_k97_whole_blocks_and_tears) rfl rfl (fun w h Y => PySem.W.kIn_of Y) ?F
  case F =>
    intro w mg fa h KX G hmg
    refine' KW.all_mk KX G hmg ?TX ?TB ?XN ?XM ?nm ?d7 ?d9 ?d10 ?d12 ?d13 ?d14 ?d15 ?d17 ?d18 ?d19 ?d20 ?d23 ?d24 ?d26 ?d27 ?d28 ?d29 ?d30 ?d31 ?d32 ?d33 ?d35 ?d36 ?d37 ?d38 ?d39 ?d40 ?d41 ?d42 ?d43 ?d44 ?a45 ?l45 ?c45 ?k45 ?z_len ?z_range ?z_enumerate ?z_zip ?z_list ?z_sorted ?z_all ?z_abs ?z_str ?z_int ?z_isinstance ?z_bool
    case TX =>
      refine' ⟨?cl, ?nT, ?nB, ?gC, ?sf, ?mks, ?kp, ?init, ?eq, ?ne, ?neg, ?add, ?sub, ?mul, ?cls, ?clg, ?clt, ?mro, ?bool⟩
      case gC => (refine' PySem.W.mg_of KX G ?a; (case a => k_is))
      case cl => (refine' KW.cls_mk ?pg ?hd ?po ?sa; (case pg => k_is); (case hd => k_is); (case po => k_is); (case sa => k_is))
      case nT => (refine' KW.na_mk ?a; (case a => k_is))
      case nB => (refine' KW.na_mk ?a; (case a => k_is))
      case sf => (k_is)
      case mks => (k_is)
      case kp => (k_is)
      case init => (refine' KW.init_mk ?a ?i ?l ?c ?k ?lT ?dT; (case a => k_is); (case i => k_is); (case l => k_is); (case c => k_is); (case k => k_is); (case lT => k_is); (case dT => rfl))
      case eq => (refine' KW.mf_mk ?a ?i ?l ?c ?k; (case a => k_is); (case i => k_is); (case l => k_is); (case c => k_is); (case k => k_is))
      case ne => (refine' KW.mf_mk ?a ?i ?l ?c ?k; (case a => k_is); (case i => k_is); (case l => k_is); (case c => k_is); (case k => k_is))
      case neg => (refine' KW.mf_mk ?a ?i ?l ?c ?k; (case a => k_is); (case i => k_is); (case l => k_is); (case c => k_is); (case k => k_is))
      case add => (refine' KW.mf_mk ?a ?i ?l ?c ?k; (case a => k_is); (case i => k_is); (case l => k_is); (case c => k_is); (case k => k_is))
      case sub => (refine' KW.mf_mk ?a ?i ?l ?c ?k; (case a => k_is); (case i => k_is); (case l => k_is); (case c => k_is); (case k => k_is))
      case mul => (refine' KW.mf_mk ?a ?i ?l ?c ?k; (case a => k_is); (case i => k_is); (case l => k_is); (case c => k_is); (case k => k_is))
      case cls => (k_is)
      case clg => (k_is)
      case clt => (k_is)
      case mro => (k_is)
      case bool => (refine KW.kit_bool ?s; (case s => k_is))
    case TB =>
      refine' ⟨?cl, ?nR, ?gC, ?mks, ?kp, ?init, ?reduced, ?add⟩
      case gC => (refine' PySem.W.mg_of KX G ?a; (case a => k_is))
      case cl => (refine' KW.cls_mk ?pg ?hd ?po ?sa; (case pg => k_is); (case hd => k_is); (case po => k_is); (case sa => k_is))
      case nR => (refine' KW.na_mk ?a; (case a => k_is))
      case mks => (k_is)
      case kp => (k_is)
      case init => (refine' KW.mf_mk ?a ?i ?l ?c ?k; (case a => k_is); (case i => k_is); (case l => k_is); (case c => k_is); (case k => k_is))
      case reduced => (refine' KW.mf_mk ?a ?i ?l ?c ?k; (case a => k_is); (case i => k_is); (case l => k_is); (case c => k_is); (case k => k_is))
      case add => (refine' KW.mf_mk ?a ?i ?l ?c ?k; (case a => k_is); (case i => k_is); (case l => k_is); (case c => k_is); (case k => k_is))
    case XN =>
      refine' ⟨?g, ?ex, ?kp, ?bP, ?tP, ?iP, ?sP⟩
      case g => (refine' PySem.W.mg_of KX G ?a; (case a => k_is))
      case ex => (k_exc)
      case kp => (k_is)
      case bP => (k_is)
      case tP => (k_is)
      case iP => (k_is)
      case sP => (first | rfl | k_is)
    case XM =>
      refine' ⟨?g, ?ex, ?kp, ?bP, ?tP, ?iP, ?sP⟩
      case g => (refine' PySem.W.mg_of KX G ?a; (case a => k_is))
      case ex => (k_exc)
      case kp => (k_is)
      case bP => (k_is)
      case tP => (k_is)
      case iP => (k_is)
      case sP => (first | rfl | k_is)
    case nm => k_is
    case d7 => (refine' KW.df_mk KX G ?a ?l ?c ?k; (case a => k_is); (case l => k_is); (case c => k_is); (case k => k_is))
    case d9 => (refine' KW.df_mk KX G ?a ?l ?c ?k; (case a => k_is); (case l => k_is); (case c => k_is); (case k => k_is))
    case d10 => (refine' KW.df_mk KX G ?a ?l ?c ?k; (case a => k_is); (case l => k_is); (case c => k_is); (case k => k_is))
    case d12 => (refine' KW.df_mk KX G ?a ?l ?c ?k; (case a => k_is); (case l => k_is); (case c => k_is); (case k => k_is))
    case d13 => (refine' KW.df_mk KX G ?a ?l ?c ?k; (case a => k_is); (case l => k_is); (case c => k_is); (case k => k_is))
    case d14 => (refine' KW.df_mk KX G ?a ?l ?c ?k; (case a => k_is); (case l => k_is); (case c => k_is); (case k => k_is))
    case d15 => (refine' KW.df_mk KX G ?a ?l ?c ?k; (case a => k_is); (case l => k_is); (case c => k_is); (case k => k_is))
    case d17 => (refine' KW.df_mk KX G ?a ?l ?c ?k; (case a => k_is); (case l => k_is); (case c => k_is); (case k => k_is))
    case d18 => (refine' KW.df_mk KX G ?a ?l ?c ?k; (case a => k_is); (case l => k_is); (case c => k_is); (case k => k_is))
    case d19 => (refine' KW.df_mk KX G ?a ?l ?c ?k; (case a => k_is); (case l => k_is); (case c => k_is); (case k => k_is))
    case d20 => (refine' KW.df_mk KX G ?a ?l ?c ?k; (case a => k_is); (case l => k_is); (case c => k_is); (case k => k_is))
    case d23 => (refine' KW.df_mk KX G ?a ?l ?c ?k; (case a => k_is); (case l => k_is); (case c => k_is); (case k => k_is))
    case d24 => (refine' KW.df_mk KX G ?a ?l ?c ?k; (case a => k_is); (case l => k_is); (case c => k_is); (case k => k_is))
    case d26 => (refine' KW.df_mk KX G ?a ?l ?c ?k; (case a => k_is); (case l => k_is); (case c => k_is); (case k => k_is))
    case d27 => (refine' KW.df_mk KX G ?a ?l ?c ?k; (case a => k_is); (case l => k_is); (case c => k_is); (case k => k_is))
    case d28 => (refine' KW.df_mk KX G ?a ?l ?c ?k; (case a => k_is); (case l => k_is); (case c => k_is); (case k => k_is))
    case d29 => (refine' KW.df_mk KX G ?a ?l ?c ?k; (case a => k_is); (case l => k_is); (case c => k_is); (case k => k_is))
    case d30 => (refine' KW.df_mk KX G ?a ?l ?c ?k; (case a => k_is); (case l => k_is); (case c => k_is); (case k => k_is))
    case d31 => (refine' KW.df_mk KX G ?a ?l ?c ?k; (case a => k_is); (case l => k_is); (case c => k_is); (case k => k_is))
    case d32 => (refine' KW.df_mk KX G ?a ?l ?c ?k; (case a => k_is); (case l => k_is); (case c => k_is); (case k => k_is))
    case d33 => (refine' KW.df_mk KX G ?a ?l ?c ?k; (case a => k_is); (case l => k_is); (case c => k_is); (case k => k_is))
    case d35 => (refine' KW.df_mk KX G ?a ?l ?c ?k; (case a => k_is); (case l => k_is); (case c => k_is); (case k => k_is))
    case d36 => (refine' KW.df_mk KX G ?a ?l ?c ?k; (case a => k_is); (case l => k_is); (case c => k_is); (case k => k_is))
    case d37 => (refine' KW.df_mk KX G ?a ?l ?c ?k; (case a => k_is); (case l => k_is); (case c => k_is); (case k => k_is))
    case d38 => (refine' KW.df_mk KX G ?a ?l ?c ?k; (case a => k_is); (case l => k_is); (case c => k_is); (case k => k_is))
    case d39 => (refine' KW.df_mk KX G ?a ?l ?c ?k; (case a => k_is); (case l => k_is); (case c => k_is); (case k => k_is))
    case d40 => (refine' KW.df_mk KX G ?a ?l ?c ?k; (case a => k_is); (case l => k_is); (case c => k_is); (case k => k_is))
    case d41 => (refine' KW.df_mk KX G ?a ?l ?c ?k; (case a => k_is); (case l => k_is); (case c => k_is); (case k => k_is))
    case d42 => (refine' KW.df_mk KX G ?a ?l ?c ?k; (case a => k_is); (case l => k_is); (case c => k_is); (case k => k_is))
    case d43 => (refine' KW.df_mk KX G ?a ?l ?c ?k; (case a => k_is); (case l => k_is); (case c => k_is); (case k => k_is))
    case d44 => (refine' KW.df_mk KX G ?a ?l ?c ?k; (case a => k_is); (case l => k_is); (case c => k_is); (case k => k_is))
    case a45 => k_is
    case l45 => k_is
    case c45 => k_is
    case k45 => k_is
    case z_len => k_is
    case z_range => k_is
    case z_enumerate => k_is
    case z_zip => k_is
    case z_list => k_is
    case z_sorted => k_is
    case z_all => k_is
    case z_abs => k_is
    case z_str => k_is
    case z_int => k_is
    case z_isinstance => k_is
    case z_bool => k_is
