import PyProof.Rows.All
import Wide.All
import OpenK.AllK
import Wide.FinOn
import Open.SpecLaws
import KE.OsGo
import HandS.ForSpec
import HandS.Dict
import HandS.WordsDict
import HandS.Comp
import HandS.Evl
import PySem.Challenge.RW_lentplaces_s01_answers
set_option Elab.async false
set_option linter.all false
set_option maxRecDepth 100000
set_option maxHeartbeats 4000000
namespace Lp
open Sd22

/-! ## numbers as bytes -/
theorem be4 (n : Nat) : be 4 n = [n / 16777216 % 256, n / 65536 % 256, n / 256 % 256, n % 256] := by
  have e : be 4 n = [n / 256 ^ 3 % 256, n / 256 ^ 2 % 256, n / 256 ^ 1 % 256, n / 256 ^ 0 % 256] := rfl
  rw [e]
  simp
theorem be2 (n : Nat) : be 2 n = [n / 256 % 256, n % 256] := by
  have e : be 2 n = [n / 256 ^ 1 % 256, n / 256 ^ 0 % 256] := rfl
  rw [e]
  simp
theorem high_go (b : Bytes) : ∀ n : Nat, b.foldl (fun n c => 256 * n + c) n = n * 256 ^ b.length + high b := by
  induction b with
  | nil => intro n; simp [high]
  | cons x r ih =>
    intro n
    have h1 := ih (256 * n + x)
    have h2 := ih (256 * 0 + x)
    unfold high
    simp only [List.foldl_cons, List.length_cons]
    rw [h1, h2, Nat.pow_succ, Nat.add_mul, Nat.add_mul]
    have e : 256 * n * 256 ^ r.length = n * (256 ^ r.length * 256) := by
      rw [Nat.mul_comm 256 n, Nat.mul_assoc, Nat.mul_comm 256]
    rw [e]
    omega
theorem high_lt (b : Bytes) (h : ∀ x ∈ b, x < 256) : high b < 256 ^ b.length := by
  induction b with
  | nil => simp [high]
  | cons x r ih =>
    have h1 := ih fun y hy => h y (List.mem_cons_of_mem _ hy)
    have hx : x < 256 := h x List.mem_cons_self
    have e : high (x :: r) = x * 256 ^ r.length + high r := by
      have := high_go r (256 * 0 + x)
      unfold high
      simp only [List.foldl_cons]
      rw [this]
      simp [high]
    rw [e, List.length_cons, Nat.pow_succ]
    have : x * 256 ^ r.length ≤ 255 * 256 ^ r.length := Nat.mul_le_mul_right _ (by omega)
    omega
theorem len2 {b : Bytes} (h : b.length = 2) : ∃ x y, b = [x, y] := by
  match b, h with
  | [x, y], _ => exact ⟨x, y, rfl⟩
theorem len4 {b : Bytes} (h : b.length = 4) : ∃ x y z w, b = [x, y, z, w] := by
  match b, h with
  | [x, y, z, w], _ => exact ⟨x, y, z, w, rfl⟩
theorem be2_high {b : Bytes} (hl : b.length = 2) (h : ∀ x ∈ b, x < 256) : be 2 (high b) = b := by
  obtain ⟨x, y, rfl⟩ := len2 hl
  have h1 : x < 256 := h x (by simp)
  have h2 : y < 256 := h y (by simp)
  rw [be2]
  simp only [high, List.foldl_cons, List.foldl_nil]
  rw [show (256 * (256 * 0 + x) + y) / 256 % 256 = x by omega, show (256 * (256 * 0 + x) + y) % 256 = y by omega]
theorem flag_high {x y : Nat} (h2 : y < 256) : (32768 ≤ high [x, y]) ↔ 128 ≤ x := by
  simp only [high, List.foldl_cons, List.foldl_nil]
  omega

/-! ## lists -/
theorem take_more {α : Type} {l : List α} {i : Nat} {x : α} (h : l[i]? = some x) : l.take (i + 1) = l.take i ++ [x] := by
  rw [List.take_add_one, h]
  rfl
theorem find_range_none {p : Nat → Bool} {n : Nat} (h : ∀ i, i < n → p i = false) : (List.range n).find? p = none := by
  rw [List.find?_eq_none]
  intro x hx
  rw [h x (List.mem_range.mp hx)]
  simp
theorem find_range_some {p : Nat → Bool} : ∀ {n i : Nat}, i < n → p i = true → (∀ j, j < i → p j = false) → (List.range n).find? p = some i := by
  intro n
  induction n with
  | zero => intro i h; omega
  | succ n ih =>
    intro i h hp hj
    rw [List.range_succ, List.find?_append]
    by_cases e : i < n
    · rw [ih e hp hj]
      rfl
    · have : i = n := by omega
      subst this
      rw [find_range_none hj]
      simp [hp]

/-! ## the mask -/
theorem and_succ_pow : ∀ (n r : Nat), r ≤ n → r &&& (r + 1) = 0 → ∃ k, r + 1 = 2 ^ k := by
  intro n
  induction n with
  | zero =>
    intro r hr _
    exact ⟨0, by omega⟩
  | succ n ih =>
    intro r hr h
    by_cases h0 : r = 0
    · exact ⟨0, by omega⟩
    · rcases Nat.mod_two_eq_zero_or_one r with e | e
      · exfalso
        have h1 : (r &&& (r + 1)) / 2 = r / 2 &&& (r + 1) / 2 := Nat.and_div_two
        rw [h, show (r + 1) / 2 = r / 2 by omega, Nat.and_self] at h1
        omega
      · have h1 : (r &&& (r + 1)) / 2 = r / 2 &&& (r + 1) / 2 := Nat.and_div_two
        rw [h, show (r + 1) / 2 = r / 2 + 1 by omega] at h1
        obtain ⟨k, hk⟩ := ih (r / 2) (by omega) (by omega)
        exact ⟨k + 1, by rw [Nat.pow_succ]; omega⟩
theorem pow_and (k : Nat) : (2 ^ k - 1) &&& (2 ^ k - 1 + 1) = 0 := by
  have h : 0 < 2 ^ k := Nat.two_pow_pos k
  rw [show 2 ^ k - 1 + 1 = 2 ^ k by omega, Nat.and_comm, Nat.and_two_pow_sub_one_eq_mod, Nat.mod_self]
theorem mask_iff {m : Nat} (hm : m < 2 ^ 32) : decide ((4294967295 - m) &&& (4294967295 - m + 1) = 0) = (List.range 33).any fun k => m == 2 ^ 32 - 2 ^ k := by
  rw [Bool.eq_iff_iff, decide_eq_true_iff, List.any_eq_true]
  constructor
  · intro h
    obtain ⟨k, hk⟩ := and_succ_pow _ _ (Nat.le_refl _) h
    have hk2 : k < 33 := by
      apply Classical.byContradiction
      intro hn
      have : 2 ^ 33 ≤ 2 ^ k := Nat.pow_le_pow_right (by omega) (by omega)
      omega
    exact ⟨k, List.mem_range.mpr hk2, by rw [beq_iff_eq]; omega⟩
  · rintro ⟨k, hk, e⟩
    rw [beq_iff_eq] at e
    have hk := List.mem_range.mp hk
    have h1 : 2 ^ k ≤ 2 ^ 32 := Nat.pow_le_pow_right (by omega) (by omega)
    have h2 : 0 < 2 ^ k := Nat.two_pow_pos k
    rw [show 4294967295 - m = 2 ^ k - 1 by omega]
    exact pow_and k

/-! ## options -/
theorem options_more : ∀ (k : Nat) (b : Bytes) (hv o : List (Nat × Bytes)), options k b hv = some o → ∃ more, o = hv ++ more := by
  intro k
  induction k with
  | zero => intro b hv o h; simp [options] at h
  | succ k ih =>
    intro b hv o h
    unfold options at h
    split at h
    · cases h
    · split at h
      · cases h
        exact ⟨[], by simp⟩
      · cases h
    · exact ih _ _ _ h
    · cases h
    · split at h
      · cases h
      · obtain ⟨m, e⟩ := ih _ _ _ h
        exact ⟨_, by rw [e, List.append_assoc]⟩
def Pg (row : List Nat) (R : Option (List (Nat × Bytes))) (i : Nat) (hv : List (Nat × Bytes)) : Prop := ∃ k, row.length - i < k ∧ options k (row.drop i) hv = R
theorem Pg.start {row : List Nat} {i : Nat} : Pg row (options (row.length + 1) (row.drop i) []) i [] := ⟨row.length + 1, by omega, rfl⟩
section
variable {row : List Nat} {R : Option (List (Nat × Bytes))} {i c n : Nat} {hv : List (Nat × Bytes)}
theorem drop_at (h : row[i]? = some c) : row.drop i = c :: row.drop (i + 1) := by
  obtain ⟨h1, h2⟩ := List.getElem?_eq_some_iff.mp h
  rw [List.drop_eq_getElem_cons h1, h2]
theorem Pg.over (p : Pg row R i hv) (h : row.length ≤ i) : R = none := by
  obtain ⟨k, hk, e⟩ := p
  rw [List.drop_eq_nil_of_le h] at e
  cases k with
  | zero => omega
  | succ k => rw [← e]; rfl
theorem Pg.last (p : Pg row R i hv) (h : row[i]? = some 255) : R = if (row.drop (i + 1)).all (· == 0) = true then some hv else none := by
  obtain ⟨k, hk, e⟩ := p
  rw [drop_at h] at e
  cases k with
  | zero => omega
  | succ k => rw [← e]; simp only [options]
theorem Pg.zero (p : Pg row R i hv) (h : row[i]? = some 0) : Pg row R (i + 1) hv := by
  obtain ⟨k, hk, e⟩ := p
  have hl := (List.getElem?_eq_some_iff.mp h).1
  rw [drop_at h] at e
  cases k with
  | zero => omega
  | succ k => exact ⟨k, by omega, by rw [← e]; simp only [options]⟩
theorem options_one {k : Nat} (h1 : c ≠ 255) (h2 : c ≠ 0) : options (k + 1) [c] hv = none := by
  unfold options
  split
  · rfl
  · rename_i e; cases e; omega
  · rename_i e; cases e; omega
  · rfl
  · rename_i e; cases e
theorem options_two {k : Nat} {r : Bytes} (h1 : c ≠ 255) (h2 : c ≠ 0) : options (k + 1) (c :: n :: r) hv = if r.length < n ∨ (hv.any fun x => x.1 == c) = true then none else options k (r.drop n) (hv ++ [(c, r.take n)]) := by
  conv => lhs; unfold options
  split
  · rename_i e; cases e
  · rename_i e; cases e; omega
  · rename_i e; cases e; omega
  · rename_i e; cases e
  · rename_i e; cases e; rfl
theorem Pg.short (p : Pg row R i hv) (h : row[i]? = some c) (h1 : c ≠ 255) (h2 : c ≠ 0) (hl : row.length ≤ i + 1) : R = none := by
  obtain ⟨k, hk, e⟩ := p
  rw [drop_at h, List.drop_eq_nil_of_le hl] at e
  cases k with
  | zero => omega
  | succ k => rw [← e, options_one h1 h2]
theorem Pg.opt (p : Pg row R i hv) (h : row[i]? = some c) (h1 : c ≠ 255) (h2 : c ≠ 0) (hn : row[i + 1]? = some n) :
    (row.length < i + 2 + n → R = none) ∧ ((hv.any fun x => x.1 == c) = true → R = none) ∧
    (i + 2 + n ≤ row.length → (hv.any fun x => x.1 == c) = false → Pg row R (i + 2 + n) (hv ++ [(c, (row.drop (i + 2)).take n)])) := by
  obtain ⟨k, hk, e⟩ := p
  have hl := (List.getElem?_eq_some_iff.mp hn).1
  rw [drop_at h, drop_at hn] at e
  cases k with
  | zero => omega
  | succ k =>
    rw [options_two h1 h2, List.length_drop] at e
    refine ⟨fun q => ?_, fun q => ?_, fun q1 q2 => ?_⟩
    · rw [← e, if_pos (Or.inl (by omega))]
    · rw [← e, if_pos (Or.inr q)]
    · rw [if_neg (by rintro (z | z); omega; rw [q2] at z; cases z), List.drop_drop] at e
      refine ⟨k, by omega, ?_⟩
      rw [← e, show i + 2 + n = i + 1 + 1 + n by omega]
theorem Pg.in (p : Pg row R i hv) {o : List (Nat × Bytes)} (h : R = some o) : ∃ more, o = hv ++ more := by
  obtain ⟨k, _, e⟩ := p
  exact options_more k _ _ _ (e.trans h)
end
/-- what check_option asks of a length -/
def lensOf (c : Nat) : Option (Nat × Nat) := if c = 50 then some (4, 4) else if c = 51 then some (4, 4) else if c = 54 then some (4, 4) else if c = 53 then some (1, 1) else if c = 57 then some (2, 2) else if c = 61 then some (2, 32) else if c = 55 then some (1, 255) else none
def okOpt (c l : Nat) : Bool := c != 52 && match lensOf c with
  | none => true
  | some x => decide (x.1 ≤ l ∧ l ≤ x.2)
theorem ok_one (x : Nat × Bytes) : (lengths.all (fun y => y.1 != x.1 || decide (y.2.1 ≤ x.2.length ∧ x.2.length ≤ y.2.2)) && !(x.1 == 52)) = okOpt x.1 x.2.length := by
  obtain ⟨c, b⟩ := x
  unfold okOpt lensOf
  simp only [lengths, List.all_cons, List.all_nil, Bool.and_true]
  by_cases h0 : c = 52
  · subst h0; simp
  · have e0 : (c == 52) = false := by simpa using h0
    have e1 : (c != 52) = true := by simpa using h0
    rw [e0, e1]
    simp only [Bool.not_false, Bool.and_true, Bool.true_and]
    by_cases h1 : c = 50
    · subst h1; simp
    by_cases h2 : c = 51
    · subst h2; simp
    by_cases h3 : c = 54
    · subst h3; simp
    by_cases h4 : c = 53
    · subst h4; simp
    by_cases h5 : c = 57
    · subst h5; simp
    by_cases h6 : c = 61
    · subst h6; simp
    by_cases h7 : c = 55
    · subst h7; simp
    simp only [if_neg h1, if_neg h2, if_neg h3, if_neg h4, if_neg h5, if_neg h6, if_neg h7]
    have f : ∀ k : Nat, c ≠ k → (k != c) = true := fun k hk => by
      rw [bne_iff_ne]; exact fun e => hk e.symm
    rw [f 50 h1, f 53 h4, f 54 h3, f 51 h2, f 61 h6, f 55 h7, f 57 h5]
    simp
theorem fine_eq (l : List (Nat × Bytes)) : fine l = l.all fun x => okOpt x.1 x.2.length := by
  unfold fine
  induction l with
  | nil => rfl
  | cons x r ih =>
    rw [List.all_cons, List.any_cons, List.all_cons, ← ih, ← ok_one]
    cases (lengths.all fun y => y.1 != x.1 || decide (y.2.1 ≤ x.2.length ∧ x.2.length ≤ y.2.2)) <;> cases (x.1 == 52) <;> simp
theorem all_zero (l : List Nat) : (l.all (· == 0) = true) ↔ l.sum = 0 := by
  induction l with
  | nil => simp
  | cons x r ih =>
    rw [List.all_cons, List.sum_cons, Bool.and_eq_true, ih, beq_iff_eq]
    omega
end Lp
namespace Lp
open PySem PySem.Spec PyProof.Rows L2

/-! ## the text, the addresses, the readings' operators -/
def topS (i : Nat) : Stmt := PySem.Challenge.pw_lentplaces_s01_answers.main.body.getD i (.Pass ⟨0, 0, 0, 0⟩)
/-- where the classes and the written lists stand -/
structure Ad where
  p : Addr
  n : Addr
  k : Addr
  r : Addr
  d : Addr
  f : Addr
  beg : Addr
  mgc : Addr
  lens : Addr
abbrev oAdd : R2 := rI0 fun i j => .int (i + j)
abbrev oSub : R2 := rI0 fun i j => .int (i - j)
abbrev oMul : R2 := rI CMul fun i j => .int (i * j)
abbrev oDiv : R2 := rI CDiv fun i j => .int (i / j)
abbrev oShr : R2 := rI (fun _ j => 0 ≤ j) fun i j => .int (i / 2 ^ j.toNat)
abbrev oAnd : R2 := rI0 fun i j => .int (Builtin.bitAnd i j)
abbrev oLt : R2 := rI0 fun i j => .bl (decide (i < j))
abbrev oLe : R2 := rI0 fun i j => .bl (decide (i ≤ j))
abbrev oGt : R2 := rI0 fun i j => .bl (decide (j < i))
abbrev oGe : R2 := rI0 fun i j => .bl (decide (j ≤ i))
abbrev oIsN : R2 := fun x y H Q => y = .non ∧ Q (.bl (decide (x = .non))) H
abbrev oNotN : R2 := fun x y H Q => y = .non ∧ Q (.bl (!decide (x = .non))) H
abbrev oNeg : V → Hp → VK → Prop := rU fun i => .int (-i)
abbrev rLenQ (K : PySem.W.Frag) : List V → Hp → VK → Prop := fun xs H Q => ∃ p ys, xs = [.ref p] ∧ (SqL K H p ys ∨ SqT K H p ys) ∧ Q (.int ys.length) H
abbrev rListQ (K : PySem.W.Frag) : List V → Hp → VK → Prop := fun xs H Q => ∃ p ys, xs = [.ref p] ∧ (SqL K H p ys ∨ SqT K H p ys) ∧ ∀ l, H l = none → Q (.ref l) (upd H l (.lst ys))
abbrev rMaxQ : List V → Hp → VK → Prop := fun xs H Q => ∃ i j, xs = [.int i, .int j] ∧ Q (.int (if j > i then j else i)) H
abbrev tDNewK : TE := fun _ H Q => ∀ d, H d = none → Q (.ref d) (upd H d (.dK []))

/-- numbers as a list's values -/
def nv (l : List Nat) : List V := l.map fun (n : Nat) => V.int ((n : Nat) : Int)
theorem nv_len (l : List Nat) : (nv l).length = l.length := List.length_map _
theorem nv_app (a b : List Nat) : nv (a ++ b) = nv a ++ nv b := List.map_append
theorem nv_get {l : List Nat} {i : Nat} {x : Nat} (h : l[i]? = some x) : (nv l)[i]? = some (.int x) := by
  unfold nv
  rw [List.getElem?_map, h]
  rfl
theorem nv_take (l : List Nat) (n : Nat) : (nv l).take n = nv (l.take n) := List.map_take.symm
theorem nv_drop (l : List Nat) (n : Nat) : (nv l).drop n = nv (l.drop n) := List.map_drop.symm
theorem nv_ints (l : List Nat) : nv l = (l.map fun n : Nat => (n : Int)).map V.int := by
  unfold nv
  rw [List.map_map]
  rfl

/-! ## a module's constant -/
def Gc (mg : Str → Option Value) (x : Str) (v : V) : Prop := ∃ u, mg x = some u ∧ RelV v u
theorem pe_gc {X : Cx} {x : Str} {v : V} {pos : Pos} (hg : Gl X x) (h : Gc X.mg x v) (hd : (x == ("__debug__" : Str)) = false := by decide) : PE X (.Name x pos) (tC v) := by
  obtain ⟨u, hm, r⟩ := h
  exact pe_glob hg hm r hd

/-! ## list + list, the right one written at the module's top, too -/
def LO (K : PySem.W.Frag) (H : Hp) (a : Addr) (xs : List V) : Prop :=
  Rd H a (.lst xs) ∨ ∃ (its : List Value) (n : Nat), K.lookup a = some { cls := .type "list", data := .seq its.toArray n } ∧ its.length ≤ sizeLine ∧ Vals xs its
theorem LO.of {K : PySem.W.Frag} {H : Hp} {a : Addr} {xs : List V} (h : H a = some (.lst xs)) : LO K H a xs := .inl (.inl h)
theorem LO.sq {K : PySem.W.Frag} {H : Hp} {a : Addr} {xs : List V} (h : LO K H a xs) : SqL K H a xs := by
  rcases h with h | ⟨its, n, e, z, r⟩
  · exact .inl h
  · exact .inr ⟨_, its.toArray, n, e, rfl, rfl, rfl, by simpa using z, by simpa using r⟩
theorem LO.get {X : Cx} {pins : List (Addr × Obj)} {σ : L2.St} {H : Hp} {s : Shared} {a : Addr} {xs : List V} (I : Inv X pins σ H s) (h : LO X.K H a xs) :
    ∃ (its : List Value) (n : Nat), Vals xs its ∧ xs.length ≤ sizeLine ∧ s.heap.get? a = some { cls := .type "list", data := .seq its.toArray n } := by
  rcases h with h | ⟨its, n, e, z, r⟩
  · obtain ⟨z, its, n, r, e⟩ := rd_of I.hok h
    exact ⟨its, n, r, z, e⟩
  · exact ⟨its, n, r, by rw [r.length]; exact z, I.kIn _ _ e⟩
def oCat (K : PySem.W.Frag) : R2 := fun x y H Q => ∃ l b xs zs, x = .ref l ∧ y = .ref b ∧ LO K H l xs ∧ LO K H b zs ∧ xs.length + zs.length ≤ sizeLine ∧ ∀ p, H p = none → Q (.ref p) (upd H p (.lst (xs ++ zs)))
theorem op_catS {X : Cx} : OpR X (binaryOp .Add) (oCat X.K) := by
  intro pins s σ H x y v u Q I rx ry h
  obtain ⟨l, b, xs, zs, rfl, rfl, hH, hB, hz, q⟩ := h
  cases rx
  cases ry
  obtain ⟨its, n, r, z, e⟩ := hH.get I
  obtain ⟨its2, n2, r2, z2, e2⟩ := hB.get I
  refine PySem.P.add_list e e2 ?_ (by rw [List.size_toArray, List.size_toArray, ← r.length, ← r2.length]; exact hz)
  have ea : its.toArray ++ its2.toArray = (its ++ its2).toArray := by simp
  rw [ea]
  exact ⟨.ref _, _, I.lnew (t' := s.toks) (r.append r2) (by rw [List.length_append]; omega), rfl, q _ I.fresh⟩


/-! ## the written dict LENGTHS -/
/-- the dict at d: its keys are ints, what stands at them are tuples of two ints -/
structure Pair2 (K : PySem.W.Frag) (a : Addr) (lo hi : Int) : Prop where
  ex : ∃ (t u : Tok) (n : Nat), K.lookup a = some { cls := .type "tuple", data := .seq #[.int lo t, .int hi u] n }
theorem Pair2.sq {K : PySem.W.Frag} {a : Addr} {lo hi : Int} (h : Pair2 K a lo hi) (H : Hp) : SqT K H a [.int lo, .int hi] := by
  obtain ⟨t, u, n, e⟩ := h.ex
  exact .inr ⟨_, _, n, e, rfl, rfl, by show 2 ≤ sizeLine; decide, .cons ⟨t, rfl⟩ (.cons ⟨u, rfl⟩ .nil)⟩
structure Lens (K : PySem.W.Frag) (d : Addr) : Prop where
  ex : ∃ (a1 a2 a3 a4 a5 a6 a7 : Addr) (t1 t2 t3 t4 t5 t6 t7 : Tok) (ep : Nat),
    K.lookup d = some { cls := .type "dict", data := .dict #[⟨50, .int 50 t1, .ref a1⟩, ⟨51, .int 51 t2, .ref a2⟩, ⟨54, .int 54 t3, .ref a3⟩, ⟨53, .int 53 t4, .ref a4⟩, ⟨57, .int 57 t5, .ref a5⟩, ⟨61, .int 61 t6, .ref a6⟩, ⟨55, .int 55 t7, .ref a7⟩] ep } ∧
    (d == sysModules) = false ∧ Pair2 K a1 4 4 ∧ Pair2 K a2 4 4 ∧ Pair2 K a3 4 4 ∧ Pair2 K a4 1 1 ∧ Pair2 K a5 2 2 ∧ Pair2 K a6 2 32 ∧ Pair2 K a7 1 255
theorem Lens.map {K : PySem.W.Frag} {d : Addr} (L : Lens K d) {h : Heap} (X : K.In h) (P : Program) (w : World) : (d == sysModules) = false ∧ ∃ f : Int → Option Value, h.MapOf (intKind P w) d f ∧
    ∀ n : Nat, (lensOf n = none → f (n : Int) = none) ∧ ∀ lo hi : Nat, lensOf n = some (lo, hi) → ∃ a, f (n : Int) = some (.ref a) ∧ Pair2 K a lo hi := by
  obtain ⟨a1, a2, a3, a4, a5, a6, a7, t1, t2, t3, t4, t5, t6, t7, ep, e, hd, p1, p2, p3, p4, p5, p6, p7⟩ := L.ex
  have D : h.DictOf (intKind P w) d [(50, .ref a1), (51, .ref a2), (54, .ref a3), (53, .ref a4), (57, .ref a5), (61, .ref a6), (55, .ref a7)] := by
    refine ⟨_, _, ep, X _ _ e, ⟨rfl, rfl, rfl⟩, rfl, ?_, ?_, by show ([50, 51, 54, 53, 57, 61, 55] : List Int).Nodup; decide⟩
    · intro x hx
      have hx : x ∈ [⟨50, .int 50 t1, .ref a1⟩, ⟨51, .int 51 t2, .ref a2⟩, ⟨54, .int 54 t3, .ref a3⟩, ⟨53, .int 53 t4, .ref a4⟩, ⟨57, .int 57 t5, .ref a5⟩, ⟨61, .int 61 t6, .ref a6⟩, (⟨55, .int 55 t7, .ref a7⟩ : DictEntry)] := by simpa using hx
      simp only [List.mem_cons, List.not_mem_nil, or_false] at hx
      rcases hx with rfl | rfl | rfl | rfl | rfl | rfl | rfl
      · exact ⟨50, keyIs_int 50 t1, rfl⟩
      · exact ⟨51, keyIs_int 51 t2, rfl⟩
      · exact ⟨54, keyIs_int 54 t3, rfl⟩
      · exact ⟨53, keyIs_int 53 t4, rfl⟩
      · exact ⟨57, keyIs_int 57 t5, rfl⟩
      · exact ⟨61, keyIs_int 61 t6, rfl⟩
      · exact ⟨55, keyIs_int 55 t7, rfl⟩
    · exact .cons (keyIs_int 50 t1) rfl (.cons (keyIs_int 51 t2) rfl (.cons (keyIs_int 54 t3) rfl (.cons (keyIs_int 53 t4) rfl (.cons (keyIs_int 57 t5) rfl (.cons (keyIs_int 61 t6) rfl (.cons (keyIs_int 55 t7) rfl .nil))))))
  refine ⟨hd, _, D.mapOf, fun n => ?_⟩
  unfold lensOf valueAt
  simp only [List.find?_cons, List.find?_nil]
  by_cases h1 : n = 50
  · subst h1; exact ⟨by simp, by rintro lo hi q; simp at q; obtain ⟨rfl, rfl⟩ := q; exact ⟨a1, rfl, p1⟩⟩
  by_cases h2 : n = 51
  · subst h2; exact ⟨by simp, by rintro lo hi q; simp at q; obtain ⟨rfl, rfl⟩ := q; exact ⟨a2, rfl, p2⟩⟩
  by_cases h3 : n = 54
  · subst h3; exact ⟨by simp, by rintro lo hi q; simp at q; obtain ⟨rfl, rfl⟩ := q; exact ⟨a3, rfl, p3⟩⟩
  by_cases h4 : n = 53
  · subst h4; exact ⟨by simp, by rintro lo hi q; simp at q; obtain ⟨rfl, rfl⟩ := q; exact ⟨a4, rfl, p4⟩⟩
  by_cases h5 : n = 57
  · subst h5; exact ⟨by simp, by rintro lo hi q; simp at q; obtain ⟨rfl, rfl⟩ := q; exact ⟨a5, rfl, p5⟩⟩
  by_cases h6 : n = 61
  · subst h6; exact ⟨by simp, by rintro lo hi q; simp at q; obtain ⟨rfl, rfl⟩ := q; exact ⟨a6, rfl, p6⟩⟩
  by_cases h7 : n = 55
  · subst h7; exact ⟨by simp, by rintro lo hi q; simp at q; obtain ⟨rfl, rfl⟩ := q; exact ⟨a7, rfl, p7⟩⟩
  have f1 : decide ((50 : Int) = (n : Int)) = false := decide_eq_false (by omega)
  have f2 : decide ((51 : Int) = (n : Int)) = false := decide_eq_false (by omega)
  have f3 : decide ((54 : Int) = (n : Int)) = false := decide_eq_false (by omega)
  have f4 : decide ((53 : Int) = (n : Int)) = false := decide_eq_false (by omega)
  have f5 : decide ((57 : Int) = (n : Int)) = false := decide_eq_false (by omega)
  have f6 : decide ((61 : Int) = (n : Int)) = false := decide_eq_false (by omega)
  have f7 : decide ((55 : Int) = (n : Int)) = false := decide_eq_false (by omega)
  rw [f1, f2, f3, f4, f5, f6, f7]
  simp [h1, h2, h3, h4, h5, h6, h7]
def rInLens (d : Addr) : R2 := fun x y H Q => ∃ n : Nat, x = .int n ∧ y = .ref d ∧ Q (.bl (lensOf n).isSome) H
def rIxLens (K : PySem.W.Frag) (d : Addr) : R2 := fun x y H Q => ∃ n lo hi : Nat, x = .ref d ∧ y = .int n ∧ lensOf n = some (lo, hi) ∧ ∀ t : Addr, Pair2 K t lo hi → Q (.ref t) H
theorem op_inLens {X : Cx} {d : Addr} (L : Lens X.K d) : OpR X (compareOp .In) (rInLens d) := by
  intro pins s σ H x y v u Q I rx ry h
  obtain ⟨n, rfl, rfl, q⟩ := h
  obtain ⟨t, rfl⟩ := rx
  obtain rfl : u = Value.ref d := ry
  obtain ⟨hd, f, hm, hf⟩ := L.map I.kIn X.prog X.w
  refine wpAny_in_of (k := (n : Int)) (keyIs_int n t) hd hm ⟨.bl (f (n : Int)).isSome, H, I.tok _, rfl, ?_⟩
  have e : (f (n : Int)).isSome = (lensOf n).isSome := by
    cases c : lensOf n with
    | none =>
      rw [(hf n).1 c]
      rfl
    | some x =>
      obtain ⟨a, e, _⟩ := (hf n).2 x.1 x.2 c
      rw [e]
      rfl
  rw [e]
  exact q
theorem ix_lens {X : Cx} {d : Addr} (L : Lens X.K d) : IxR X (rIxLens X.K d) := by
  intro value slice pins s σ H x y v u Q I rx ry h hs
  obtain ⟨n, lo, hi, rfl, rfl, hl, q⟩ := h
  obtain rfl : v = Value.ref d := rx
  obtain ⟨t, rfl⟩ := ry
  obtain ⟨hd, f, hm, hf⟩ := L.map I.kIn X.prog X.w
  obtain ⟨a, e, p⟩ := (hf n).2 lo hi hl
  exact tail_any hm.typeIs slot_dict_getitem.lookup (wpAny_getItem_of (k := (n : Int)) (keyIs_int n t) hm e ⟨.ref a, H, I.tok _, rfl, q a p⟩) hs
end Lp
namespace Lp
open PySem PySem.Spec PyProof.Rows L2
open Evl (Ex Ev EvT EvA EvO EvL)

/-! ## the objects' attributes, in the order in which they are set -/
theorem lk_here {k : Str} {v : V} {r : List (Str × V)} : List.lookup k ((k, v) :: r) = some v := by
  have e : (k == k) = true := beq_self_eq_true k
  simp only [List.lookup, e]
theorem lk_past {k g : Str} {v : V} {r : List (Str × V)} (h : (k == g) = false) : List.lookup k ((g, v) :: r) = List.lookup k r := by
  simp only [List.lookup, h]
def plF (ad s t : Nat) (o : V) : List (Str × V) := [("address", .int (ad : Int)), ("state", .int (s : Int)), ("till", .int (t : Int)), ("owner", o)]
theorem plF_address (ad s t : Nat) (o : V) : (plF ad s t o).lookup ("address" : Str) = some (.int (ad : Int)) := lk_here
theorem plF_state (ad s t : Nat) (o : V) : (plF ad s t o).lookup ("state" : Str) = some (.int (s : Int)) := ((lk_past (by decide +kernel)).trans lk_here)
theorem plF_till (ad s t : Nat) (o : V) : (plF ad s t o).lookup ("till" : Str) = some (.int (t : Int)) := ((lk_past (by decide +kernel)).trans ((lk_past (by decide +kernel)).trans lk_here))
theorem plF_owner (ad s t : Nat) (o : V) : (plF ad s t o).lookup ("owner" : Str) = some (o) := ((lk_past (by decide +kernel)).trans ((lk_past (by decide +kernel)).trans ((lk_past (by decide +kernel)).trans lk_here)))
theorem plF_no_is_own (ad s t : Nat) (o : V) : (plF ad s t o).lookup ("is_own" : Str) = none := ((lk_past (by decide +kernel)).trans ((lk_past (by decide +kernel)).trans ((lk_past (by decide +kernel)).trans ((lk_past (by decide +kernel)).trans rfl))))
theorem plF_no_is_free_at (ad s t : Nat) (o : V) : (plF ad s t o).lookup ("is_free_at" : Str) = none := ((lk_past (by decide +kernel)).trans ((lk_past (by decide +kernel)).trans ((lk_past (by decide +kernel)).trans ((lk_past (by decide +kernel)).trans rfl))))
theorem plF_no_become (ad s t : Nat) (o : V) : (plF ad s t o).lookup ("become" : Str) = none := ((lk_past (by decide +kernel)).trans ((lk_past (by decide +kernel)).trans ((lk_past (by decide +kernel)).trans ((lk_past (by decide +kernel)).trans rfl))))
def netF (n : Sd22.Net) (now : Nat) (pl : Addr) : List (Str × V) := [("server", .int (n.server : Int)), ("mask", .int (n.mask : Int)), ("way_out", .int (n.router : Int)), ("names", .int (n.names : Int)), ("first", .int (n.first : Int)), ("long", .int (n.time : Int)), ("now", .int (now : Int)), ("places", .ref pl)]
theorem netF_server (n : Sd22.Net) (now : Nat) (pl : Addr) : (netF n now pl).lookup ("server" : Str) = some (.int (n.server : Int)) := lk_here
theorem netF_mask (n : Sd22.Net) (now : Nat) (pl : Addr) : (netF n now pl).lookup ("mask" : Str) = some (.int (n.mask : Int)) := ((lk_past (by decide +kernel)).trans lk_here)
theorem netF_way_out (n : Sd22.Net) (now : Nat) (pl : Addr) : (netF n now pl).lookup ("way_out" : Str) = some (.int (n.router : Int)) := ((lk_past (by decide +kernel)).trans ((lk_past (by decide +kernel)).trans lk_here))
theorem netF_names (n : Sd22.Net) (now : Nat) (pl : Addr) : (netF n now pl).lookup ("names" : Str) = some (.int (n.names : Int)) := ((lk_past (by decide +kernel)).trans ((lk_past (by decide +kernel)).trans ((lk_past (by decide +kernel)).trans lk_here)))
theorem netF_first (n : Sd22.Net) (now : Nat) (pl : Addr) : (netF n now pl).lookup ("first" : Str) = some (.int (n.first : Int)) := ((lk_past (by decide +kernel)).trans ((lk_past (by decide +kernel)).trans ((lk_past (by decide +kernel)).trans ((lk_past (by decide +kernel)).trans lk_here))))
theorem netF_long (n : Sd22.Net) (now : Nat) (pl : Addr) : (netF n now pl).lookup ("long" : Str) = some (.int (n.time : Int)) := ((lk_past (by decide +kernel)).trans ((lk_past (by decide +kernel)).trans ((lk_past (by decide +kernel)).trans ((lk_past (by decide +kernel)).trans ((lk_past (by decide +kernel)).trans lk_here)))))
theorem netF_now (n : Sd22.Net) (now : Nat) (pl : Addr) : (netF n now pl).lookup ("now" : Str) = some (.int (now : Int)) := ((lk_past (by decide +kernel)).trans ((lk_past (by decide +kernel)).trans ((lk_past (by decide +kernel)).trans ((lk_past (by decide +kernel)).trans ((lk_past (by decide +kernel)).trans ((lk_past (by decide +kernel)).trans lk_here))))))
theorem netF_places (n : Sd22.Net) (now : Nat) (pl : Addr) : (netF n now pl).lookup ("places" : Str) = some (.ref pl) := ((lk_past (by decide +kernel)).trans ((lk_past (by decide +kernel)).trans ((lk_past (by decide +kernel)).trans ((lk_past (by decide +kernel)).trans ((lk_past (by decide +kernel)).trans ((lk_past (by decide +kernel)).trans ((lk_past (by decide +kernel)).trans lk_here)))))))
theorem netF_no_place_of (n : Sd22.Net) (now : Nat) (pl : Addr) : (netF n now pl).lookup ("place_of" : Str) = none := ((lk_past (by decide +kernel)).trans ((lk_past (by decide +kernel)).trans ((lk_past (by decide +kernel)).trans ((lk_past (by decide +kernel)).trans ((lk_past (by decide +kernel)).trans ((lk_past (by decide +kernel)).trans ((lk_past (by decide +kernel)).trans ((lk_past (by decide +kernel)).trans rfl))))))))
theorem netF_no_is_near (n : Sd22.Net) (now : Nat) (pl : Addr) : (netF n now pl).lookup ("is_near" : Str) = none := ((lk_past (by decide +kernel)).trans ((lk_past (by decide +kernel)).trans ((lk_past (by decide +kernel)).trans ((lk_past (by decide +kernel)).trans ((lk_past (by decide +kernel)).trans ((lk_past (by decide +kernel)).trans ((lk_past (by decide +kernel)).trans ((lk_past (by decide +kernel)).trans rfl))))))))
theorem netF_no_own_place (n : Sd22.Net) (now : Nat) (pl : Addr) : (netF n now pl).lookup ("own_place" : Str) = none := ((lk_past (by decide +kernel)).trans ((lk_past (by decide +kernel)).trans ((lk_past (by decide +kernel)).trans ((lk_past (by decide +kernel)).trans ((lk_past (by decide +kernel)).trans ((lk_past (by decide +kernel)).trans ((lk_past (by decide +kernel)).trans ((lk_past (by decide +kernel)).trans rfl))))))))
theorem netF_no_free_places (n : Sd22.Net) (now : Nat) (pl : Addr) : (netF n now pl).lookup ("free_places" : Str) = none := ((lk_past (by decide +kernel)).trans ((lk_past (by decide +kernel)).trans ((lk_past (by decide +kernel)).trans ((lk_past (by decide +kernel)).trans ((lk_past (by decide +kernel)).trans ((lk_past (by decide +kernel)).trans ((lk_past (by decide +kernel)).trans ((lk_past (by decide +kernel)).trans rfl))))))))
theorem netF_no_lend (n : Sd22.Net) (now : Nat) (pl : Addr) : (netF n now pl).lookup ("lend" : Str) = none := ((lk_past (by decide +kernel)).trans ((lk_past (by decide +kernel)).trans ((lk_past (by decide +kernel)).trans ((lk_past (by decide +kernel)).trans ((lk_past (by decide +kernel)).trans ((lk_past (by decide +kernel)).trans ((lk_past (by decide +kernel)).trans ((lk_past (by decide +kernel)).trans rfl))))))))
theorem netF_no_unoffer (n : Sd22.Net) (now : Nat) (pl : Addr) : (netF n now pl).lookup ("unoffer" : Str) = none := ((lk_past (by decide +kernel)).trans ((lk_past (by decide +kernel)).trans ((lk_past (by decide +kernel)).trans ((lk_past (by decide +kernel)).trans ((lk_past (by decide +kernel)).trans ((lk_past (by decide +kernel)).trans ((lk_past (by decide +kernel)).trans ((lk_past (by decide +kernel)).trans rfl))))))))
def pkF (nq fq mq od : Addr) (p : Sd22.Packet) : List (Str × V) := [("number", .ref nq), ("flags", .ref fq), ("client", .int (p.client : Int)), ("relay", .int (p.relay : Int)), ("machine", .ref mq), ("kind", .int (p.kind : Int)), ("options", .ref od)]
theorem pkF_number (nq fq mq od : Addr) (p : Sd22.Packet) : (pkF nq fq mq od p).lookup ("number" : Str) = some (.ref nq) := lk_here
theorem pkF_flags (nq fq mq od : Addr) (p : Sd22.Packet) : (pkF nq fq mq od p).lookup ("flags" : Str) = some (.ref fq) := ((lk_past (by decide +kernel)).trans lk_here)
theorem pkF_client (nq fq mq od : Addr) (p : Sd22.Packet) : (pkF nq fq mq od p).lookup ("client" : Str) = some (.int (p.client : Int)) := ((lk_past (by decide +kernel)).trans ((lk_past (by decide +kernel)).trans lk_here))
theorem pkF_relay (nq fq mq od : Addr) (p : Sd22.Packet) : (pkF nq fq mq od p).lookup ("relay" : Str) = some (.int (p.relay : Int)) := ((lk_past (by decide +kernel)).trans ((lk_past (by decide +kernel)).trans ((lk_past (by decide +kernel)).trans lk_here)))
theorem pkF_machine (nq fq mq od : Addr) (p : Sd22.Packet) : (pkF nq fq mq od p).lookup ("machine" : Str) = some (.ref mq) := ((lk_past (by decide +kernel)).trans ((lk_past (by decide +kernel)).trans ((lk_past (by decide +kernel)).trans ((lk_past (by decide +kernel)).trans lk_here))))
theorem pkF_kind (nq fq mq od : Addr) (p : Sd22.Packet) : (pkF nq fq mq od p).lookup ("kind" : Str) = some (.int (p.kind : Int)) := ((lk_past (by decide +kernel)).trans ((lk_past (by decide +kernel)).trans ((lk_past (by decide +kernel)).trans ((lk_past (by decide +kernel)).trans ((lk_past (by decide +kernel)).trans lk_here)))))
theorem pkF_options (nq fq mq od : Addr) (p : Sd22.Packet) : (pkF nq fq mq od p).lookup ("options" : Str) = some (.ref od) := ((lk_past (by decide +kernel)).trans ((lk_past (by decide +kernel)).trans ((lk_past (by decide +kernel)).trans ((lk_past (by decide +kernel)).trans ((lk_past (by decide +kernel)).trans ((lk_past (by decide +kernel)).trans lk_here))))))
theorem pkF_no_address_in (nq fq mq od : Addr) (p : Sd22.Packet) : (pkF nq fq mq od p).lookup ("address_in" : Str) = none := ((lk_past (by decide +kernel)).trans ((lk_past (by decide +kernel)).trans ((lk_past (by decide +kernel)).trans ((lk_past (by decide +kernel)).trans ((lk_past (by decide +kernel)).trans ((lk_past (by decide +kernel)).trans ((lk_past (by decide +kernel)).trans rfl)))))))
theorem pkF_no_who (nq fq mq od : Addr) (p : Sd22.Packet) : (pkF nq fq mq od p).lookup ("who" : Str) = none := ((lk_past (by decide +kernel)).trans ((lk_past (by decide +kernel)).trans ((lk_past (by decide +kernel)).trans ((lk_past (by decide +kernel)).trans ((lk_past (by decide +kernel)).trans ((lk_past (by decide +kernel)).trans ((lk_past (by decide +kernel)).trans rfl)))))))
def rpF (k y : Nat) : List (Str × V) := [("kind", .int (k : Int)), ("yours", .int (y : Int))]
theorem rpF_kind (k y : Nat) : (rpF k y).lookup ("kind" : Str) = some (.int (k : Int)) := lk_here
theorem rpF_yours (k y : Nat) : (rpF k y).lookup ("yours" : Str) = some (.int (y : Int)) := ((lk_past (by decide +kernel)).trans lk_here)
def dkF (v : V) : List (Str × V) := [("net", v)]
theorem dkF_net (v : V) : (dkF v).lookup ("net" : Str) = some (v) := lk_here
theorem dkF_no_start (v : V) : (dkF v).lookup ("start" : Str) = none := ((lk_past (by decide +kernel)).trans rfl)
theorem dkF_no_packet (v : V) : (dkF v).lookup ("packet" : Str) = none := ((lk_past (by decide +kernel)).trans rfl)
theorem dkF_no_tick (v : V) : (dkF v).lookup ("tick" : Str) = none := ((lk_past (by decide +kernel)).trans rfl)
theorem dkF_no_look (v : V) : (dkF v).lookup ("look" : Str) = none := ((lk_past (by decide +kernel)).trans rfl)
theorem plF_put_state (ad s t : Nat) (o : V) (x : Nat) : putF "state" (.int (x : Int)) (plF ad s t o) = plF ad x t o := by kernel_rfl
theorem plF_put_till (ad s t : Nat) (o : V) (x : Nat) : putF "till" (.int (x : Int)) (plF ad s t o) = plF ad s x o := by kernel_rfl
theorem plF_put_owner (ad s t : Nat) (o x : V) : putF "owner" x (plF ad s t o) = plF ad s t x := by kernel_rfl
theorem plF_new (ad : Nat) : putF "owner" .non (putF "till" (.int 0) (putF "state" (.int 0) (putF "address" (.int (ad : Int)) []))) = plF ad 0 0 .non := by kernel_rfl
theorem netF_put_now (n : Sd22.Net) (now : Nat) (pl : Addr) (x : Nat) : putF "now" (.int (x : Int)) (netF n now pl) = netF n x pl := by kernel_rfl
theorem netF_new (n : Sd22.Net) (pl : Addr) : putF "places" (.ref pl) (putF "now" (.int 0) (putF "long" (.int (n.time : Int)) (putF "first" (.int (n.first : Int)) (putF "names" (.int (n.names : Int)) (putF "way_out" (.int (n.router : Int)) (putF "mask" (.int (n.mask : Int)) (putF "server" (.int (n.server : Int)) []))))))) = netF n 0 pl := by kernel_rfl
theorem pkF_new (nq fq mq od : Addr) (p : Sd22.Packet) : putF "options" (.ref od) (putF "kind" (.int (p.kind : Int)) (putF "machine" (.ref mq) (putF "relay" (.int (p.relay : Int)) (putF "client" (.int (p.client : Int)) (putF "flags" (.ref fq) (putF "number" (.ref nq) [])))))) = pkF nq fq mq od p := by kernel_rfl
theorem rpF_new (k y : Nat) : putF "yours" (.int (y : Int)) (putF "kind" (.int (k : Int)) []) = rpF k y := by kernel_rfl
theorem dkF_new (v : V) : putF "net" v [] = dkF v := by kernel_rfl
theorem dkF_put (v x : V) : putF "net" x (dkF v) = dkF x := by kernel_rfl
theorem key_ne {a b : Str} {x y : V} {r r' : List (Str × V)} (h : (a == b) = false) : (a, x) :: r ≠ (b, y) :: r' := fun e => by
  have e1 : a = b := (Prod.mk.inj (List.cons.inj e).1).1
  rw [e1, beq_self_eq_true] at h
  cases h
theorem pl_net (ad s t : Nat) (o : V) (n : Sd22.Net) (now : Nat) (pl : Addr) : plF ad s t o ≠ netF n now pl := key_ne (by decide +kernel)
theorem pl_pk (ad s t : Nat) (o : V) (nq fq mq od : Addr) (p : Sd22.Packet) : plF ad s t o ≠ pkF nq fq mq od p := key_ne (by decide +kernel)
theorem pl_rp (ad s t : Nat) (o : V) (k y : Nat) : plF ad s t o ≠ rpF k y := key_ne (by decide +kernel)
theorem pl_dk (ad s t : Nat) (o v : V) : plF ad s t o ≠ dkF v := key_ne (by decide +kernel)
theorem net_dk (n : Sd22.Net) (now : Nat) (pl : Addr) (v : V) : netF n now pl ≠ dkF v := key_ne (by decide +kernel)

/-! ## what stays -/
def isPl (o : HO) : Prop := ∃ C dx a s t w, o = .ins C dx (plF a s t w)
/-- all but places stays -/
def Kp (H H' : Hp) : Prop := ∀ b o, H b = some o → ¬ isPl o → H' b = some o
theorem Kp.of {H H' : Hp} (e : Ex H H') : Kp H H' := fun b o h _ => e b o h
theorem Kp.trans {H H1 H2 : Hp} (a : Kp H H1) (b : Kp H1 H2) : Kp H H2 := fun x o h n => b x o (a x o h n) n
theorem Kp.lst {H H' : Hp} (e : Kp H H') {p : Addr} {xs : List V} (h : H p = some (.lst xs)) : H' p = some (.lst xs) := e _ _ h (by rintro ⟨_, _, _, _, _, _, z⟩; cases z)
def isIns : HO → Bool
  | .ins _ _ _ => true
  | _ => false
/-- all but instances stays -/
def Kn (H H' : Hp) : Prop := ∀ b o, H b = some o → isIns o = false → H' b = some o
theorem Kn.of {H H' : Hp} (e : Kp H H') : Kn H H' := fun b o h n => e b o h (by rintro ⟨_, _, _, _, _, _, rfl⟩; cases n)
theorem Kn.trans {H H1 H2 : Hp} (a : Kn H H1) (b : Kn H1 H2) : Kn H H2 := fun x o h n => b x o (a x o h n) n
theorem Kn.lst {H H' : Hp} (e : Kn H H') {p : Addr} {xs : List V} (h : H p = some (.lst xs)) : H' p = some (.lst xs) := e _ _ h rfl

/-! ## the places and the net -/
/-- whose: None, or a list that is not the one at fl -/
def OwnV (fl : Addr) (H : Hp) (o : V) (l : List Nat) : Prop := (o = .non ∧ l = []) ∨ ∃ q, o = .ref q ∧ l ≠ [] ∧ q ≠ fl ∧ H q = some (.lst (nv l))
def PlAt (C fl : Addr) (H : Hp) (p : Addr) (ad : Nat) (l : Sd22.Lease) : Prop := ∃ dx o, H p = some (.ins C dx (plF ad l.state l.until_ o)) ∧ OwnV fl H o l.who
structure NetOk (n : Sd22.Net) : Prop where
  c1 : 1 ≤ n.count
  c2 : n.count ≤ 256
  last : n.first + n.count ≤ 4294967296
  first : n.first ≠ 0
  server : n.server ≠ 0
  s32 : n.server < 4294967296
  m32 : n.mask < 4294967296
  r32 : n.router < 4294967296
  n32 : n.names < 4294967296
  time : n.time ≤ 31536000
structure NetAt (A : Ad) (fl : Addr) (H : Hp) (a : Addr) (s : Sd22.Abs) (pl : Addr) (as : List Addr) : Prop where
  obj : ∃ dx, H a = some (.ins A.n dx (netF s.net s.now pl))
  lst : H pl = some (.lst (as.map V.ref))
  plf : pl ≠ fl
  nd : as.Nodup
  len : as.length = s.net.count
  lenL : s.leases.length = s.net.count
  at_ : ∀ i p, as[i]? = some p → PlAt A.p fl H p (s.net.first + i) (s.at_ i)
  ok : NetOk s.net
theorem OwnV.up {fl : Addr} {H H' : Hp} {o : V} {l : List Nat} (h : OwnV fl H o l) (e : ∀ b xs, H b = some (.lst xs) → H' b = some (.lst xs)) : OwnV fl H' o l := by
  rcases h with h | ⟨q, h1, h2, h3, h4⟩
  · exact .inl h
  · exact .inr ⟨q, h1, h2, h3, e _ _ h4⟩
theorem PlAt.mono {C fl : Addr} {H H' : Hp} {p : Addr} {ad : Nat} {l : Sd22.Lease} (h : PlAt C fl H p ad l) (e : Ex H H') : PlAt C fl H' p ad l := by
  obtain ⟨dx, o, h1, h2⟩ := h
  exact ⟨dx, o, e _ _ h1, h2.up fun b xs q => e _ _ q⟩
section
variable {A : Ad} {fl : Addr} {H H' : Hp} {a : Addr} {s : Sd22.Abs} {pl : Addr} {as : List Addr}
theorem NetAt.mono (N : NetAt A fl H a s pl as) (e : Ex H H') : NetAt A fl H' a s pl as where
  obj := by
    obtain ⟨dx, h⟩ := N.obj
    exact ⟨dx, e _ _ h⟩
  lst := e _ _ N.lst
  plf := N.plf
  nd := N.nd
  len := N.len
  lenL := N.lenL
  at_ := fun i p h => (N.at_ i p h).mono e
  ok := N.ok
theorem NetAt.get (N : NetAt A fl H a s pl as) {i : Nat} (h : i < s.net.count) : ∃ p, as[i]? = some p := ⟨as[i]'(by rw [N.len]; exact h), List.getElem?_eq_getElem _⟩
theorem NetAt.lt (N : NetAt A fl H a s pl as) {i : Nat} {p : Addr} (h : as[i]? = some p) : i < s.net.count := by
  rw [← N.len]
  exact (List.getElem?_eq_some_iff.mp h).1
theorem set_at {s : Sd22.Abs} {i : Nat} {l : Sd22.Lease} (h : i < s.leases.length) (j : Nat) : (s.set i l).at_ j = if j = i then l else s.at_ j := by
  unfold Sd22.Abs.set Sd22.Abs.at_
  show (s.leases.set i l).getD j Sd22.none_ = _
  rw [List.getD_eq_getElem?_getD, List.getD_eq_getElem?_getD, List.getElem?_set]
  by_cases e : i = j
  · subst e
    rw [if_pos rfl, if_pos rfl, if_pos h]
    rfl
  · rw [if_neg e, if_neg (fun z => e z.symm)]
/-- a place is written -/
theorem NetAt.put (N : NetAt A fl H a s pl as) {i : Nat} {p dx : Addr} {fs : List (Str × V)} {l : Sd22.Lease} {o : V} (hi : as[i]? = some p) (hp : H p = some (.ins A.p dx fs)) (ho : OwnV fl H o l.who) :
    NetAt A fl (upd H p (.ins A.p dx (plF (s.net.first + i) l.state l.until_ o))) a (s.set i l) pl as := by
  have hli : i < s.leases.length := by
    rw [N.lenL]
    exact N.lt hi
  have lists : ∀ b xs, H b = some (.lst xs) → upd H p (.ins A.p dx (plF (s.net.first + i) l.state l.until_ o)) b = some (.lst xs) := fun b xs h => by
    rw [upd_ne (ne_of h hp (by intro z; cases z))]
    exact h
  refine ⟨?_, lists _ _ N.lst, N.plf, N.nd, N.len, ?_, fun j q hj => ?_, N.ok⟩
  · obtain ⟨dn, h⟩ := N.obj
    obtain ⟨dy, o', h', _⟩ := N.at_ i p hi
    refine ⟨dn, ?_⟩
    rw [upd_ne (ne_of h h' fun z => by injection z with _ _ z; exact pl_net _ _ _ _ _ _ _ z.symm)]
    exact h
  · show (s.leases.set i l).length = s.net.count
    rw [List.length_set]
    exact N.lenL
  · show PlAt A.p fl _ q (s.net.first + j) ((s.set i l).at_ j)
    rw [set_at hli]
    by_cases e : j = i
    · subst e
      rw [if_pos rfl]
      cases hi.symm.trans hj
      exact ⟨dx, o, upd_same, ho.up lists⟩
    · rw [if_neg e]
      obtain ⟨dy, o', h', ho'⟩ := N.at_ j q hj
      have hne : q ≠ p := fun z => by
        subst z
        exact e (nd_ix N.nd hj hi)
      exact ⟨dy, o', by rw [upd_ne hne]; exact h', ho'.up lists⟩
theorem NetAt.same_set (N : NetAt A fl H a s pl as) {i : Nat} {p : Addr} (hi : as[i]? = some p) {l : Sd22.Lease} (e : s.at_ i = l) : s.set i l = s := by
  have hli : i < s.leases.length := by
    rw [N.lenL]
    exact N.lt hi
  subst e
  unfold Sd22.Abs.set Sd22.Abs.at_
  have : s.leases.set i (s.leases.getD i Sd22.none_) = s.leases := by
    apply List.ext_getElem?
    intro j
    rw [List.getElem?_set]
    split
    · rename_i h
      subst h
      rw [List.getD_eq_getElem?_getD, List.getElem?_eq_getElem hli]
      rfl
    · rfl
  rw [this]
end
theorem Kp.put {H : Hp} {p C dx C' dx' : Addr} {a s t a' s' t' : Nat} {o o' : V} (hp : H p = some (.ins C dx (plF a s t o))) : Kp H (upd H p (.ins C' dx' (plF a' s' t' o'))) := fun b u h n => by
  by_cases e : b = p
  · subst e
    rw [h] at hp
    exact absurd ⟨_, _, _, _, _, _, Option.some.inj hp⟩ n
  · rw [upd_ne e]
    exact h

/-! ## packets, answers, the desk -/
def OptsAt (H : Hp) (kvs : List (Key × V)) (o : List (Nat × List Nat)) : Prop := Paired (fun (kv : Key × V) (x : Nat × List Nat) => kv.1 = Sum.inl (x.1 : Int) ∧ ∃ q, kv.2 = .ref q ∧ H q = some (.lst (nv x.2))) kvs o
theorem OptsAt.up {H H' : Hp} {kvs : List (Key × V)} {o : List (Nat × List Nat)} (h : OptsAt H kvs o) (e : ∀ b xs, H b = some (.lst xs) → H' b = some (.lst xs)) : OptsAt H' kvs o :=
  Paired.mapP h fun _ _ ⟨a, q, b, c⟩ => ⟨a, q, b, e _ _ c⟩
theorem OptsAt.no {H : Hp} {kvs : List (Key × V)} {o : List (Nat × List Nat)} (h : OptsAt H kvs o) (c : Nat) (n : o.find? (fun x => x.1 == c) = none) : valV kvs (Sum.inl (c : Int)) = none := by
  unfold OptsAt at h
  induction h with
  | nil => rfl
  | @cons kv x ks xs hd tl ih =>
    obtain ⟨h1, q, h2, h3⟩ := hd
    rw [List.find?_cons] at n
    by_cases e : x.1 = c
    · rw [show (x.1 == c) = true by simpa using e] at n
      cases n
    · rw [show (x.1 == c) = false by simpa using e] at n
      rw [valV_neg (by rw [h1]; intro z; injection z with z; omega)]
      exact ih n
theorem OptsAt.yes {H : Hp} {kvs : List (Key × V)} {o : List (Nat × List Nat)} (h : OptsAt H kvs o) (c : Nat) {y : Nat × List Nat} (n : o.find? (fun x => x.1 == c) = some y) :
    ∃ q, valV kvs (Sum.inl (c : Int)) = some (.ref q) ∧ H q = some (.lst (nv y.2)) := by
  unfold OptsAt at h
  induction h with
  | nil => cases n
  | @cons kv x ks xs hd tl ih =>
    obtain ⟨h1, q, h2, h3⟩ := hd
    rw [List.find?_cons] at n
    by_cases e : x.1 = c
    · rw [show (x.1 == c) = true by simpa using e] at n
      cases n
      exact ⟨q, by rw [valV_pos (by rw [h1, e]), h2], h3⟩
    · rw [show (x.1 == c) = false by simpa using e] at n
      obtain ⟨q', g1, g2⟩ := ih n
      exact ⟨q', by rw [valV_neg (by rw [h1]; intro z; injection z with z; omega)]; exact g1, g2⟩
structure PkOk (p : Sd22.Packet) : Prop where
  xid : p.xid.length = 4
  machine : p.machine.length = 16
  client : p.client < 4294967296
  relay : p.relay < 4294967296
  flags : p.flags < 65536
  opts : ∀ x ∈ p.opts, x.2.length ≤ 255
  w61 : ∀ b, p.opt 61 = some b → b ≠ []
structure PkAt (A : Ad) (H : Hp) (k : Addr) (p : Sd22.Packet) : Prop where
  ex : ∃ dx nq fq mq od kvs, H k = some (.ins A.k dx (pkF nq fq mq od p)) ∧ H nq = some (.lst (nv p.xid)) ∧ H fq = some (.lst (nv (Sd22.be 2 p.flags))) ∧ H mq = some (.lst (nv p.machine)) ∧ H od = some (.dK kvs) ∧ OptsAt H kvs p.opts
  ok : PkOk p
theorem PkAt.mono {A : Ad} {H H' : Hp} {k : Addr} {p : Sd22.Packet} (h : PkAt A H k p) (e : Kp H H') : PkAt A H' k p := by
  obtain ⟨⟨dx, nq, fq, mq, od, kvs, h1, h2, h3, h4, h5, h6⟩, ok⟩ := h
  have l : ∀ b xs, H b = some (.lst xs) → H' b = some (.lst xs) := fun b xs q => e.lst q
  exact ⟨⟨dx, nq, fq, mq, od, kvs, e _ _ h1 (by rintro ⟨_, _, _, _, _, _, z⟩; injection z with _ _ z; exact pl_pk _ _ _ _ _ _ _ _ _ z.symm), l _ _ h2, l _ _ h3, l _ _ h4,
    e _ _ h5 (by rintro ⟨_, _, _, _, _, _, z⟩; cases z), h6.up l⟩, ok⟩
def RpAt (A : Ad) (H : Hp) (r : Addr) (k y : Nat) : Prop := ∃ dx, H r = some (.ins A.r dx (rpF k y))
/-- an answer, or None -/
def RpV (A : Ad) (H : Hp) (v : V) : Option (Nat × Nat) → Prop
  | none => v = .non
  | some x => ∃ r, v = .ref r ∧ RpAt A H r x.1 x.2
def DkAt (A : Ad) (fl : Addr) (H : Hp) (d : Addr) (o : Option Sd22.Abs) : Prop := ∃ dx v, H d = some (.ins A.d dx (dkF v)) ∧ ((o = none ∧ v = .non) ∨ ∃ s a pl as, o = some s ∧ v = .ref a ∧ NetAt A fl H a s pl as)
/-- a place's value, or None -/
def plV (as : List Addr) : Option Nat → V
  | none => .non
  | some i => match as[i]? with
    | some p => .ref p
    | none => .non
def numV : Option Nat → V
  | none => .non
  | some n => .int (n : Int)

/-! ## bits -/
theorem band (a b : Nat) : Builtin.bitAnd (a : Int) (b : Int) = ((a &&& b : Nat) : Int) := by
  unfold Builtin.bitAnd
  rw [show decide (0 ≤ (a : Int)) = true from decide_eq_true (Int.natCast_nonneg a), show decide (0 ≤ (b : Int)) = true from decide_eq_true (Int.natCast_nonneg b)]
  simp

/-! ## lists of numbers as data -/
theorem canLay_ints : ∀ l : List Int, PyData.canLayAll0 (l.map PyData.int) = true
  | [] => by simp [PyData.canLayAll0]
  | x :: r => by
    rw [List.map_cons]
    simp only [PyData.canLayAll0, PyData.canLay0, Bool.true_and]
    exact canLay_ints r
theorem depth_ints : ∀ l : List Int, PyData.depthAll (l.map PyData.int) ≤ 1
  | [] => by simp [PyData.depthAll]
  | x :: r => by
    have := depth_ints r
    rw [List.map_cons]
    simp only [PyData.depthAll, PyData.depth]
    omega
theorem shaped_ints (l : List Int) : SeqAt.shaped (.list (l.map PyData.int)) = true := by
  unfold SeqAt.shaped
  rw [Bool.and_eq_true, decide_eq_true_iff]
  constructor
  · simp only [PyData.canLay0]
    exact canLay_ints l
  · have := depth_ints l
    simp only [PyData.depth]
    omega
theorem shaped_none : SeqAt.shaped .none = true := by decide +kernel
theorem eqv_ints : ∀ l m : List Int, PyData.eqvAll (l.map PyData.int) (m.map PyData.int) = decide (l = m)
  | [], [] => by simp [PyData.eqvAll]
  | [], y :: m => by simp [PyData.eqvAll]
  | x :: l, [] => by simp [PyData.eqvAll]
  | x :: l, y :: m => by
    rw [List.map_cons, List.map_cons]
    simp only [PyData.eqvAll, PyData.eqv, eqv_ints l m]
    by_cases h1 : x = y
    · subst h1
      by_cases h2 : l = m <;> simp [h2]
    · simp [h1]
theorem dpAll_ints {K : PySem.W.Frag} {H : Hp} : ∀ l : List Int, DpAll K H (l.map V.int) (l.map PyData.int)
  | [] => .nil
  | x :: r => .cons (.int x) (dpAll_ints r)
theorem dp_nv {K : PySem.W.Frag} {H : Hp} {q : Addr} {l : List Nat} (h : SqL K H q (nv l)) : Dp K H (.ref q) (.list ((l.map fun n : Nat => (n : Int)).map PyData.int)) := by
  rw [nv_ints] at h
  exact .lst h (dpAll_ints _)
theorem map_inj_nat {l m : List Nat} : (l.map fun n : Nat => (n : Int)) = (m.map fun n : Nat => (n : Int)) ↔ l = m := by
  constructor
  · intro h
    exact List.map_inj_right (fun _ _ z => Int.ofNat.inj z) |>.mp h
  · intro h
    rw [h]
end Lp
namespace Lp
open PySem PySem.Spec PyProof.Rows L2
open Evl (Ex Ev EvT EvA EvO EvL RetL)
/-- what the top has written, of constants and classes -/
structure Txt (K : PySem.W.Frag) (mg : Str → Option Value) (A : Ad) : Prop where
  c_ACK : Gc mg "ACK" (.int 5)
  c_ALL_ONES : Gc mg "ALL_ONES" (.int 4294967295)
  c_BEGINNING : Gc mg "BEGINNING" (.ref A.beg)
  c_BROADCAST_FLAG : Gc mg "BROADCAST_FLAG" (.int 128)
  c_CLIENT_PORT : Gc mg "CLIENT_PORT" (.int 68)
  c_DECLINE : Gc mg "DECLINE" (.int 4)
  c_DISCOVER : Gc mg "DISCOVER" (.int 1)
  c_END : Gc mg "END" (.int 255)
  c_EVERYBODY : Gc mg "EVERYBODY" (.int 4294967295)
  c_FREE : Gc mg "FREE" (.int 0)
  c_INFORM : Gc mg "INFORM" (.int 8)
  c_KIND : Gc mg "KIND" (.int 53)
  c_LEAST : Gc mg "LEAST" (.int 244)
  c_LEAST_BYTES : Gc mg "LEAST_BYTES" (.int 300)
  c_LEAST_LONG : Gc mg "LEAST_LONG" (.int 60)
  c_LENGTHS : Gc mg "LENGTHS" (.ref A.lens)
  c_LENT : Gc mg "LENT" (.int 2)
  c_MAGIC : Gc mg "MAGIC" (.ref A.mgc)
  c_MIDDLE_ZEROS : Gc mg "MIDDLE_ZEROS" (.int 192)
  c_MOST : Gc mg "MOST" (.int 576)
  c_MOST_ADDRESSES : Gc mg "MOST_ADDRESSES" (.int 256)
  c_MOST_BYTES : Gc mg "MOST_BYTES" (.int 1500)
  c_MOST_LONG : Gc mg "MOST_LONG" (.int 31536000)
  c_NAK : Gc mg "NAK" (.int 6)
  c_NOTHING : Gc mg "NOTHING" (.int 0)
  c_NOT_OPEN : Gc mg "NOT_OPEN" (.int (-3))
  c_OFFER : Gc mg "OFFER" (.int 2)
  c_OFFERED : Gc mg "OFFERED" (.int 1)
  c_OFFER_TIME : Gc mg "OFFER_TIME" (.int 60)
  c_OPEN_CALL : Gc mg "OPEN_CALL" (.int 0)
  c_OPTIONS : Gc mg "OPTIONS" (.int 240)
  c_OVERLOAD : Gc mg "OVERLOAD" (.int 52)
  c_OWNER : Gc mg "OWNER" (.int 61)
  c_PACKET_CALL : Gc mg "PACKET_CALL" (.int 1)
  c_REFUSED : Gc mg "REFUSED" (.int 3)
  c_REFUSE_TIME : Gc mg "REFUSE_TIME" (.int 600)
  c_RELAY_PORT : Gc mg "RELAY_PORT" (.int 67)
  c_RELEASE : Gc mg "RELEASE" (.int 7)
  c_REQUEST : Gc mg "REQUEST" (.int 3)
  c_SERVER : Gc mg "SERVER" (.int 54)
  c_TICK_CALL : Gc mg "TICK_CALL" (.int 2)
  c_WANTED : Gc mg "WANTED" (.int 50)
  a_Desk_net : NoAttr K A.d "net"
  a_Net_first : NoAttr K A.n "first"
  a_Net_long : NoAttr K A.n "long"
  a_Net_mask : NoAttr K A.n "mask"
  a_Net_names : NoAttr K A.n "names"
  a_Net_now : NoAttr K A.n "now"
  a_Net_places : NoAttr K A.n "places"
  a_Net_server : NoAttr K A.n "server"
  a_Net_way_out : NoAttr K A.n "way_out"
  a_Packet_client : NoAttr K A.k "client"
  a_Packet_flags : NoAttr K A.k "flags"
  a_Packet_kind : NoAttr K A.k "kind"
  a_Packet_machine : NoAttr K A.k "machine"
  a_Packet_number : NoAttr K A.k "number"
  a_Packet_options : NoAttr K A.k "options"
  a_Packet_relay : NoAttr K A.k "relay"
  a_Place_address : NoAttr K A.p "address"
  a_Place_owner : NoAttr K A.p "owner"
  a_Place_state : NoAttr K A.p "state"
  a_Place_till : NoAttr K A.p "till"
  a_Reply_kind : NoAttr K A.r "kind"
  a_Reply_yours : NoAttr K A.r "yours"
  cl_Desk : Cls K A.d
  cl_Net : Cls K A.n
  cl_Packet : Cls K A.k
  cl_Place : Cls K A.p
  cl_Reply : Cls K A.r
  n_len : mg "len" = none
  n_list : mg "list" = none
  n_max : mg "max" = none
  n_range : mg "range" = none
  n_sum : mg "sum" = none
  lens : Lens K A.lens
  l_MAGIC : ∀ H, LO K H A.mgc (nv [99, 130, 83, 99])
  l_BEGINNING : ∀ H, LO K H A.beg (nv [1, 1, 6])
  xF : PySem.W.excIn K A.f [.type "ValueError", .type "Exception", .type "BaseException", .type "object"] "ValueError.__new__" = true
  gF : mg "NotRight" = some (.ref A.f)
  kF : PySem.W.keepIn K (.ref A.f) = true
  bF : PySem.W.subIn K (.ref A.f) (.type "BaseException") = some true
  tF : PySem.W.typeIn K (.ref A.f) = some (.type "type")
  eF : PySem.W.exmOne K (.ref A.f) (.ref A.f) = some true

/-! ## defs that are called -/
/-- a def by its name -/
def Cal (P : Program) (w : World) (K : PySem.W.Frag) (mg : Str → Option Value) (base : Heap) (CX : CXT) (k : Nat) (x : Str) (ps : List Str) (sp : Sp) : Prop :=
  ∃ (f : Addr) (fd : FuncData), FnOk P w K mg base CX k f fd ps sp ∧ mg x = some (.ref f) ∧ PySem.W.keepIn K (.ref f) = true ∧ Binds K fd ps []
/-- a method -/
def CalM (P : Program) (w : World) (K : PySem.W.Frag) (mg : Str → Option Value) (base : Heap) (CX : CXT) (k : Nat) (C : Addr) (m : Str) (ps : List Str) (sp : Sp) : Prop :=
  ∃ (f : Addr) (fd : FuncData), FnOk P w K mg base CX k f fd ps sp ∧ Meth K C m f ∧ Binds K fd ps []
/-- a class that is called, by its __init__ -/
def CalC (P : Program) (w : World) (K : PySem.W.Frag) (mg : Str → Option Value) (base : Heap) (CX : CXT) (k : Nat) (C : Addr) (x : Str) (ps : List Str) (sp : Sp) : Prop :=
  ∃ (f : Addr) (fd : FuncData), FnOk P w K mg base CX k f fd ps sp ∧ Mk K C f ∧ mg x = some (.ref C) ∧ Binds K fd ps []

/-! ## what evaluates to what -/
/-- te gives a list of xs -/
def EvS (te : TE) (σ : L2.St) (H : Hp) (xs : List V) : Prop := ∀ H1, Ex H H1 → ∀ Q : VK, (∀ p H2, Ex H1 H2 → H2 p = some (.lst xs) → Q (.ref p) H2) → te σ H1 Q
inductive Sh where
  | val (v : V)
  | lst (xs : List V)
def Sh.On : Sh → V → Hp → Prop
  | .val v, x, _ => x = v
  | .lst xs, x, H => ∃ p, x = .ref p ∧ H p = some (.lst xs)
theorem Sh.up {s : Sh} {x : V} {H H' : Hp} (h : s.On x H) (e : Ex H H') : s.On x H' := by
  cases s with
  | val v => exact h
  | lst xs =>
    obtain ⟨p, h1, h2⟩ := h
    exact ⟨p, h1, e _ _ h2⟩
def AllOn : List Sh → List V → Hp → Prop
  | [], xs, _ => xs = []
  | s :: ss, xs, H => ∃ x r, xs = x :: r ∧ s.On x H ∧ AllOn ss r H
def EvAS (ta : TA) (σ : L2.St) (H : Hp) (ss : List Sh) : Prop := ∀ H1, Ex H H1 → ∀ Q : List V → Hp → Prop, (∀ xs H2, Ex H1 H2 → AllOn ss xs H2 → Q xs H2) → ta σ H1 Q
section
variable {K : PySem.W.Frag} {σ : L2.St} {H H' : Hp} {ta tb te tx : TE} {t u : TT} {x y z v : V}
theorem EvL.s {xs : List V} (h : EvL te σ H xs) : EvS te σ H xs := fun H1 e Q q => h H1 e Q fun p H2 _ e2 h2 => q p H2 e2 h2
theorem Ev.s {p : Addr} {xs : List V} (h : Ev te σ H (.ref p)) (hp : H p = some (.lst xs)) : EvS te σ H xs := fun H1 e Q q => h H1 e Q fun H2 e2 => q p H2 e2 (e2 _ _ (e _ _ hp))
theorem EvS.mono {xs : List V} (e : Ex H H') (h : EvS te σ H xs) : EvS te σ H' xs := fun H1 a Q q => h H1 (e.trans a) Q q
theorem ev_fld {a C dx : Addr} {fs : List (Str × V)} {f : Str} (h : Ev ta σ H (.ref a)) (ho : H a = some (.ins C dx fs)) (c : Cls K C) (n : NoAttr K C f) (l : fs.lookup f = some v) : Ev (tFld K ta f) σ H v := fun H1 e Q q =>
  h H1 e _ fun H2 e2 => ⟨a, C, dx, fs, v, rfl, e2 _ _ (e _ _ ho), c, n, l, q H2 e2⟩
theorem el_cat {xs ys : List V} (ha : EvS ta σ H xs) (hb : EvS tb σ H ys) (hz : xs.length + ys.length ≤ 100000) : EvL (tOp (oCat K) ta tb) σ H (xs ++ ys) := fun H1 e Q q =>
  ha H1 e _ fun p H2 e2 hp => hb H2 (e.trans e2) _ fun r H3 e3 hr => ⟨p, r, xs, ys, rfl, rfl, LO.of (e3 _ _ hp), LO.of hr, Evl.sz_of hz, fun l hl => q l _ (Evl.fresh_back (e2.trans e3) hl) ((e2.trans e3).trans (Ex.new hl)) upd_same⟩
theorem el_catK {xs ys : List V} {m : Addr} (ha : EvS ta σ H xs) (hb : Ev tb σ H (.ref m)) (hm : ∀ H, LO K H m ys) (hz : xs.length + ys.length ≤ 100000) : EvL (tOp (oCat K) ta tb) σ H (xs ++ ys) := fun H1 e Q q =>
  ha H1 e _ fun p H2 e2 hp => hb H2 (e.trans e2) _ fun H3 e3 => ⟨p, m, xs, ys, rfl, rfl, LO.of (e3 _ _ hp), hm _, Evl.sz_of hz, fun l hl => q l _ (Evl.fresh_back (e2.trans e3) hl) ((e2.trans e3).trans (Ex.new hl)) upd_same⟩
theorem el_rep {xs : List V} {n : Nat} (ha : EvS ta σ H xs) (hb : Ev tb σ H (.int (n : Int))) (hz : xs.length * n ≤ 100000) (hn : n ≤ 100000) : EvL (tOp rRep ta tb) σ H (List.replicate n xs).flatten := fun H1 e Q q =>
  ha H1 e _ fun p H2 e2 hp => hb H2 (e.trans e2) _ fun H3 e3 => ⟨p, n, xs, rfl, rfl, e3 _ _ hp, by omega, by omega, by rw [Int.toNat_natCast]; exact Evl.sz_of hz, fun l hl => by
    rw [Int.toNat_natCast]
    exact q l _ (Evl.fresh_back (e2.trans e3) hl) ((e2.trans e3).trans (Ex.new hl)) upd_same⟩
theorem ev_lenS {xs : List V} (ha : EvS ta σ H xs) : Ev (tCB (rLenQ K) (tCons ta tNil)) σ H (.int (xs.length : Int)) := fun H1 e Q q =>
  ha H1 e _ fun p H2 e2 hp => ⟨p, xs, rfl, Or.inl (SqL.of hp), q H2 e2⟩
theorem ev_lenQ {p : Addr} {xs : List V} (ha : Ev ta σ H (.ref p)) (hp : SqL K H p xs) : Ev (tCB (rLenQ K) (tCons ta tNil)) σ H (.int (xs.length : Int)) := fun H1 e Q q =>
  ha H1 e _ fun H2 e2 => ⟨p, xs, rfl, Or.inl (Evl.ex_l (e.trans e2) hp), q H2 e2⟩
theorem ev_max {i j : Int} (ha : Ev ta σ H (.int i)) (hb : Ev tb σ H (.int j)) : Ev (tCB rMaxQ (tCons ta (tCons tb tNil))) σ H (.int (if j > i then j else i)) := Evl.ev_max2 ha hb
theorem ev_ixS {xs : List V} {i : Int} (ha : EvS ta σ H xs) (hb : Ev tb σ H (.int i)) (hi : atI xs i = some v) : Ev (tOp (rIxL K) ta tb) σ H v := fun H1 e Q q =>
  ha H1 e _ fun p H2 e2 hp => hb H2 (e.trans e2) _ fun H3 e3 => ⟨p, xs, i, v, rfl, rfl, SqL.of (e3 _ _ hp), hi, q H3 (e2.trans e3)⟩
theorem el_slS {xs : List V} {tl th : TO} {lo hi : Option Int} (h : EvS te σ H xs) (h1 : EvO tl σ H lo) (h2 : EvO th σ H hi) : EvL (tSl (rSlL K) te tl th) σ H (cutV xs lo hi) := fun H1 e _ q =>
  h H1 e _ fun a H2 e2 ha => h1 H2 (e.trans e2) _ fun H3 e3 => h2 H3 ((e.trans e2).trans e3) _ fun H4 e4 =>
    ⟨a, xs, rfl, SqL.of (e4 _ _ (e3 _ _ ha)), fun p hp => q p _ (Evl.fresh_back ((e2.trans e3).trans e4) hp) (((e2.trans e3).trans e4).trans (Ex.new hp)) upd_same⟩
theorem el_listS {xs : List V} (h : EvS te σ H xs) : EvL (tCB (rListQ K) (tCons te tNil)) σ H xs := fun H1 e _ q =>
  h H1 e _ fun a H2 e2 ha => ⟨a, xs, rfl, .inl (SqL.of ha), fun p hp => q p _ (Evl.fresh_back e2 hp) (e2.trans (Ex.new hp)) upd_same⟩
theorem ev_dget {d : Addr} {kvs : List (Key × V)} {n : Int} (ha : Ev ta σ H (.ref d)) (hd : H d = some (.dK kvs)) (hb : Ev tb σ H (.int n)) (hv : valV kvs (Sum.inl n) = some v) : Ev (tDGet ta tb) σ H v := fun H1 e Q q =>
  ha H1 e _ fun H2 e2 => hb H2 (e.trans e2) _ fun H3 e3 => ⟨d, v, rfl, .inl ⟨kvs, Sum.inl n, .inl (e3 _ _ (e2 _ _ (e _ _ hd))), rfl, hv.symm⟩, q H3 (e2.trans e3)⟩
theorem ev_din {d : Addr} {kvs : List (Key × V)} {n : Int} (ha : Ev ta σ H (.int n)) (hb : Ev tb σ H (.ref d)) (hd : H d = some (.dK kvs)) : Ev (tDIn ta tb) σ H (.bl (valV kvs (Sum.inl n)).isSome) := fun H1 e Q q =>
  ha H1 e _ fun H2 e2 => hb H2 (e.trans e2) _ fun H3 e3 => ⟨d, _, rfl, .inl ⟨kvs, Sum.inl n, .inl (e3 _ _ (e2 _ _ (e _ _ hd))), rfl, rfl⟩, q H3 (e2.trans e3)⟩
theorem ev_dnotin {d : Addr} {kvs : List (Key × V)} {n : Int} (ha : Ev ta σ H (.int n)) (hb : Ev tb σ H (.ref d)) (hd : H d = some (.dK kvs)) : Ev (tDNotIn ta tb) σ H (.bl (!(valV kvs (Sum.inl n)).isSome)) := fun H1 e Q q =>
  ha H1 e _ fun H2 e2 => hb H2 (e.trans e2) _ fun H3 e3 => ⟨d, _, rfl, .inl ⟨kvs, Sum.inl n, .inl (e3 _ _ (e2 _ _ (e _ _ hd))), rfl, rfl⟩, q H3 (e2.trans e3)⟩
theorem rv_isN : Evl.RV oIsN x .non H (.bl (decide (x = .non))) := fun H1 _ _ q => ⟨rfl, q H1 (Ex.refl H1)⟩
theorem rv_notN : Evl.RV oNotN x .non H (.bl (!decide (x = .non))) := fun H1 _ _ q => ⟨rfl, q H1 (Ex.refl H1)⟩
theorem ev_neg {i : Int} (h : Ev ta σ H (.int i)) : Ev (tUn oNeg ta) σ H (.int (-i)) := Evl.ev_un h Evl.ru_neg
/-! arguments, some of them lists -/
theorem as_nil : EvAS tNil σ H [] := fun H1 _ _ q => q _ H1 (Ex.refl H1) rfl
theorem AllOn.up : ∀ {ss : List Sh} {xs : List V} {H H' : Hp}, AllOn ss xs H → Ex H H' → AllOn ss xs H'
  | [], _, _, _, h, _ => h
  | _ :: _, _, _, _, ⟨x, r, h1, h2, h3⟩, e => ⟨x, r, h1, Sh.up h2 e, AllOn.up h3 e⟩
theorem as_val {tr : TA} {ss : List Sh} (h : Ev ta σ H x) (hr : EvAS tr σ H ss) : EvAS (tCons ta tr) σ H (.val x :: ss) := fun H1 e _ q =>
  h H1 e _ fun H2 e2 => hr H2 (e.trans e2) _ fun xs H3 e3 h3 => q _ H3 (e2.trans e3) ⟨x, xs, rfl, rfl, h3⟩
theorem as_lst {tr : TA} {ss : List Sh} {ys : List V} (h : EvS ta σ H ys) (hr : EvAS tr σ H ss) : EvAS (tCons ta tr) σ H (.lst ys :: ss) := fun H1 e _ q =>
  h H1 e _ fun p H2 e2 hp => hr H2 (e.trans e2) _ fun xs H3 e3 h3 => q _ H3 (e2.trans e3) ⟨.ref p, xs, rfl, ⟨p, rfl, e3 _ _ hp⟩, h3⟩
/-- a promise that makes a list, a promise that gives a value, of such arguments -/
def SpLS (sp : Sp) (ss : List Sh) (H : Hp) (ys : List V) : Prop := ∀ H1, Ex H H1 → ∀ xs, AllOn ss xs H1 → ∀ (Q : VK) (E : XK), RetL ys H1 Q → sp xs H1 Q E
def SpVS (sp : Sp) (ss : List Sh) (H : Hp) (y : V) : Prop := ∀ H1, Ex H H1 → ∀ xs, AllOn ss xs H1 → ∀ (Q : VK) (E : XK), (∀ H2, Ex H1 H2 → Q y H2) → sp xs H1 Q E
theorem el_callS {sp : Sp} {E : XK} {ts : TA} {ss : List Sh} {ys : List V} (h : EvAS ts σ H ss) (hs : SpLS sp ss H ys) : EvL (tCall sp [] E ts) σ H ys := fun H1 e Q q =>
  h H1 e _ fun xs H2 e2 hx => by
    show sp (xs ++ []) H2 Q E
    rw [List.append_nil]
    exact hs H2 (e.trans e2) xs hx Q E fun p H3 hp e3 h3 => q p H3 (Evl.fresh_back e2 hp) (e2.trans e3) h3
theorem ev_callS {sp : Sp} {E : XK} {ts : TA} {ss : List Sh} (h : EvAS ts σ H ss) (hs : SpVS sp ss H y) : Ev (tCall sp [] E ts) σ H y := fun H1 e Q q =>
  h H1 e _ fun xs H2 e2 hx => by
    show sp (xs ++ []) H2 Q E
    rw [List.append_nil]
    exact hs H2 (e.trans e2) xs hx Q E fun H3 e3 => q H3 (e2.trans e3)
theorem ev_methS {sp : Sp} {E : XK} {ts : TA} {ss : List Sh} {m : Str} {a C dx : Addr} {fs : List (Str × V)} (ho : Ev ta σ H (.ref a)) (hh : H a = some (.ins C dx fs)) (hl : fs.lookup m = none) (h : EvAS ts σ H ss) (hs : SpVS sp (.val (.ref a) :: ss) H y) : Ev (tMeth C m sp [] E ta ts) σ H y := fun H1 e Q q =>
  ho H1 e _ fun H2 e2 => ⟨a, dx, fs, rfl, e2 _ _ (e _ _ hh), hl, h H2 (e.trans e2) _ fun xs H3 e3 hx => by
    rw [List.append_nil]
    exact hs H3 ((e.trans e2).trans e3) _ ⟨_, xs, rfl, rfl, hx⟩ Q E fun H4 e4 => q H4 ((e2.trans e3).trans e4)⟩
theorem el_methS {sp : Sp} {E : XK} {ts : TA} {ss : List Sh} {m : Str} {a C dx : Addr} {fs : List (Str × V)} {ys : List V} (ho : Ev ta σ H (.ref a)) (hh : H a = some (.ins C dx fs)) (hl : fs.lookup m = none) (h : EvAS ts σ H ss) (hs : SpLS sp (.val (.ref a) :: ss) H ys) : EvL (tMeth C m sp [] E ta ts) σ H ys := fun H1 e Q q =>
  ho H1 e _ fun H2 e2 => ⟨a, dx, fs, rfl, e2 _ _ (e _ _ hh), hl, h H2 (e.trans e2) _ fun xs H3 e3 hx => by
    rw [List.append_nil]
    exact hs H3 ((e.trans e2).trans e3) _ ⟨_, xs, rfl, rfl, hx⟩ Q E fun p H4 hp e4 h4 => q p H4 (Evl.fresh_back (e2.trans e3) hp) ((e2.trans e3).trans e4) h4⟩
end
/-- a def's reading at its start, what is wanted behind it -/
abbrev endOf (Q : VK) : Ends := { nx := fun _ H' => Q .non H', rt := Q }
theorem ite_t {c : Bool} {A B : Prop} (hc : c = true) (h : A) : if c = true then A else B := by
  rw [if_pos hc]
  exact h
theorem ite_f {c : Bool} {A B : Prop} (hc : c = false) (h : B) : if c = true then A else B := by
  rw [hc, if_neg Bool.false_ne_true]
  exact h
end Lp
namespace Lp
open PySem PySem.Spec PyProof.Rows L2
open Evl (Ex Ev EvT EvA EvO EvL RetL)

/-! ## the answers before they are written: the server behind, the kind and the address given -/
abbrev Rr := Sd22.Abs × Option (Nat × Nat)
def lentR (s : Sd22.Abs) (i : Nat) : Rr := (s.set i ⟨2, s.now + s.net.time, (s.at_ i).who⟩, some (5, s.net.first + i))
def discoverR (s : Sd22.Abs) (p : Sd22.Packet) : Rr := match s.choose p.who p.wanted with
  | none => (s, none)
  | some i => (if (s.at_ i).state = 2 ∧ s.now < (s.at_ i).until_ then s else s.set i ⟨1, s.now + 60, p.who⟩, some (2, s.net.first + i))
def hereR (s : Sd22.Abs) (p : Sd22.Packet) (w : Option Nat) : Rr := match w with
  | none => (s, none)
  | some x => if p.client ≠ 0 then (s, none) else match s.place x with
    | none => (s, some (6, 0))
    | some i => if s.holds i p.who = true then lentR s i else (s, some (6, 0))
def againR (s : Sd22.Abs) (p : Sd22.Packet) (x : Nat) : Rr := if p.client ≠ 0 then (s, none)
  else if p.relay = 0 ∧ Sd22.sameNet s x = false then (s, some (6, 0))
  else match s.place x with
    | none => (s, none)
    | some i => if s.holds i p.who = true then lentR s i else if (s.mine p.who).isSome = true then (s, some (6, 0)) else (s, none)
def longerR (s : Sd22.Abs) (p : Sd22.Packet) : Rr := if p.client = 0 then (s, none) else match s.place p.client with
  | none => (s, none)
  | some i => if s.holds i p.who = true ∧ (s.at_ i).state = 2 then lentR s i else (s, some (6, 0))
def unofferR (s : Sd22.Abs) (w : List Nat) : Sd22.Abs := { s with leases := s.leases.map fun l => if l.state = 1 ∧ l.who = w then { l with state := 0, until_ := s.now } else l }
def requestR (s : Sd22.Abs) (p : Sd22.Packet) : Rr := match p.server, p.wanted with
  | some v, w => if v ≠ s.net.server then (unofferR s p.who, none) else hereR s p w
  | none, some x => againR s p x
  | none, none => longerR s p
def declineR (s : Sd22.Abs) (p : Sd22.Packet) : Sd22.Abs := match p.wanted.bind s.place with
  | none => s
  | some i => if s.holds i p.who = true ∧ (s.at_ i).state ≠ 0 ∧ p.server = some s.net.server then s.set i ⟨3, s.now + 600, []⟩ else s
def releaseR (s : Sd22.Abs) (p : Sd22.Packet) : Sd22.Abs := match s.place p.client with
  | none => s
  | some i => if s.holds i p.who = true ∧ (s.at_ i).state = 2 ∧ p.server = some s.net.server then s.set i ⟨0, s.now, p.who⟩ else s
def handleR (s : Sd22.Abs) (p : Sd22.Packet) : Rr :=
  if p.kind = 1 then discoverR s p else if p.kind = 3 then requestR s p
  else if p.kind = 8 ∧ p.client ≠ 0 then (s, some (5, 0))
  else if p.kind = 4 then (declineR s p, none) else if p.kind = 7 then (releaseR s p, none) else (s, none)
def frees (s : Sd22.Abs) : List Nat := (List.range s.net.count).filter fun i => s.free i
def older (s : Sd22.Abs) (m : Option Nat) (i : Nat) : Option Nat := match m with
  | none => some i
  | some j => if (s.at_ i).until_ < (s.at_ j).until_ then some i else some j
def optsR (row : List Nat) : Option (List (Nat × List Nat)) := match Sd22.options (row.length + 1) (row.drop 240) [] with
  | none => none
  | some o => if Sd22.fine o = true then some o else none
def pkOf (row : List Nat) (k : Nat) (o : List (Nat × List Nat)) : Sd22.Packet :=
  ⟨k, (row.drop 4).take 4, (row.drop 8).take 2, Sd22.high ((row.drop 10).take 2), Sd22.high ((row.drop 12).take 4), Sd22.high ((row.drop 24).take 4), (row.drop 28).take 16, o⟩
def optB (c : Nat) (b : List Nat) : List Nat := c :: b.length :: b
def optRows (s : Sd22.Abs) (p : Sd22.Packet) (kd y : Nat) : List Nat :=
  optB 53 [kd] ++ optB 54 (Sd22.be 4 s.net.server) ++ (if kd = 6 then [] else (if 0 < y then optB 51 (Sd22.be 4 s.net.time) ++ optB 58 (Sd22.be 4 (s.net.time / 2)) ++ optB 59 (Sd22.be 4 (s.net.time / 8 * 7)) else []) ++
    optB 1 (Sd22.be 4 s.net.mask) ++ optB 3 (Sd22.be 4 s.net.router) ++ optB 6 (Sd22.be 4 s.net.names)) ++ (match p.opt 61 with
    | some c => optB 61 c
    | none => []) ++ [255]
def toldR (s : Sd22.Abs) (p : Sd22.Packet) (kd y : Nat) : List Nat :=
  (Sd22.reply s p kd y (decide (0 < y))).length :: (Sd22.aim p kd y).1 :: (Sd22.aim p kd y).2 :: Sd22.reply s p kd y (decide (0 < y))
def ansI (x : Sd22.Ans) : List Int := x.value :: (Sd22Neutral.ints x.told ++ Sd22Neutral.ints x.out)
def iv (l : List Int) : List V := l.map V.int

/-! ## the promises -/
def sp_initP (K : PySem.W.Frag) (A : Ad) : Sp := fun vs H Q _ => ∃ (x dx : Addr) (ad : Nat), vs = [.ref x, .int (ad : Int)] ∧ H x = some (.ins A.p dx []) ∧ Q .non (upd H x (.ins A.p dx (plF ad 0 0 .non)))
def sp_Place_is_own (K : PySem.W.Frag) (A : Ad) : Sp := fun vs H Q _ => ∃ (fl p q : Addr) (ad : Nat) (l : Sd22.Lease) (w : List Nat), vs = [.ref p, .ref q] ∧ PlAt A.p fl H p ad l ∧ H q = some (.lst (nv w)) ∧ w ≠ [] ∧ Q (.bl (l.who == w && l.state != 3)) H
def sp_Place_is_free_at (K : PySem.W.Frag) (A : Ad) : Sp := fun vs H Q _ => ∃ (fl p : Addr) (ad : Nat) (l : Sd22.Lease) (now : Nat), vs = [.ref p, .int (now : Int)] ∧ PlAt A.p fl H p ad l ∧ Q (.bl (l.state == 0 || decide (l.until_ ≤ now))) H
def sp_Place_become (K : PySem.W.Frag) (A : Ad) : Sp := fun vs H Q _ => ∃ (p dx : Addr) (ad s t : Nat) (o : V) (s' t' : Nat), vs = [.ref p, .int (s' : Int), .int (t' : Int)] ∧ H p = some (.ins A.p dx (plF ad s t o)) ∧ Q .non (upd H p (.ins A.p dx (plF ad s' t' o)))
def sp_initN (K : PySem.W.Frag) (A : Ad) : Sp := fun vs H Q _ => ∃ (fl x dx q : Addr) (n : Sd22.Net), vs = [.ref x, .ref q] ∧ H x = some (.ins A.n dx []) ∧ H q = some (.lst (nv [n.server, n.mask, n.router, n.names, n.first, n.count, n.time])) ∧ NetOk n ∧ H fl ≠ none ∧
  ∀ H' pl as, NetAt A fl H' x (Sd22.fresh n) pl as → (∀ b o, H b = some o → b ≠ x → H' b = some o) → Q .non H'
def sp_Net_place_of (K : PySem.W.Frag) (A : Ad) : Sp := fun vs H Q _ => ∃ (fl a : Addr) (s : Sd22.Abs) (pl : Addr) (as : List Addr) (o : Option Nat), vs = [.ref a, numV o] ∧ NetAt A fl H a s pl as ∧ Q (plV as (o.bind s.place)) H
def sp_Net_is_near (K : PySem.W.Frag) (A : Ad) : Sp := fun vs H Q _ => ∃ (fl a : Addr) (s : Sd22.Abs) (pl : Addr) (as : List Addr) (ad : Nat), vs = [.ref a, .int (ad : Int)] ∧ NetAt A fl H a s pl as ∧ Q (.bl (Sd22.sameNet s ad)) H
def sp_Net_own_place (K : PySem.W.Frag) (A : Ad) : Sp := fun vs H Q _ => ∃ (fl a : Addr) (s : Sd22.Abs) (pl : Addr) (as : List Addr) (q : Addr) (w : List Nat), vs = [.ref a, .ref q] ∧ NetAt A fl H a s pl as ∧ H q = some (.lst (nv w)) ∧ w ≠ [] ∧ Q (plV as (s.mine w)) H
def sp_Net_free_places (K : PySem.W.Frag) (A : Ad) : Sp := fun vs H Q _ => ∃ (fl a : Addr) (s : Sd22.Abs) (pl : Addr) (as : List Addr), vs = [.ref a] ∧ NetAt A fl H a s pl as ∧ RetL ((frees s).map fun i => plV as (some i)) H Q
def sp_Net_lend (K : PySem.W.Frag) (A : Ad) : Sp := fun vs H Q _ => ∃ (fl a : Addr) (s : Sd22.Abs) (pl : Addr) (as : List Addr) (p dx : Addr) (ad st ti : Nat) (o : V), vs = [.ref a, .ref p] ∧ NetAt A fl H a s pl as ∧ H p = some (.ins A.p dx (plF ad st ti o)) ∧ Q .non (upd H p (.ins A.p dx (plF ad 2 (s.now + s.net.time) o)))
def sp_Net_unoffer (K : PySem.W.Frag) (A : Ad) : Sp := fun vs H Q _ => ∃ (fl a : Addr) (s : Sd22.Abs) (pl : Addr) (as : List Addr) (q : Addr) (w : List Nat), vs = [.ref a, .ref q] ∧ NetAt A fl H a s pl as ∧ H q = some (.lst (nv w)) ∧ w ≠ [] ∧
  ∀ H', NetAt A fl H' a (unofferR s w) pl as → Kp H H' → Q .non H'
def sp_longest_over (K : PySem.W.Frag) (A : Ad) : Sp := fun vs H Q _ => ∃ (fl a : Addr) (s : Sd22.Abs) (pl : Addr) (as : List Addr) (q : Addr) (l : List Nat), vs = [.ref q] ∧ NetAt A fl H a s pl as ∧ H q = some (.lst (l.map fun i => plV as (some i))) ∧ (∀ i ∈ l, i < s.net.count) ∧ Q (plV as (l.foldl (older s) none)) H
def sp_chosen (K : PySem.W.Frag) (A : Ad) : Sp := fun vs H Q _ => ∃ (fl a : Addr) (s : Sd22.Abs) (pl : Addr) (as : List Addr) (q : Addr) (w : List Nat) (o : Option Nat), vs = [.ref a, .ref q, numV o] ∧ NetAt A fl H a s pl as ∧ H q = some (.lst (nv w)) ∧ w ≠ [] ∧
  ∀ H', Ex H H' → Q (plV as (s.choose w o)) H'
def sp_is_mask (K : PySem.W.Frag) (A : Ad) : Sp := fun vs H Q _ => ∃ m : Nat, vs = [.int (m : Int)] ∧ m < 4294967296 ∧ Q (.bl ((List.range 33).any fun k => m == 2 ^ 32 - 2 ^ k)) H
def sp_is_net (K : PySem.W.Frag) (A : Ad) : Sp := fun vs H Q _ => ∃ (q : Addr) (a b c d e f g : Nat), vs = [.ref q] ∧ H q = some (.lst (nv [a, b, c, d, e, f, g])) ∧ b < 4294967296 ∧ ∀ H', Ex H H' → Q (.bl (Sd22.net [a, b, c, d, e, f, g]).isSome) H'
def sp_ask (K : PySem.W.Frag) (A : Ad) : Sp := fun vs H Q E => ∃ b : Bool, vs = [.bl b] ∧ (b = true → Q .non H) ∧ (b = false → E (.ref A.f) none H)
def sp_whole_of (K : PySem.W.Frag) (A : Ad) : Sp := fun vs H Q _ => ∃ (q : Addr) (l : List Nat), vs = [.ref q] ∧ H q = some (.lst (nv l)) ∧ Q (.int (Sd22.high l : Int)) H
def sp_row_of (K : PySem.W.Frag) (A : Ad) : Sp := fun vs H Q _ => ∃ n : Nat, vs = [.int (n : Int), .int 4] ∧ RetL (nv (Sd22.be 4 n)) H Q
def sp_initK (K : PySem.W.Frag) (A : Ad) : Sp := fun vs H Q _ => ∃ (x dx rq oq : Addr) (row : List Nat) (o : List (Nat × List Nat)) (kvs : List (Key × V)) (k : Nat), vs = [.ref x, .ref rq, .ref oq] ∧ H x = some (.ins A.k dx []) ∧ H rq = some (.lst (nv row)) ∧ (∀ b ∈ row, b < 256) ∧
  H oq = some (.dK kvs) ∧ OptsAt H kvs o ∧ 244 ≤ row.length ∧ o.find? (fun x => x.1 == 53) = some (53, [k]) ∧ PkOk (pkOf row k o) ∧ ∀ H', PkAt A H' x (pkOf row k o) → (∀ b u, H b = some u → b ≠ x → H' b = some u) → Q .non H'
def sp_Packet_address_in (K : PySem.W.Frag) (A : Ad) : Sp := fun vs H Q _ => ∃ (k : Addr) (p : Sd22.Packet) (c : Nat), vs = [.ref k, .int (c : Int)] ∧ PkAt A H k p ∧ Q (numV ((p.opt c).map Sd22.high)) H
def sp_Packet_who (K : PySem.W.Frag) (A : Ad) : Sp := fun vs H Q _ => ∃ (k : Addr) (p : Sd22.Packet), vs = [.ref k] ∧ PkAt A H k p ∧ RetL (nv p.who) H Q
def sp_check_option (K : PySem.W.Frag) (A : Ad) : Sp := fun vs H Q E => ∃ (d g : Addr) (c : Nat) (kvs : List (Key × V)) (o : List (Nat × List Nat)) (b : List Nat), vs = [.ref d, .int (c : Int), .ref g] ∧ H d = some (.dK kvs) ∧ OptsAt H kvs o ∧ H g = some (.lst (nv b)) ∧
  (((o.find? fun x => x.1 == c).isNone && okOpt c b.length) = true → Q .non H) ∧ (((o.find? fun x => x.1 == c).isNone && okOpt c b.length) = false → E (.ref A.f) none H)
def sp_read_options (K : PySem.W.Frag) (A : Ad) : Sp := fun vs H Q E => ∃ (q : Addr) (row : List Nat), vs = [.ref q] ∧ H q = some (.lst (nv row)) ∧ 240 ≤ row.length ∧ row.length ≤ 1500 ∧
  (optsR row = none → ∀ H', Ex H H' → E (.ref A.f) none H') ∧ (∀ o, optsR row = some o → ∀ H' d kvs, Ex H H' → H' d = some (.dK kvs) → OptsAt H' kvs o → Q (.ref d) H')
def sp_read_packet (K : PySem.W.Frag) (A : Ad) : Sp := fun vs H Q E => ∃ (q : Addr) (row : List Nat), vs = [.ref q] ∧ H q = some (.lst (nv row)) ∧ (∀ b ∈ row, b < 256) ∧ row.length ≤ 1500 ∧
  (Sd22.read row = none → ∀ H', Ex H H' → E (.ref A.f) none H') ∧ (∀ p, Sd22.read row = some p → ∀ H' k, Ex H H' → PkAt A H' k p → Q (.ref k) H')
def sp_packet_or_none (K : PySem.W.Frag) (A : Ad) : Sp := fun vs H Q _ => ∃ (q : Addr) (row : List Nat), vs = [.ref q] ∧ H q = some (.lst (nv row)) ∧ (∀ b ∈ row, b < 256) ∧ row.length ≤ 1500 ∧
  (Sd22.read row = none → ∀ H', Ex H H' → Q .non H') ∧ (∀ p, Sd22.read row = some p → ∀ H' k, Ex H H' → PkAt A H' k p → Q (.ref k) H')
def sp_initR (K : PySem.W.Frag) (A : Ad) : Sp := fun vs H Q _ => ∃ (x dx : Addr) (k y : Nat), vs = [.ref x, .int (k : Int), .int (y : Int)] ∧ H x = some (.ins A.r dx []) ∧ Q .non (upd H x (.ins A.r dx (rpF k y)))
def sp_option (K : PySem.W.Frag) (A : Ad) : Sp := fun vs H Q _ => ∃ (n : Nat) (q : Addr) (b : List Nat), vs = [.int (n : Int), .ref q] ∧ H q = some (.lst (nv b)) ∧ b.length ≤ 1000 ∧ RetL (nv (optB n b)) H Q
def sp_address_option (K : PySem.W.Frag) (A : Ad) : Sp := fun vs H Q _ => ∃ (n a : Nat), vs = [.int (n : Int), .int (a : Int)] ∧ RetL (nv (optB n (Sd22.be 4 a))) H Q
def sp_option_rows (K : PySem.W.Frag) (A : Ad) : Sp := fun vs H Q _ => ∃ (fl a : Addr) (s : Sd22.Abs) (pl : Addr) (as : List Addr) (k r : Addr) (p : Sd22.Packet) (kd y : Nat), vs = [.ref a, .ref k, .ref r] ∧ NetAt A fl H a s pl as ∧ PkAt A H k p ∧ RpAt A H r kd y ∧ RetL (nv (optRows s p kd y)) H Q
def sp_reply_row (K : PySem.W.Frag) (A : Ad) : Sp := fun vs H Q _ => ∃ (fl a : Addr) (s : Sd22.Abs) (pl : Addr) (as : List Addr) (k r : Addr) (p : Sd22.Packet) (kd y : Nat), vs = [.ref a, .ref k, .ref r] ∧ NetAt A fl H a s pl as ∧ PkAt A H k p ∧ RpAt A H r kd y ∧ RetL (nv (Sd22.reply s p kd y (decide (0 < y)))) H Q
def sp_target_of (K : PySem.W.Frag) (A : Ad) : Sp := fun vs H Q _ => ∃ (k r : Addr) (p : Sd22.Packet) (kd y : Nat), vs = [.ref k, .ref r] ∧ PkAt A H k p ∧ RpAt A H r kd y ∧ RetL (nv [(Sd22.aim p kd y).1, (Sd22.aim p kd y).2]) H Q
def sp_told (K : PySem.W.Frag) (A : Ad) : Sp := fun vs H Q _ => ∃ (fl a : Addr) (s : Sd22.Abs) (pl : Addr) (as : List Addr) (k r : Addr) (p : Sd22.Packet) (kd y : Nat), vs = [.ref a, .ref k, .ref r] ∧ NetAt A fl H a s pl as ∧ PkAt A H k p ∧ RpAt A H r kd y ∧ RetL (nv (toldR s p kd y)) H Q
/-- what is wanted behind a packet's def: the server as it is then, the answer -/
def Done (A : Ad) (fl : Addr) (H : Hp) (a pl : Addr) (as : List Addr) (x : Rr) (Q : VK) : Prop := ∀ H' v, RpV A H' v x.2 → NetAt A fl H' a x.1 pl as → Kp H H' → Q v H'
def sp_discover (K : PySem.W.Frag) (A : Ad) : Sp := fun vs H Q _ => ∃ (fl a : Addr) (s : Sd22.Abs) (pl : Addr) (as : List Addr) (k : Addr) (p : Sd22.Packet), vs = [.ref a, .ref k] ∧ NetAt A fl H a s pl as ∧ PkAt A H k p ∧ H fl ≠ none ∧ Done A fl H a pl as (discoverR s p) Q
def sp_lent (K : PySem.W.Frag) (A : Ad) : Sp := fun vs H Q _ => ∃ (fl a : Addr) (s : Sd22.Abs) (pl : Addr) (as : List Addr) (i : Nat) (p : Addr), vs = [.ref a, .ref p] ∧ NetAt A fl H a s pl as ∧ as[i]? = some p ∧ Done A fl H a pl as (lentR s i) Q
def sp_request_here (K : PySem.W.Frag) (A : Ad) : Sp := fun vs H Q _ => ∃ (fl a : Addr) (s : Sd22.Abs) (pl : Addr) (as : List Addr) (k : Addr) (p : Sd22.Packet) (o : Option Nat), vs = [.ref a, .ref k, numV o] ∧ NetAt A fl H a s pl as ∧ PkAt A H k p ∧ Done A fl H a pl as (hereR s p o) Q
def sp_request_again (K : PySem.W.Frag) (A : Ad) : Sp := fun vs H Q _ => ∃ (fl a : Addr) (s : Sd22.Abs) (pl : Addr) (as : List Addr) (k : Addr) (p : Sd22.Packet) (x : Nat), vs = [.ref a, .ref k, .int (x : Int)] ∧ NetAt A fl H a s pl as ∧ PkAt A H k p ∧ Done A fl H a pl as (againR s p x) Q
def sp_request_longer (K : PySem.W.Frag) (A : Ad) : Sp := fun vs H Q _ => ∃ (fl a : Addr) (s : Sd22.Abs) (pl : Addr) (as : List Addr) (k : Addr) (p : Sd22.Packet), vs = [.ref a, .ref k] ∧ NetAt A fl H a s pl as ∧ PkAt A H k p ∧ Done A fl H a pl as (longerR s p) Q
def sp_request (K : PySem.W.Frag) (A : Ad) : Sp := fun vs H Q _ => ∃ (fl a : Addr) (s : Sd22.Abs) (pl : Addr) (as : List Addr) (k : Addr) (p : Sd22.Packet), vs = [.ref a, .ref k] ∧ NetAt A fl H a s pl as ∧ PkAt A H k p ∧ Done A fl H a pl as (requestR s p) Q
def sp_decline (K : PySem.W.Frag) (A : Ad) : Sp := fun vs H Q _ => ∃ (fl a : Addr) (s : Sd22.Abs) (pl : Addr) (as : List Addr) (k : Addr) (p : Sd22.Packet), vs = [.ref a, .ref k] ∧ NetAt A fl H a s pl as ∧ PkAt A H k p ∧ Done A fl H a pl as (declineR s p, none) Q
def sp_release (K : PySem.W.Frag) (A : Ad) : Sp := fun vs H Q _ => ∃ (fl a : Addr) (s : Sd22.Abs) (pl : Addr) (as : List Addr) (k : Addr) (p : Sd22.Packet), vs = [.ref a, .ref k] ∧ NetAt A fl H a s pl as ∧ PkAt A H k p ∧ Done A fl H a pl as (releaseR s p, none) Q
def sp_reply_to (K : PySem.W.Frag) (A : Ad) : Sp := fun vs H Q _ => ∃ (fl a : Addr) (s : Sd22.Abs) (pl : Addr) (as : List Addr) (k : Addr) (p : Sd22.Packet), vs = [.ref a, .ref k] ∧ NetAt A fl H a s pl as ∧ PkAt A H k p ∧ H fl ≠ none ∧ Done A fl H a pl as (handleR s p) Q
def sp_initD (K : PySem.W.Frag) (A : Ad) : Sp := fun vs H Q _ => ∃ (x dx : Addr), vs = [.ref x] ∧ H x = some (.ins A.d dx []) ∧ Q .non (upd H x (.ins A.d dx (dkF .non)))
/-- what is wanted behind a desk's method: the desk as it is then, the row that is told, new -/
def DoneD (A : Ad) (fl : Addr) (H : Hp) (d : Addr) (x : Option Sd22.Abs × Sd22.Ans) (Q : VK) : Prop := ∀ H' t, t ≠ fl → H' t = some (.lst (iv (ansI x.2))) → DkAt A fl H' d x.1 → Kn H H' → Q (.ref t) H'
def sp_Desk_start (K : PySem.W.Frag) (A : Ad) : Sp := fun vs H Q _ => ∃ (fl d : Addr) (o : Option Sd22.Abs) (q : Addr) (l : List Nat), vs = [.ref d, .ref q] ∧ DkAt A fl H d o ∧ H q = some (.lst (nv l)) ∧ l.length = 7 ∧ (∀ x ∈ l, x < 4294967296) ∧ (∃ xs, H fl = some (.lst xs)) ∧ DoneD A fl H d (Sd22.step o (.open_ l)) Q
def sp_Desk_packet (K : PySem.W.Frag) (A : Ad) : Sp := fun vs H Q _ => ∃ (fl d : Addr) (o : Option Sd22.Abs) (q : Addr) (l : List Nat), vs = [.ref d, .ref q] ∧ DkAt A fl H d o ∧ H q = some (.lst (nv l)) ∧ l.length ≤ 1500 ∧ (∀ x ∈ l, x < 256) ∧ (∃ xs, H fl = some (.lst xs)) ∧ DoneD A fl H d (Sd22.step o (.packet (some l))) Q
def sp_Desk_tick (K : PySem.W.Frag) (A : Ad) : Sp := fun vs H Q _ => ∃ (fl d : Addr) (o : Option Sd22.Abs) (t : Nat), vs = [.ref d, .int (t : Int)] ∧ DkAt A fl H d o ∧ (∃ xs, H fl = some (.lst xs)) ∧ DoneD A fl H d (Sd22.step o (.tick t)) Q
def sp_Desk_look (K : PySem.W.Frag) (A : Ad) : Sp := fun vs H Q _ => ∃ (fl d : Addr) (o : Option Sd22.Abs) (t : Nat), vs = [.ref d, .int (t : Int)] ∧ DkAt A fl H d o ∧ (∃ xs, H fl = some (.lst xs)) ∧ (ansI (Sd22.step o (.look t)).2).length ≤ 10000000 ∧ DoneD A fl H d (Sd22.step o (.look t)) Q
def sp_set_time (K : PySem.W.Frag) (A : Ad) : Sp := fun vs H Q _ => ∃ (fl a : Addr) (s : Sd22.Abs) (pl : Addr) (as : List Addr) (t : Nat), vs = [.ref a, .int (t : Int)] ∧ NetAt A fl H a s pl as ∧ (∃ xs, H fl = some (.lst xs)) ∧
  ∀ H' q, q ≠ fl → H' q = some (.lst [.int (if t < s.now then -1 else 0)]) → NetAt A fl H' a (if t < s.now then s else { s with now := t }) pl as → (∀ b o, H b = some o → b ≠ a → H' b = some o) → Q (.ref q) H'
def sp_answers (K : PySem.W.Frag) (A : Ad) : Sp := fun vs H Q _ => ∃ (q : Addr) (cs : List Nat), vs = [.ref q] ∧ SqL K H q (nv cs) ∧ PySd22.answers_asked (cs.map fun n : Nat => (n : Int)) = true ∧
  ∀ H' p, H' p = some (.lst (iv (PySd22.answers (cs.map fun n : Nat => (n : Int))))) → Q (.ref p) H'

/-! ## the text by places, the names' slots, the readings -/
abbrev s_initP : Stmt := inClass (topS 11) 0
def N_initP : List Str := ["self", "address"]
theorem sc_initP : FnScope ["self", "address"] ["self", "address"] (defScope s_initP) := ⟨rfl, rfl, rfl, by decide +kernel, rfl, by decide +kernel, by decide +kernel⟩
def t_initP (K : PySem.W.Frag) (A : Ad) : TS :=
  (tSeq (sFld K (tVar 0) (tVar 1) "address")
    (tSeq (sFld K (tVar 0) (tC (.int 0)) "state")
    (tSeq (sFld K (tVar 0) (tC (.int 0)) "till")
    (sFld K (tVar 0) (tC .non) "owner"))))

abbrev s_Place_is_own : Stmt := inClass (topS 11) 1
def N_Place_is_own : List Str := ["self", "who"]
theorem sc_Place_is_own : FnScope ["self", "who"] ["self", "who"] (defScope s_Place_is_own) := ⟨rfl, rfl, rfl, by decide +kernel, rfl, by decide +kernel, by decide +kernel⟩
def t_Place_is_own (K : PySem.W.Frag) (A : Ad) : TS :=
  (tRet (tAndV (tOp (rEqD K) (tFld K (tVar 0) "owner") (tVar 1)) (tOp rNe (tFld K (tVar 0) "state") (tC (.int 3)))))

abbrev s_Place_is_free_at : Stmt := inClass (topS 11) 2
def N_Place_is_free_at : List Str := ["self", "now"]
theorem sc_Place_is_free_at : FnScope ["self", "now"] ["self", "now"] (defScope s_Place_is_free_at) := ⟨rfl, rfl, rfl, by decide +kernel, rfl, by decide +kernel, by decide +kernel⟩
def t_Place_is_free_at (K : PySem.W.Frag) (A : Ad) : TS :=
  (tRet (tOrV (tOp rEq (tFld K (tVar 0) "state") (tC (.int 0))) (tOp oLe (tFld K (tVar 0) "till") (tVar 1))))

abbrev s_Place_become : Stmt := inClass (topS 11) 3
def N_Place_become : List Str := ["self", "state", "till"]
theorem sc_Place_become : FnScope ["self", "state", "till"] ["self", "state", "till"] (defScope s_Place_become) := ⟨rfl, rfl, rfl, by decide +kernel, rfl, by decide +kernel, by decide +kernel⟩
def t_Place_become (K : PySem.W.Frag) (A : Ad) : TS :=
  (tSeq (sFld K (tVar 0) (tVar 1) "state")
    (sFld K (tVar 0) (tVar 2) "till"))

abbrev s_initN : Stmt := inClass (topS 12) 0
def N_initN : List Str := ["self", "numbers", "at"]
theorem sc_initN : FnScope ["self", "numbers", "at"] ["self", "numbers"] (defScope s_initN) := ⟨rfl, rfl, rfl, by decide +kernel, rfl, by decide +kernel, by decide +kernel⟩
def t_initN (K : PySem.W.Frag) (A : Ad) : TS :=
  (tSeq (sFld K (tVar 0) (tOp (rIxL K) (tVar 1) (tC (.int 0))) "server")
    (tSeq (sFld K (tVar 0) (tOp (rIxL K) (tVar 1) (tC (.int 1))) "mask")
    (tSeq (sFld K (tVar 0) (tOp (rIxL K) (tVar 1) (tC (.int 2))) "way_out")
    (tSeq (sFld K (tVar 0) (tOp (rIxL K) (tVar 1) (tC (.int 3))) "names")
    (tSeq (sFld K (tVar 0) (tOp (rIxL K) (tVar 1) (tC (.int 4))) "first")
    (tSeq (sFld K (tVar 0) (tOp (rIxL K) (tVar 1) (tC (.int 6))) "long")
    (tSeq (sFld K (tVar 0) (tC (.int 0)) "now")
    (sFld K (tVar 0) (tLc (iRng1 (tCons (tOp (rIxL K) (tVar 1) (tC (.int 5))) tNil)) (gName 2) tYes (tMake A.p (sp_initP K A) [] E0 (tCons (tOp oAdd (tOp (rIxL K) (tVar 1) (tC (.int 4))) (tVar 2)) tNil)) [2]) "places"))))))))

abbrev s_Net_place_of : Stmt := inClass (topS 12) 1
def N_Net_place_of : List Str := ["self", "address"]
theorem sc_Net_place_of : FnScope ["self", "address"] ["self", "address"] (defScope s_Net_place_of) := ⟨rfl, rfl, rfl, by decide +kernel, rfl, by decide +kernel, by decide +kernel⟩
def t_Net_place_of (K : PySem.W.Frag) (A : Ad) : TS :=
  (tSeq (tIfS (tOr (tTest (tOp oIsN (tVar 1) (tC .non))) (tOr (tTest (tOp oLt (tVar 1) (tFld K (tVar 0) "first"))) (tTest (tOp oGe (tVar 1) (tOp oAdd (tFld K (tVar 0) "first") (tCB (rLenQ K) (tCons (tFld K (tVar 0) "places") tNil))))))) (tRet (tC .non)) tNext)
    (tRet (tOp (rIxL K) (tFld K (tVar 0) "places") (tOp oSub (tVar 1) (tFld K (tVar 0) "first")))))

abbrev s_Net_is_near : Stmt := inClass (topS 12) 2
def N_Net_is_near : List Str := ["self", "address"]
theorem sc_Net_is_near : FnScope ["self", "address"] ["self", "address"] (defScope s_Net_is_near) := ⟨rfl, rfl, rfl, by decide +kernel, rfl, by decide +kernel, by decide +kernel⟩
def t_Net_is_near (K : PySem.W.Frag) (A : Ad) : TS :=
  (tRet (tOp rEq (tOp oAnd (tVar 1) (tFld K (tVar 0) "mask")) (tOp oAnd (tFld K (tVar 0) "server") (tFld K (tVar 0) "mask"))))

abbrev s_Net_own_place : Stmt := inClass (topS 12) 3
def N_Net_own_place : List Str := ["self", "who", "place"]
theorem sc_Net_own_place : FnScope ["self", "who", "place"] ["self", "who"] (defScope s_Net_own_place) := ⟨rfl, rfl, rfl, by decide +kernel, rfl, by decide +kernel, by decide +kernel⟩
def t_Net_own_place (K : PySem.W.Frag) (A : Ad) : TS :=
  (tSeq (tFor (iList K (tFld K (tVar 0) "places")) (gName 2) (tIfS (tB (tMeth A.p "is_own" (sp_Place_is_own K A) [] E0 (tVar 2) (tCons (tVar 1) tNil))) (tRet (tVar 2)) tNext))
    (tRet (tC .non)))

abbrev s_Net_free_places : Stmt := inClass (topS 12) 4
def N_Net_free_places : List Str := ["self", "place"]
theorem sc_Net_free_places : FnScope ["self", "place"] ["self"] (defScope s_Net_free_places) := ⟨rfl, rfl, rfl, by decide +kernel, rfl, by decide +kernel, by decide +kernel⟩
def t_Net_free_places (K : PySem.W.Frag) (A : Ad) : TS :=
  (tRet (tLc (iList K (tFld K (tVar 0) "places")) (gName 1) (tB (tMeth A.p "is_free_at" (sp_Place_is_free_at K A) [] E0 (tVar 1) (tCons (tFld K (tVar 0) "now") tNil))) (tVar 1) [1]))

abbrev s_Net_lend : Stmt := inClass (topS 12) 5
def N_Net_lend : List Str := ["self", "place"]
theorem sc_Net_lend : FnScope ["self", "place"] ["self", "place"] (defScope s_Net_lend) := ⟨rfl, rfl, rfl, by decide +kernel, rfl, by decide +kernel, by decide +kernel⟩
def t_Net_lend (K : PySem.W.Frag) (A : Ad) : TS :=
  (tDrop (tMeth A.p "become" (sp_Place_become K A) [] E0 (tVar 1) (tCons (tC (.int 2)) (tCons (tOp oAdd (tFld K (tVar 0) "now") (tFld K (tVar 0) "long")) tNil))))

abbrev s_Net_unoffer : Stmt := inClass (topS 12) 6
def N_Net_unoffer : List Str := ["self", "who", "place"]
theorem sc_Net_unoffer : FnScope ["self", "who", "place"] ["self", "who"] (defScope s_Net_unoffer) := ⟨rfl, rfl, rfl, by decide +kernel, rfl, by decide +kernel, by decide +kernel⟩
def t_Net_unoffer (K : PySem.W.Frag) (A : Ad) : TS :=
  (tFor (iList K (tFld K (tVar 0) "places")) (gName 2) (tIfS (tAnd (tTest (tOp rEq (tFld K (tVar 2) "state") (tC (.int 1)))) (tTest (tOp (rEqD K) (tFld K (tVar 2) "owner") (tVar 1)))) (tDrop (tMeth A.p "become" (sp_Place_become K A) [] E0 (tVar 2) (tCons (tC (.int 0)) (tCons (tFld K (tVar 0) "now") tNil)))) tNext))

abbrev s_longest_over : Stmt := topS 13
def N_longest_over : List Str := ["places", "found", "place"]
theorem sc_longest_over : FnScope ["places", "found", "place"] ["places"] (defScope s_longest_over) := ⟨rfl, rfl, rfl, by decide +kernel, rfl, by decide +kernel, by decide +kernel⟩
def t_longest_over (K : PySem.W.Frag) (A : Ad) : TS :=
  (tSeq (tAsg (tC .non) (gName 1))
    (tSeq (tFor (iList K (tVar 0)) (gName 2) (tIfS (tOr (tTest (tOp oIsN (tVar 1) (tC .non))) (tTest (tOp oLt (tFld K (tVar 2) "till") (tFld K (tVar 1) "till")))) (tAsg (tVar 2) (gName 1)) tNext))
    (tRet (tVar 1))))

abbrev s_chosen : Stmt := topS 14
def N_chosen : List Str := ["net", "who", "wanted", "own", "place", "other"]
theorem sc_chosen : FnScope ["net", "who", "wanted", "own", "place", "other"] ["net", "who", "wanted"] (defScope s_chosen) := ⟨rfl, rfl, rfl, by decide +kernel, rfl, by decide +kernel, by decide +kernel⟩
def t_chosen (K : PySem.W.Frag) (A : Ad) : TS :=
  (tSeq (tAsg (tMeth A.n "own_place" (sp_Net_own_place K A) [] E0 (tVar 0) (tCons (tVar 1) tNil)) (gName 3))
    (tSeq (tIfS (tTest (tOp oNotN (tVar 3) (tC .non))) (tRet (tVar 3)) tNext)
    (tSeq (tAsg (tMeth A.n "place_of" (sp_Net_place_of K A) [] E0 (tVar 0) (tCons (tVar 2) tNil)) (gName 4))
    (tSeq (tIfS (tAnd (tTest (tOp oNotN (tVar 4) (tC .non))) (tB (tMeth A.p "is_free_at" (sp_Place_is_free_at K A) [] E0 (tVar 4) (tCons (tFld K (tVar 0) "now") tNil)))) (tRet (tVar 4)) tNext)
    (tSeq (tFor (iList K (tMeth A.n "free_places" (sp_Net_free_places K A) [] E0 (tVar 0) tNil)) (gName 5) (tIfS (tTest (tOp oIsN (tFld K (tVar 5) "owner") (tC .non))) (tRet (tVar 5)) tNext))
    (tRet (tCall (sp_longest_over K A) [] E0 (tCons (tMeth A.n "free_places" (sp_Net_free_places K A) [] E0 (tVar 0) tNil) tNil))))))))

abbrev s_is_mask : Stmt := topS 15
def N_is_mask : List Str := ["mask", "rest"]
theorem sc_is_mask : FnScope ["mask", "rest"] ["mask"] (defScope s_is_mask) := ⟨rfl, rfl, rfl, by decide +kernel, rfl, by decide +kernel, by decide +kernel⟩
def t_is_mask (K : PySem.W.Frag) (A : Ad) : TS :=
  (tSeq (tAsg (tOp oSub (tC (.int 4294967295)) (tVar 0)) (gName 1))
    (tRet (tOp rEq (tOp oAnd (tVar 1) (tOp oAdd (tVar 1) (tC (.int 1)))) (tC (.int 0)))))

abbrev s_is_net : Stmt := topS 16
def N_is_net : List Str := ["numbers", "server", "mask", "way_out", "names", "first", "many", "long", "last"]
theorem sc_is_net : FnScope ["numbers", "server", "mask", "way_out", "names", "first", "many", "long", "last"] ["numbers"] (defScope s_is_net) := ⟨rfl, rfl, rfl, by decide +kernel, rfl, by decide +kernel, by decide +kernel⟩
def t_is_net (K : PySem.W.Frag) (A : Ad) : TS :=
  (tSeq (tAsg (tVar 0) (gLst K 7 (gCons (gName 1) (gCons (gName 2) (gCons (gName 3) (gCons (gName 4) (gCons (gName 5) (gCons (gName 6) (gCons (gName 7) gNil)))))))))
    (tSeq (tIfS (tOr (tTest (tOp oLt (tVar 6) (tC (.int 1)))) (tOr (tTest (tOp oGt (tVar 6) (tC (.int 256)))) (tOr (tTest (tOp oLt (tVar 7) (tC (.int 60)))) (tOr (tTest (tOp oGt (tVar 7) (tC (.int 31536000)))) (tNot (tB (tCall (sp_is_mask K A) [] E0 (tCons (tVar 2) tNil)))))))) (tRet (tC (.bl false))) tNext)
    (tSeq (tAsg (tOp oSub (tOp oAdd (tVar 5) (tVar 6)) (tC (.int 1))) (gName 8))
    (tSeq (tIfS (tOr (tTest (tOp oGt (tVar 8) (tC (.int 4294967295)))) (tOr (tTest (tOp rEq (tVar 1) (tC (.int 0)))) (tOr (tTest (tOp rEq (tVar 5) (tC (.int 0)))) (tAnd (tTest (tOp oLe (tVar 5) (tVar 1))) (tTest (tOp oLe (tVar 1) (tVar 8))))))) (tRet (tC (.bl false))) tNext)
    (tRet (tAndV (tOp rEq (tOp oAnd (tVar 1) (tVar 2)) (tOp oAnd (tVar 5) (tVar 2))) (tOp rEq (tOp oAnd (tVar 1) (tVar 2)) (tOp oAnd (tVar 8) (tVar 2)))))))))

abbrev s_ask : Stmt := topS 32
def N_ask : List Str := ["good"]
theorem sc_ask : FnScope ["good"] ["good"] (defScope s_ask) := ⟨rfl, rfl, rfl, by decide +kernel, rfl, by decide +kernel, by decide +kernel⟩
def t_ask (K : PySem.W.Frag) (A : Ad) (E : XK) : TS :=
  (tIfS (tNot (tB (tVar 0))) (fun _ _ H => E (.ref A.f) none H) tNext)

abbrev s_whole_of : Stmt := topS 33
def N_whole_of : List Str := ["row", "found", "byte"]
theorem sc_whole_of : FnScope ["row", "found", "byte"] ["row"] (defScope s_whole_of) := ⟨rfl, rfl, rfl, by decide +kernel, rfl, by decide +kernel, by decide +kernel⟩
def t_whole_of (K : PySem.W.Frag) (A : Ad) : TS :=
  (tSeq (tAsg (tC (.int 0)) (gName 1))
    (tSeq (tFor (iList K (tVar 0)) (gName 2) (tAsg (tOp oAdd (tOp oMul (tVar 1) (tC (.int 256))) (tVar 2)) (gName 1)))
    (tRet (tVar 1))))

abbrev s_row_of : Stmt := topS 34
def N_row_of : List Str := ["number", "many", "at"]
theorem sc_row_of : FnScope ["number", "many", "at"] ["number", "many"] (defScope s_row_of) := ⟨rfl, rfl, rfl, by decide +kernel, rfl, by decide +kernel, by decide +kernel⟩
def t_row_of (K : PySem.W.Frag) (A : Ad) : TS :=
  (tRet (tLc (iRng1 (tCons (tVar 1) tNil)) (gName 2) tYes (tOp oAnd (tOp oShr (tVar 0) (tOp oMul (tC (.int 8)) (tOp oSub (tOp oSub (tVar 1) (tC (.int 1))) (tVar 2)))) (tC (.int 255))) [2]))

abbrev s_initK : Stmt := inClass (topS 35) 0
def N_initK : List Str := ["self", "row", "options"]
theorem sc_initK : FnScope ["self", "row", "options"] ["self", "row", "options"] (defScope s_initK) := ⟨rfl, rfl, rfl, by decide +kernel, rfl, by decide +kernel, by decide +kernel⟩
def t_initK (K : PySem.W.Frag) (A : Ad) : TS :=
  (tSeq (sFld K (tVar 0) (tSl (rSlL K) (tVar 1) (tPart (tC (.int 4))) (tPart (tC (.int 8)))) "number")
    (tSeq (sFld K (tVar 0) (tSl (rSlL K) (tVar 1) (tPart (tC (.int 10))) (tPart (tC (.int 12)))) "flags")
    (tSeq (sFld K (tVar 0) (tCall (sp_whole_of K A) [] E0 (tCons (tSl (rSlL K) (tVar 1) (tPart (tC (.int 12))) (tPart (tC (.int 16)))) tNil)) "client")
    (tSeq (sFld K (tVar 0) (tCall (sp_whole_of K A) [] E0 (tCons (tSl (rSlL K) (tVar 1) (tPart (tC (.int 24))) (tPart (tC (.int 28)))) tNil)) "relay")
    (tSeq (sFld K (tVar 0) (tSl (rSlL K) (tVar 1) (tPart (tC (.int 28))) (tPart (tC (.int 44)))) "machine")
    (tSeq (sFld K (tVar 0) (tOp (rIxL K) (tDGet (tVar 2) (tC (.int 53))) (tC (.int 0))) "kind")
    (sFld K (tVar 0) (tVar 2) "options")))))))

abbrev s_Packet_address_in : Stmt := inClass (topS 35) 1
def N_Packet_address_in : List Str := ["self", "option"]
theorem sc_Packet_address_in : FnScope ["self", "option"] ["self", "option"] (defScope s_Packet_address_in) := ⟨rfl, rfl, rfl, by decide +kernel, rfl, by decide +kernel, by decide +kernel⟩
def t_Packet_address_in (K : PySem.W.Frag) (A : Ad) : TS :=
  (tSeq (tIfS (tB (tDNotIn (tVar 1) (tFld K (tVar 0) "options"))) (tRet (tC .non)) tNext)
    (tRet (tCall (sp_whole_of K A) [] E0 (tCons (tDGet (tFld K (tVar 0) "options") (tVar 1)) tNil))))

abbrev s_Packet_who : Stmt := inClass (topS 35) 2
def N_Packet_who : List Str := ["self"]
theorem sc_Packet_who : FnScope ["self"] ["self"] (defScope s_Packet_who) := ⟨rfl, rfl, rfl, by decide +kernel, rfl, by decide +kernel, by decide +kernel⟩
def t_Packet_who (K : PySem.W.Frag) (A : Ad) : TS :=
  (tSeq (tIfS (tB (tDIn (tC (.int 61)) (tFld K (tVar 0) "options"))) (tRet (tCB (rListQ K) (tCons (tDGet (tFld K (tVar 0) "options") (tC (.int 61))) tNil))) tNext)
    (tRet (tOp (oCat K) (tLst (tCons (tC (.int 1)) tNil)) (tSl (rSlL K) (tFld K (tVar 0) "machine") tNoPart (tPart (tC (.int 6)))))))

abbrev s_check_option : Stmt := topS 36
def N_check_option : List Str := ["options", "number", "given", "least", "most"]
theorem sc_check_option : FnScope ["options", "number", "given", "least", "most"] ["options", "number", "given"] (defScope s_check_option) := ⟨rfl, rfl, rfl, by decide +kernel, rfl, by decide +kernel, by decide +kernel⟩
def t_check_option (K : PySem.W.Frag) (A : Ad) (E : XK) : TS :=
  (tSeq (tDrop (tCall (sp_ask K A) [] E (tCons (tAndV (tDNotIn (tVar 1) (tVar 0)) (tOp rNe (tVar 1) (tC (.int 52)))) tNil)))
    (tIfS (tTest (tOp (rInLens A.lens) (tVar 1) (tC (.ref A.lens)))) (tSeq (tAsg (tOp (rIxLens K A.lens) (tC (.ref A.lens)) (tVar 1)) (gTup K 2 (gCons (gName 3) (gCons (gName 4) gNil))))
    (tDrop (tCall (sp_ask K A) [] E (tCons (tAndV (tOp oLe (tVar 3) (tCB (rLenQ K) (tCons (tVar 2) tNil))) (tOp oLe (tCB (rLenQ K) (tCons (tVar 2) tNil)) (tVar 4))) tNil)))) tNext))

abbrev s_read_options : Stmt := topS 37
def N_read_options : List Str := ["row", "found", "at", "end"]
theorem sc_read_options : FnScope ["row", "found", "at", "end"] ["row"] (defScope s_read_options) := ⟨rfl, rfl, rfl, by decide +kernel, rfl, by decide +kernel, by decide +kernel⟩
def t_read_options (K : PySem.W.Frag) (A : Ad) (E : XK) : TS :=
  (tSeq (tAsg tDNewK (gName 1))
    (tSeq (tAsg (tC (.int 240)) (gName 2))
    (tSeq (tWhile (tAnd (tTest (tOp oLt (tVar 2) (tCB (rLenQ K) (tCons (tVar 0) tNil)))) (tTest (tOp rNe (tOp (rIxL K) (tVar 0) (tVar 2)) (tC (.int 255))))) (tIfS (tTest (tOp rEq (tOp (rIxL K) (tVar 0) (tVar 2)) (tC (.int 0)))) (tAsg (tOp oAdd (tVar 2) (tC (.int 1))) (gName 2)) (tSeq (tDrop (tCall (sp_ask K A) [] E (tCons (tOp oLt (tOp oAdd (tVar 2) (tC (.int 1))) (tCB (rLenQ K) (tCons (tVar 0) tNil))) tNil)))
    (tSeq (tAsg (tOp oAdd (tOp oAdd (tVar 2) (tC (.int 2))) (tOp (rIxL K) (tVar 0) (tOp oAdd (tVar 2) (tC (.int 1))))) (gName 3))
    (tSeq (tDrop (tCall (sp_ask K A) [] E (tCons (tOp oLe (tVar 3) (tCB (rLenQ K) (tCons (tVar 0) tNil))) tNil)))
    (tSeq (tDrop (tCall (sp_check_option K A) [] E (tCons (tVar 1) (tCons (tOp (rIxL K) (tVar 0) (tVar 2)) (tCons (tSl (rSlL K) (tVar 0) (tPart (tOp oAdd (tVar 2) (tC (.int 2)))) (tPart (tVar 3))) tNil)))))
    (tSeq (sDPut (tVar 1) (tOp (rIxL K) (tVar 0) (tVar 2)) (tSl (rSlL K) (tVar 0) (tPart (tOp oAdd (tVar 2) (tC (.int 2)))) (tPart (tVar 3))))
    (tAsg (tVar 3) (gName 2)))))))))
    (tSeq (tDrop (tCall (sp_ask K A) [] E (tCons (tAndV (tOp oLt (tVar 2) (tCB (rLenQ K) (tCons (tVar 0) tNil))) (tOp rEq (tCB (rSum K) (tCons (tSl (rSlL K) (tVar 0) (tPart (tOp oAdd (tVar 2) (tC (.int 1)))) tNoPart) tNil)) (tC (.int 0)))) tNil)))
    (tRet (tVar 1))))))

abbrev s_read_packet : Stmt := topS 38
def N_read_packet : List Str := ["row", "options"]
theorem sc_read_packet : FnScope ["row", "options"] ["row"] (defScope s_read_packet) := ⟨rfl, rfl, rfl, by decide +kernel, rfl, by decide +kernel, by decide +kernel⟩
def t_read_packet (K : PySem.W.Frag) (A : Ad) (E : XK) : TS :=
  (tSeq (tDrop (tCall (sp_ask K A) [] E (tCons (tAndV (tOp oLe (tC (.int 244)) (tCB (rLenQ K) (tCons (tVar 0) tNil))) (tOp oLe (tCB (rLenQ K) (tCons (tVar 0) tNil)) (tC (.int 576)))) tNil)))
    (tSeq (tDrop (tCall (sp_ask K A) [] E (tCons (tAndV (tOp (rEqD K) (tSl (rSlL K) (tVar 0) tNoPart (tPart (tC (.int 3)))) (tC (.ref A.beg))) (tOp (rEqD K) (tSl (rSlL K) (tVar 0) (tPart (tOp oSub (tC (.int 240)) (tC (.int 4)))) (tPart (tC (.int 240)))) (tC (.ref A.mgc)))) tNil)))
    (tSeq (tAsg (tCall (sp_read_options K A) [] E (tCons (tVar 0) tNil)) (gName 1))
    (tSeq (tDrop (tCall (sp_ask K A) [] E (tCons (tDIn (tC (.int 53)) (tVar 1)) tNil)))
    (tRet (tMake A.k (sp_initK K A) [] E0 (tCons (tVar 0) (tCons (tVar 1) tNil))))))))

abbrev s_packet_or_none : Stmt := topS 39
def N_packet_or_none : List Str := ["row", "found"]
theorem sc_packet_or_none : FnScope ["row", "found"] ["row"] (defScope s_packet_or_none) := ⟨rfl, rfl, rfl, by decide +kernel, rfl, by decide +kernel, by decide +kernel⟩
def t_packet_or_none (K : PySem.W.Frag) (A : Ad) : TS :=
  (tSeq (tAsg (tC .non) (gName 1))
    (tSeq (fun D σ H => (tAsg (tCallS (sp_read_packet K A) (WE (wOnly K (.ref A.f) (fun _ _ _ => (tAsg (tC .non) (gName 1))) (fun _ _ _ _ => False) D)) (tCons (tVar 0) tNil)) (gName 1)) D σ H)
    (tRet (tVar 1))))

abbrev s_initR : Stmt := inClass (topS 50) 0
def N_initR : List Str := ["self", "kind", "yours"]
theorem sc_initR : FnScope ["self", "kind", "yours"] ["self", "kind", "yours"] (defScope s_initR) := ⟨rfl, rfl, rfl, by decide +kernel, rfl, by decide +kernel, by decide +kernel⟩
def t_initR (K : PySem.W.Frag) (A : Ad) : TS :=
  (tSeq (sFld K (tVar 0) (tVar 1) "kind")
    (sFld K (tVar 0) (tVar 2) "yours"))

abbrev s_option : Stmt := topS 51
def N_option : List Str := ["number", "given"]
theorem sc_option : FnScope ["number", "given"] ["number", "given"] (defScope s_option) := ⟨rfl, rfl, rfl, by decide +kernel, rfl, by decide +kernel, by decide +kernel⟩
def t_option (K : PySem.W.Frag) (A : Ad) : TS :=
  (tRet (tOp (oCat K) (tLst (tCons (tVar 0) (tCons (tCB (rLenQ K) (tCons (tVar 1) tNil)) tNil))) (tVar 1)))

abbrev s_address_option : Stmt := topS 52
def N_address_option : List Str := ["number", "address"]
theorem sc_address_option : FnScope ["number", "address"] ["number", "address"] (defScope s_address_option) := ⟨rfl, rfl, rfl, by decide +kernel, rfl, by decide +kernel, by decide +kernel⟩
def t_address_option (K : PySem.W.Frag) (A : Ad) : TS :=
  (tRet (tCall (sp_option K A) [] E0 (tCons (tVar 0) (tCons (tCall (sp_row_of K A) [] E0 (tCons (tVar 1) (tCons (tC (.int 4)) tNil))) tNil))))

abbrev s_option_rows : Stmt := topS 53
def N_option_rows : List Str := ["net", "packet", "reply", "found"]
theorem sc_option_rows : FnScope ["net", "packet", "reply", "found"] ["net", "packet", "reply"] (defScope s_option_rows) := ⟨rfl, rfl, rfl, by decide +kernel, rfl, by decide +kernel, by decide +kernel⟩
def t_option_rows (K : PySem.W.Frag) (A : Ad) : TS :=
  (tSeq (tAsg (tOp (oCat K) (tCall (sp_option K A) [] E0 (tCons (tC (.int 53)) (tCons (tLst (tCons (tFld K (tVar 2) "kind") tNil)) tNil))) (tCall (sp_address_option K A) [] E0 (tCons (tC (.int 54)) (tCons (tFld K (tVar 0) "server") tNil)))) (gName 3))
    (tSeq (tIfS (tTest (tOp rNe (tFld K (tVar 2) "kind") (tC (.int 6)))) (tSeq (tIfS (tTest (tOp oGt (tFld K (tVar 2) "yours") (tC (.int 0)))) (tSeq (tAsg (tOp (oCat K) (tOp (oCat K) (tVar 3) (tCall (sp_address_option K A) [] E0 (tCons (tC (.int 51)) (tCons (tFld K (tVar 0) "long") tNil)))) (tCall (sp_address_option K A) [] E0 (tCons (tC (.int 58)) (tCons (tOp oDiv (tFld K (tVar 0) "long") (tC (.int 2))) tNil)))) (gName 3))
    (tAsg (tOp (oCat K) (tVar 3) (tCall (sp_address_option K A) [] E0 (tCons (tC (.int 59)) (tCons (tOp oMul (tOp oDiv (tFld K (tVar 0) "long") (tC (.int 8))) (tC (.int 7))) tNil)))) (gName 3))) tNext)
    (tAsg (tOp (oCat K) (tOp (oCat K) (tOp (oCat K) (tVar 3) (tCall (sp_address_option K A) [] E0 (tCons (tC (.int 1)) (tCons (tFld K (tVar 0) "mask") tNil)))) (tCall (sp_address_option K A) [] E0 (tCons (tC (.int 3)) (tCons (tFld K (tVar 0) "way_out") tNil)))) (tCall (sp_address_option K A) [] E0 (tCons (tC (.int 6)) (tCons (tFld K (tVar 0) "names") tNil)))) (gName 3))) tNext)
    (tSeq (tIfS (tB (tDIn (tC (.int 61)) (tFld K (tVar 1) "options"))) (tAsg (tOp (oCat K) (tVar 3) (tCall (sp_option K A) [] E0 (tCons (tC (.int 61)) (tCons (tDGet (tFld K (tVar 1) "options") (tC (.int 61))) tNil)))) (gName 3)) tNext)
    (tRet (tOp (oCat K) (tVar 3) (tLst (tCons (tC (.int 255)) tNil)))))))

abbrev s_reply_row : Stmt := topS 54
def N_reply_row : List Str := ["net", "packet", "reply", "client", "found"]
theorem sc_reply_row : FnScope ["net", "packet", "reply", "client", "found"] ["net", "packet", "reply"] (defScope s_reply_row) := ⟨rfl, rfl, rfl, by decide +kernel, rfl, by decide +kernel, by decide +kernel⟩
def t_reply_row (K : PySem.W.Frag) (A : Ad) : TS :=
  (tSeq (tAsg (tC (.int 0)) (gName 3))
    (tSeq (tIfS (tTest (tOp rEq (tFld K (tVar 2) "kind") (tC (.int 5)))) (tAsg (tFld K (tVar 1) "client") (gName 3)) tNext)
    (tSeq (tAsg (tOp (oCat K) (tOp (oCat K) (tOp (oCat K) (tOp (oCat K) (tOp (oCat K) (tLst (tCons (tC (.int 2)) (tCons (tC (.int 1)) (tCons (tC (.int 6)) (tCons (tC (.int 0)) tNil))))) (tFld K (tVar 1) "number")) (tLst (tCons (tC (.int 0)) (tCons (tC (.int 0)) tNil)))) (tFld K (tVar 1) "flags")) (tCall (sp_row_of K A) [] E0 (tCons (tVar 3) (tCons (tC (.int 4)) tNil)))) (tCall (sp_row_of K A) [] E0 (tCons (tFld K (tVar 2) "yours") (tCons (tC (.int 4)) tNil)))) (gName 4))
    (tSeq (tAsg (tOp (oCat K) (tOp (oCat K) (tOp (oCat K) (tOp (oCat K) (tOp (oCat K) (tVar 4) (tCall (sp_row_of K A) [] E0 (tCons (tC (.int 0)) (tCons (tC (.int 4)) tNil)))) (tCall (sp_row_of K A) [] E0 (tCons (tFld K (tVar 1) "relay") (tCons (tC (.int 4)) tNil)))) (tFld K (tVar 1) "machine")) (tOp rRep (tLst (tCons (tC (.int 0)) tNil)) (tC (.int 192)))) (tC (.ref A.mgc))) (gName 4))
    (tSeq (tAsg (tOp (oCat K) (tVar 4) (tCall (sp_option_rows K A) [] E0 (tCons (tVar 0) (tCons (tVar 1) (tCons (tVar 2) tNil))))) (gName 4))
    (tRet (tOp (oCat K) (tVar 4) (tOp rRep (tLst (tCons (tC (.int 0)) tNil)) (tCB rMaxQ (tCons (tC (.int 0)) (tCons (tOp oSub (tC (.int 300)) (tCB (rLenQ K) (tCons (tVar 4) tNil))) tNil)))))))))))

abbrev s_target_of : Stmt := topS 55
def N_target_of : List Str := ["packet", "reply"]
theorem sc_target_of : FnScope ["packet", "reply"] ["packet", "reply"] (defScope s_target_of) := ⟨rfl, rfl, rfl, by decide +kernel, rfl, by decide +kernel, by decide +kernel⟩
def t_target_of (K : PySem.W.Frag) (A : Ad) : TS :=
  (tSeq (tIfS (tTest (tOp oGt (tFld K (tVar 0) "relay") (tC (.int 0)))) (tRet (tLst (tCons (tFld K (tVar 0) "relay") (tCons (tC (.int 67)) tNil)))) tNext)
    (tSeq (tIfS (tTest (tOp rEq (tFld K (tVar 1) "kind") (tC (.int 6)))) (tRet (tLst (tCons (tC (.int 4294967295)) (tCons (tC (.int 68)) tNil)))) tNext)
    (tSeq (tIfS (tTest (tOp oGt (tFld K (tVar 0) "client") (tC (.int 0)))) (tRet (tLst (tCons (tFld K (tVar 0) "client") (tCons (tC (.int 68)) tNil)))) tNext)
    (tSeq (tIfS (tTest (tOp oGe (tOp (rIxL K) (tFld K (tVar 0) "flags") (tC (.int 0))) (tC (.int 128)))) (tRet (tLst (tCons (tC (.int 4294967295)) (tCons (tC (.int 68)) tNil)))) tNext)
    (tRet (tLst (tCons (tFld K (tVar 1) "yours") (tCons (tC (.int 68)) tNil))))))))

abbrev s_told : Stmt := topS 56
def N_told : List Str := ["net", "packet", "reply", "row"]
theorem sc_told : FnScope ["net", "packet", "reply", "row"] ["net", "packet", "reply"] (defScope s_told) := ⟨rfl, rfl, rfl, by decide +kernel, rfl, by decide +kernel, by decide +kernel⟩
def t_told (K : PySem.W.Frag) (A : Ad) : TS :=
  (tSeq (tAsg (tCall (sp_reply_row K A) [] E0 (tCons (tVar 0) (tCons (tVar 1) (tCons (tVar 2) tNil)))) (gName 3))
    (tRet (tOp (oCat K) (tOp (oCat K) (tLst (tCons (tCB (rLenQ K) (tCons (tVar 3) tNil)) tNil)) (tCall (sp_target_of K A) [] E0 (tCons (tVar 1) (tCons (tVar 2) tNil)))) (tVar 3))))

abbrev s_discover : Stmt := topS 63
def N_discover : List Str := ["net", "packet", "who", "place"]
theorem sc_discover : FnScope ["net", "packet", "who", "place"] ["net", "packet"] (defScope s_discover) := ⟨rfl, rfl, rfl, by decide +kernel, rfl, by decide +kernel, by decide +kernel⟩
def t_discover (K : PySem.W.Frag) (A : Ad) : TS :=
  (tSeq (tAsg (tMeth A.k "who" (sp_Packet_who K A) [] E0 (tVar 1) tNil) (gName 2))
    (tSeq (tAsg (tCall (sp_chosen K A) [] E0 (tCons (tVar 0) (tCons (tVar 2) (tCons (tMeth A.k "address_in" (sp_Packet_address_in K A) [] E0 (tVar 1) (tCons (tC (.int 50)) tNil)) tNil)))) (gName 3))
    (tSeq (tIfS (tTest (tOp oIsN (tVar 3) (tC .non))) (tRet (tC .non)) tNext)
    (tSeq (tIfS (tOr (tTest (tOp rNe (tFld K (tVar 3) "state") (tC (.int 2)))) (tB (tMeth A.p "is_free_at" (sp_Place_is_free_at K A) [] E0 (tVar 3) (tCons (tFld K (tVar 0) "now") tNil)))) (tSeq (tDrop (tMeth A.p "become" (sp_Place_become K A) [] E0 (tVar 3) (tCons (tC (.int 1)) (tCons (tOp oAdd (tFld K (tVar 0) "now") (tC (.int 60))) tNil))))
    (sFld K (tVar 3) (tVar 2) "owner")) tNext)
    (tRet (tMake A.r (sp_initR K A) [] E0 (tCons (tC (.int 2)) (tCons (tFld K (tVar 3) "address") tNil))))))))

abbrev s_lent : Stmt := topS 64
def N_lent : List Str := ["net", "place"]
theorem sc_lent : FnScope ["net", "place"] ["net", "place"] (defScope s_lent) := ⟨rfl, rfl, rfl, by decide +kernel, rfl, by decide +kernel, by decide +kernel⟩
def t_lent (K : PySem.W.Frag) (A : Ad) : TS :=
  (tSeq (tDrop (tMeth A.n "lend" (sp_Net_lend K A) [] E0 (tVar 0) (tCons (tVar 1) tNil)))
    (tRet (tMake A.r (sp_initR K A) [] E0 (tCons (tC (.int 5)) (tCons (tFld K (tVar 1) "address") tNil)))))

abbrev s_request_here : Stmt := topS 65
def N_request_here : List Str := ["net", "packet", "wanted", "place"]
theorem sc_request_here : FnScope ["net", "packet", "wanted", "place"] ["net", "packet", "wanted"] (defScope s_request_here) := ⟨rfl, rfl, rfl, by decide +kernel, rfl, by decide +kernel, by decide +kernel⟩
def t_request_here (K : PySem.W.Frag) (A : Ad) : TS :=
  (tSeq (tIfS (tOr (tTest (tOp oIsN (tVar 2) (tC .non))) (tTest (tOp oGt (tFld K (tVar 1) "client") (tC (.int 0))))) (tRet (tC .non)) tNext)
    (tSeq (tAsg (tMeth A.n "place_of" (sp_Net_place_of K A) [] E0 (tVar 0) (tCons (tVar 2) tNil)) (gName 3))
    (tSeq (tIfS (tAnd (tTest (tOp oNotN (tVar 3) (tC .non))) (tB (tMeth A.p "is_own" (sp_Place_is_own K A) [] E0 (tVar 3) (tCons (tMeth A.k "who" (sp_Packet_who K A) [] E0 (tVar 1) tNil) tNil)))) (tRet (tCall (sp_lent K A) [] E0 (tCons (tVar 0) (tCons (tVar 3) tNil)))) tNext)
    (tRet (tMake A.r (sp_initR K A) [] E0 (tCons (tC (.int 6)) (tCons (tC (.int 0)) tNil)))))))

abbrev s_request_again : Stmt := topS 66
def N_request_again : List Str := ["net", "packet", "wanted", "place"]
theorem sc_request_again : FnScope ["net", "packet", "wanted", "place"] ["net", "packet", "wanted"] (defScope s_request_again) := ⟨rfl, rfl, rfl, by decide +kernel, rfl, by decide +kernel, by decide +kernel⟩
def t_request_again (K : PySem.W.Frag) (A : Ad) : TS :=
  (tSeq (tIfS (tTest (tOp oGt (tFld K (tVar 1) "client") (tC (.int 0)))) (tRet (tC .non)) tNext)
    (tSeq (tIfS (tAnd (tTest (tOp rEq (tFld K (tVar 1) "relay") (tC (.int 0)))) (tNot (tB (tMeth A.n "is_near" (sp_Net_is_near K A) [] E0 (tVar 0) (tCons (tVar 2) tNil))))) (tRet (tMake A.r (sp_initR K A) [] E0 (tCons (tC (.int 6)) (tCons (tC (.int 0)) tNil)))) tNext)
    (tSeq (tAsg (tMeth A.n "place_of" (sp_Net_place_of K A) [] E0 (tVar 0) (tCons (tVar 2) tNil)) (gName 3))
    (tSeq (tIfS (tTest (tOp oIsN (tVar 3) (tC .non))) (tRet (tC .non)) tNext)
    (tSeq (tIfS (tB (tMeth A.p "is_own" (sp_Place_is_own K A) [] E0 (tVar 3) (tCons (tMeth A.k "who" (sp_Packet_who K A) [] E0 (tVar 1) tNil) tNil))) (tRet (tCall (sp_lent K A) [] E0 (tCons (tVar 0) (tCons (tVar 3) tNil)))) tNext)
    (tSeq (tIfS (tTest (tOp oNotN (tMeth A.n "own_place" (sp_Net_own_place K A) [] E0 (tVar 0) (tCons (tMeth A.k "who" (sp_Packet_who K A) [] E0 (tVar 1) tNil) tNil)) (tC .non))) (tRet (tMake A.r (sp_initR K A) [] E0 (tCons (tC (.int 6)) (tCons (tC (.int 0)) tNil)))) tNext)
    (tRet (tC .non))))))))

abbrev s_request_longer : Stmt := topS 67
def N_request_longer : List Str := ["net", "packet", "place"]
theorem sc_request_longer : FnScope ["net", "packet", "place"] ["net", "packet"] (defScope s_request_longer) := ⟨rfl, rfl, rfl, by decide +kernel, rfl, by decide +kernel, by decide +kernel⟩
def t_request_longer (K : PySem.W.Frag) (A : Ad) : TS :=
  (tSeq (tAsg (tMeth A.n "place_of" (sp_Net_place_of K A) [] E0 (tVar 0) (tCons (tFld K (tVar 1) "client") tNil)) (gName 2))
    (tSeq (tIfS (tOr (tTest (tOp rEq (tFld K (tVar 1) "client") (tC (.int 0)))) (tTest (tOp oIsN (tVar 2) (tC .non)))) (tRet (tC .non)) tNext)
    (tSeq (tIfS (tAnd (tB (tMeth A.p "is_own" (sp_Place_is_own K A) [] E0 (tVar 2) (tCons (tMeth A.k "who" (sp_Packet_who K A) [] E0 (tVar 1) tNil) tNil))) (tTest (tOp rEq (tFld K (tVar 2) "state") (tC (.int 2))))) (tRet (tCall (sp_lent K A) [] E0 (tCons (tVar 0) (tCons (tVar 2) tNil)))) tNext)
    (tRet (tMake A.r (sp_initR K A) [] E0 (tCons (tC (.int 6)) (tCons (tC (.int 0)) tNil)))))))

abbrev s_request : Stmt := topS 68
def N_request : List Str := ["net", "packet", "wanted", "server"]
theorem sc_request : FnScope ["net", "packet", "wanted", "server"] ["net", "packet"] (defScope s_request) := ⟨rfl, rfl, rfl, by decide +kernel, rfl, by decide +kernel, by decide +kernel⟩
def t_request (K : PySem.W.Frag) (A : Ad) : TS :=
  (tSeq (tAsg (tMeth A.k "address_in" (sp_Packet_address_in K A) [] E0 (tVar 1) (tCons (tC (.int 50)) tNil)) (gName 2))
    (tSeq (tAsg (tMeth A.k "address_in" (sp_Packet_address_in K A) [] E0 (tVar 1) (tCons (tC (.int 54)) tNil)) (gName 3))
    (tSeq (tIfS (tTest (tOp oNotN (tVar 3) (tC .non))) (tSeq (tIfS (tTest (tOp rNe (tVar 3) (tFld K (tVar 0) "server"))) (tSeq (tDrop (tMeth A.n "unoffer" (sp_Net_unoffer K A) [] E0 (tVar 0) (tCons (tMeth A.k "who" (sp_Packet_who K A) [] E0 (tVar 1) tNil) tNil)))
    (tRet (tC .non))) tNext)
    (tRet (tCall (sp_request_here K A) [] E0 (tCons (tVar 0) (tCons (tVar 1) (tCons (tVar 2) tNil)))))) tNext)
    (tSeq (tIfS (tTest (tOp oNotN (tVar 2) (tC .non))) (tRet (tCall (sp_request_again K A) [] E0 (tCons (tVar 0) (tCons (tVar 1) (tCons (tVar 2) tNil))))) tNext)
    (tRet (tCall (sp_request_longer K A) [] E0 (tCons (tVar 0) (tCons (tVar 1) tNil))))))))

abbrev s_decline : Stmt := topS 69
def N_decline : List Str := ["net", "packet", "place"]
theorem sc_decline : FnScope ["net", "packet", "place"] ["net", "packet"] (defScope s_decline) := ⟨rfl, rfl, rfl, by decide +kernel, rfl, by decide +kernel, by decide +kernel⟩
def t_decline (K : PySem.W.Frag) (A : Ad) : TS :=
  (tSeq (tAsg (tMeth A.n "place_of" (sp_Net_place_of K A) [] E0 (tVar 0) (tCons (tMeth A.k "address_in" (sp_Packet_address_in K A) [] E0 (tVar 1) (tCons (tC (.int 50)) tNil)) tNil)) (gName 2))
    (tSeq (tIfS (tOr (tTest (tOp oIsN (tVar 2) (tC .non))) (tTest (tOp rNe (tMeth A.k "address_in" (sp_Packet_address_in K A) [] E0 (tVar 1) (tCons (tC (.int 54)) tNil)) (tFld K (tVar 0) "server")))) tRetN tNext)
    (tIfS (tAnd (tB (tMeth A.p "is_own" (sp_Place_is_own K A) [] E0 (tVar 2) (tCons (tMeth A.k "who" (sp_Packet_who K A) [] E0 (tVar 1) tNil) tNil))) (tTest (tOp rNe (tFld K (tVar 2) "state") (tC (.int 0))))) (tSeq (tDrop (tMeth A.p "become" (sp_Place_become K A) [] E0 (tVar 2) (tCons (tC (.int 3)) (tCons (tOp oAdd (tFld K (tVar 0) "now") (tC (.int 600))) tNil))))
    (sFld K (tVar 2) (tC .non) "owner")) tNext)))

abbrev s_release : Stmt := topS 70
def N_release : List Str := ["net", "packet", "place"]
theorem sc_release : FnScope ["net", "packet", "place"] ["net", "packet"] (defScope s_release) := ⟨rfl, rfl, rfl, by decide +kernel, rfl, by decide +kernel, by decide +kernel⟩
def t_release (K : PySem.W.Frag) (A : Ad) : TS :=
  (tSeq (tAsg (tMeth A.n "place_of" (sp_Net_place_of K A) [] E0 (tVar 0) (tCons (tFld K (tVar 1) "client") tNil)) (gName 2))
    (tSeq (tIfS (tOr (tTest (tOp oIsN (tVar 2) (tC .non))) (tTest (tOp rNe (tMeth A.k "address_in" (sp_Packet_address_in K A) [] E0 (tVar 1) (tCons (tC (.int 54)) tNil)) (tFld K (tVar 0) "server")))) tRetN tNext)
    (tIfS (tAnd (tB (tMeth A.p "is_own" (sp_Place_is_own K A) [] E0 (tVar 2) (tCons (tMeth A.k "who" (sp_Packet_who K A) [] E0 (tVar 1) tNil) tNil))) (tTest (tOp rEq (tFld K (tVar 2) "state") (tC (.int 2))))) (tDrop (tMeth A.p "become" (sp_Place_become K A) [] E0 (tVar 2) (tCons (tC (.int 0)) (tCons (tFld K (tVar 0) "now") tNil)))) tNext)))

abbrev s_reply_to : Stmt := topS 71
def N_reply_to : List Str := ["net", "packet"]
theorem sc_reply_to : FnScope ["net", "packet"] ["net", "packet"] (defScope s_reply_to) := ⟨rfl, rfl, rfl, by decide +kernel, rfl, by decide +kernel, by decide +kernel⟩
def t_reply_to (K : PySem.W.Frag) (A : Ad) : TS :=
  (tSeq (tIfS (tTest (tOp rEq (tFld K (tVar 1) "kind") (tC (.int 1)))) (tRet (tCall (sp_discover K A) [] E0 (tCons (tVar 0) (tCons (tVar 1) tNil)))) tNext)
    (tSeq (tIfS (tTest (tOp rEq (tFld K (tVar 1) "kind") (tC (.int 3)))) (tRet (tCall (sp_request K A) [] E0 (tCons (tVar 0) (tCons (tVar 1) tNil)))) tNext)
    (tSeq (tIfS (tAnd (tTest (tOp rEq (tFld K (tVar 1) "kind") (tC (.int 8)))) (tTest (tOp oGt (tFld K (tVar 1) "client") (tC (.int 0))))) (tRet (tMake A.r (sp_initR K A) [] E0 (tCons (tC (.int 5)) (tCons (tC (.int 0)) tNil)))) tNext)
    (tSeq (tIfS (tTest (tOp rEq (tFld K (tVar 1) "kind") (tC (.int 4)))) (tDrop (tCall (sp_decline K A) [] E0 (tCons (tVar 0) (tCons (tVar 1) tNil)))) (tIfS (tTest (tOp rEq (tFld K (tVar 1) "kind") (tC (.int 7)))) (tDrop (tCall (sp_release K A) [] E0 (tCons (tVar 0) (tCons (tVar 1) tNil)))) tNext))
    (tRet (tC .non))))))

abbrev s_initD : Stmt := inClass (topS 78) 0
def N_initD : List Str := ["self"]
theorem sc_initD : FnScope ["self"] ["self"] (defScope s_initD) := ⟨rfl, rfl, rfl, by decide +kernel, rfl, by decide +kernel, by decide +kernel⟩
def t_initD (K : PySem.W.Frag) (A : Ad) : TS :=
  (sFld K (tVar 0) (tC .non) "net")

abbrev s_Desk_start : Stmt := inClass (topS 78) 1
def N_Desk_start : List Str := ["self", "numbers"]
theorem sc_Desk_start : FnScope ["self", "numbers"] ["self", "numbers"] (defScope s_Desk_start) := ⟨rfl, rfl, rfl, by decide +kernel, rfl, by decide +kernel, by decide +kernel⟩
def t_Desk_start (K : PySem.W.Frag) (A : Ad) : TS :=
  (tSeq (sFld K (tVar 0) (tC .non) "net")
    (tSeq (tIfS (tNot (tB (tCall (sp_is_net K A) [] E0 (tCons (tVar 1) tNil)))) (tRet (tLst (tCons (tUn oNeg (tC (.int 1))) tNil))) tNext)
    (tSeq (sFld K (tVar 0) (tMake A.n (sp_initN K A) [] E0 (tCons (tVar 1) tNil)) "net")
    (tRet (tLst (tCons (tC (.int 0)) tNil))))))

abbrev s_Desk_packet : Stmt := inClass (topS 78) 2
def N_Desk_packet : List Str := ["self", "row", "found", "reply"]
theorem sc_Desk_packet : FnScope ["self", "row", "found", "reply"] ["self", "row"] (defScope s_Desk_packet) := ⟨rfl, rfl, rfl, by decide +kernel, rfl, by decide +kernel, by decide +kernel⟩
def t_Desk_packet (K : PySem.W.Frag) (A : Ad) : TS :=
  (tSeq (tIfS (tTest (tOp oIsN (tFld K (tVar 0) "net") (tC .non))) (tRet (tLst (tCons (tC (.int (-3))) tNil))) tNext)
    (tSeq (tIfS (tTest (tOp oGt (tCB (rLenQ K) (tCons (tVar 1) tNil)) (tC (.int 1500)))) (tRet (tLst (tCons (tUn oNeg (tC (.int 1))) tNil))) tNext)
    (tSeq (tAsg (tCall (sp_packet_or_none K A) [] E0 (tCons (tVar 1) tNil)) (gName 2))
    (tSeq (tIfS (tTest (tOp oIsN (tVar 2) (tC .non))) (tRet (tLst (tCons (tUn oNeg (tC (.int 2))) tNil))) tNext)
    (tSeq (tAsg (tCall (sp_reply_to K A) [] E0 (tCons (tFld K (tVar 0) "net") (tCons (tVar 2) tNil))) (gName 3))
    (tSeq (tIfS (tTest (tOp oIsN (tVar 3) (tC .non))) (tRet (tLst (tCons (tC (.int 0)) tNil))) tNext)
    (tRet (tCall (sp_told K A) [] E0 (tCons (tFld K (tVar 0) "net") (tCons (tVar 2) (tCons (tVar 3) tNil)))))))))))

abbrev s_Desk_tick : Stmt := inClass (topS 78) 3
def N_Desk_tick : List Str := ["self", "t"]
theorem sc_Desk_tick : FnScope ["self", "t"] ["self", "t"] (defScope s_Desk_tick) := ⟨rfl, rfl, rfl, by decide +kernel, rfl, by decide +kernel, by decide +kernel⟩
def t_Desk_tick (K : PySem.W.Frag) (A : Ad) : TS :=
  (tSeq (tIfS (tTest (tOp oIsN (tFld K (tVar 0) "net") (tC .non))) (tRet (tLst (tCons (tC (.int (-3))) tNil))) tNext)
    (tRet (tCall (sp_set_time K A) [] E0 (tCons (tFld K (tVar 0) "net") (tCons (tVar 1) tNil)))))

abbrev s_Desk_look : Stmt := inClass (topS 78) 4
def N_Desk_look : List Str := ["self", "address", "place", "state", "owner"]
theorem sc_Desk_look : FnScope ["self", "address", "place", "state", "owner"] ["self", "address"] (defScope s_Desk_look) := ⟨rfl, rfl, rfl, by decide +kernel, rfl, by decide +kernel, by decide +kernel⟩
def t_Desk_look (K : PySem.W.Frag) (A : Ad) : TS :=
  (tSeq (tIfS (tTest (tOp oIsN (tFld K (tVar 0) "net") (tC .non))) (tRet (tLst (tCons (tC (.int (-3))) tNil))) tNext)
    (tSeq (tAsg (tMeth A.n "place_of" (sp_Net_place_of K A) [] E0 (tFld K (tVar 0) "net") (tCons (tVar 1) tNil)) (gName 2))
    (tSeq (tIfS (tTest (tOp oIsN (tVar 2) (tC .non))) (tRet (tLst (tCons (tUn oNeg (tC (.int 1))) tNil))) tNext)
    (tSeq (tAsg (tFld K (tVar 2) "state") (gName 3))
    (tSeq (tIfS (tB (tMeth A.p "is_free_at" (sp_Place_is_free_at K A) [] E0 (tVar 2) (tCons (tFld K (tFld K (tVar 0) "net") "now") tNil))) (tAsg (tC (.int 0)) (gName 3)) tNext)
    (tSeq (tAsg (tFld K (tVar 2) "owner") (gName 4))
    (tSeq (tIfS (tTest (tOp oIsN (tVar 4) (tC .non))) (tAsg (tLst tNil) (gName 4)) tNext)
    (tRet (tOp (oCat K) (tLst (tCons (tVar 3) (tCons (tCB rMaxQ (tCons (tC (.int 0)) (tCons (tOp oSub (tFld K (tVar 2) "till") (tFld K (tFld K (tVar 0) "net") "now")) tNil))) (tCons (tCB (rLenQ K) (tCons (tVar 4) tNil)) tNil)))) (tVar 4))))))))))

abbrev s_set_time : Stmt := topS 79
def N_set_time : List Str := ["net", "t"]
theorem sc_set_time : FnScope ["net", "t"] ["net", "t"] (defScope s_set_time) := ⟨rfl, rfl, rfl, by decide +kernel, rfl, by decide +kernel, by decide +kernel⟩
def t_set_time (K : PySem.W.Frag) (A : Ad) : TS :=
  (tSeq (tIfS (tTest (tOp oLt (tVar 1) (tFld K (tVar 0) "now"))) (tRet (tLst (tCons (tUn oNeg (tC (.int 1))) tNil))) tNext)
    (tSeq (sFld K (tVar 0) (tVar 1) "now")
    (tRet (tLst (tCons (tC (.int 0)) tNil)))))

abbrev s_answers : Stmt := topS 80
def N_answers : List Str := ["calls", "desk", "found", "at", "kind", "number", "row", "end", "tells"]
theorem sc_answers : FnScope ["calls", "desk", "found", "at", "kind", "number", "row", "end", "tells"] ["calls"] (defScope s_answers) := ⟨rfl, rfl, rfl, by decide +kernel, rfl, by decide +kernel, by decide +kernel⟩
def t_answers (K : PySem.W.Frag) (A : Ad) : TS :=
  (tSeq (tAsg (tMake A.d (sp_initD K A) [] E0 tNil) (gName 1))
    (tSeq (tAsg (tLst tNil) (gName 2))
    (tSeq (tAsg (tC (.int 0)) (gName 3))
    (tSeq (tWhile (tTest (tOp oLt (tVar 3) (tCB (rLenQ K) (tCons (tVar 0) tNil)))) (tSeq (tAsg (tOp (rIxL K) (tVar 0) (tVar 3)) (gName 4))
    (tSeq (tAsg (tOp (rIxL K) (tVar 0) (tOp oAdd (tVar 3) (tC (.int 1)))) (gName 5))
    (tSeq (tAsg (tLst tNil) (gName 6))
    (tSeq (tAsg (tOp oAdd (tVar 3) (tC (.int 2))) (gName 7))
    (tSeq (tIfS (tOr (tTest (tOp rEq (tVar 4) (tC (.int 0)))) (tTest (tOp rEq (tVar 4) (tC (.int 1))))) (tSeq (tAsg (tSl (rSlL K) (tVar 0) (tPart (tVar 7)) (tPart (tOp oAdd (tVar 7) (tVar 5)))) (gName 6))
    (tAsg (tOp oAdd (tVar 7) (tVar 5)) (gName 7))) tNext)
    (tSeq (tIfS (tTest (tOp rEq (tVar 4) (tC (.int 0)))) (tAsg (tMeth A.d "start" (sp_Desk_start K A) [] E0 (tVar 1) (tCons (tVar 6) tNil)) (gName 8)) (tIfS (tTest (tOp rEq (tVar 4) (tC (.int 1)))) (tAsg (tMeth A.d "packet" (sp_Desk_packet K A) [] E0 (tVar 1) (tCons (tVar 6) tNil)) (gName 8)) (tIfS (tTest (tOp rEq (tVar 4) (tC (.int 2)))) (tAsg (tMeth A.d "tick" (sp_Desk_tick K A) [] E0 (tVar 1) (tCons (tVar 5) tNil)) (gName 8)) (tAsg (tMeth A.d "look" (sp_Desk_look K A) [] E0 (tVar 1) (tCons (tVar 5) tNil)) (gName 8)))))
    (tSeq (tDrop (tBM K "list" rAppend (tVar 2) (tCons (tCB (rLenQ K) (tCons (tVar 8) tNil)) tNil)))
    (tSeq (tDrop (tBM K "list" rExtend (tVar 2) (tCons (tVar 8) tNil)))
    (tAsg (tVar 7) (gName 3)))))))))))
    (tRet (tVar 2))))))
end Lp
namespace Lp
open PySem PySem.Spec PyProof.Rows L2
open Evl (Ex Ev EvT EvA EvO EvL RetL)
section
variable {P : Program} {w : World} {K : PySem.W.Frag} {mg : Str → Option Value} {base : Heap} {A : Ad}
theorem len_initP {vs : List V} {H : Hp} {Q : VK} {E : XK} (h : sp_initP K A vs H Q E) : vs.length = 2 := by
  obtain ⟨_, _, _, rfl, _⟩ := h
  rfl
theorem len_Place_is_own {vs : List V} {H : Hp} {Q : VK} {E : XK} (h : sp_Place_is_own K A vs H Q E) : vs.length = 2 := by
  obtain ⟨_, _, _, _, _, _, rfl, _⟩ := h
  rfl
theorem len_Place_is_free_at {vs : List V} {H : Hp} {Q : VK} {E : XK} (h : sp_Place_is_free_at K A vs H Q E) : vs.length = 2 := by
  obtain ⟨_, _, _, _, _, rfl, _⟩ := h
  rfl
theorem len_Place_become {vs : List V} {H : Hp} {Q : VK} {E : XK} (h : sp_Place_become K A vs H Q E) : vs.length = 3 := by
  obtain ⟨_, _, _, _, _, _, _, _, rfl, _⟩ := h
  rfl
theorem len_is_mask {vs : List V} {H : Hp} {Q : VK} {E : XK} (h : sp_is_mask K A vs H Q E) : vs.length = 1 := by
  obtain ⟨_, rfl, _⟩ := h
  rfl
theorem len_ask {vs : List V} {H : Hp} {Q : VK} {E : XK} (h : sp_ask K A vs H Q E) : vs.length = 1 := by
  obtain ⟨_, rfl, _⟩ := h
  rfl
theorem len_whole_of {vs : List V} {H : Hp} {Q : VK} {E : XK} (h : sp_whole_of K A vs H Q E) : vs.length = 1 := by
  obtain ⟨_, _, rfl, _⟩ := h
  rfl
theorem len_row_of {vs : List V} {H : Hp} {Q : VK} {E : XK} (h : sp_row_of K A vs H Q E) : vs.length = 2 := by
  obtain ⟨_, rfl, _⟩ := h
  rfl
theorem len_initR {vs : List V} {H : Hp} {Q : VK} {E : XK} (h : sp_initR K A vs H Q E) : vs.length = 3 := by
  obtain ⟨_, _, _, _, rfl, _⟩ := h
  rfl
theorem len_initD {vs : List V} {H : Hp} {Q : VK} {E : XK} (h : sp_initD K A vs H Q E) : vs.length = 1 := by
  obtain ⟨_, _, rfl, _⟩ := h
  rfl
theorem len_option {vs : List V} {H : Hp} {Q : VK} {E : XK} (h : sp_option K A vs H Q E) : vs.length = 2 := by
  obtain ⟨_, _, _, rfl, _⟩ := h
  rfl
theorem len_address_option {vs : List V} {H : Hp} {Q : VK} {E : XK} (h : sp_address_option K A vs H Q E) : vs.length = 2 := by
  obtain ⟨_, _, rfl, _⟩ := h
  rfl
theorem pure_initP (T : Txt K mg A) (vs : List V) (H : Hp) (Q : VK) (E : XK) (h : sp_initP K A vs H Q E) : t_initP K A (endOf Q) (start N_initP vs) H := by
  obtain ⟨x, dx, ad, rfl, hx, k⟩ := h
  refine ⟨_, rfl, _, rfl, x, _, dx, _, rfl, hx, T.cl_Place, T.a_Place_address, (by show 0 < 1000; decide), ?_⟩
  refine ⟨_, rfl, x, _, dx, _, rfl, upd_same, T.cl_Place, T.a_Place_state, (by show 1 < 1000; decide), ?_⟩
  refine ⟨_, rfl, x, _, dx, _, rfl, upd_same, T.cl_Place, T.a_Place_till, (by show 2 < 1000; decide), ?_⟩
  refine ⟨_, rfl, x, _, dx, _, rfl, upd_same, T.cl_Place, T.a_Place_owner, (by show 3 < 1000; decide), ?_⟩
  show Q .non (upd (upd (upd (upd H x _) x _) x _) x _)
  rw [upd_upd, upd_upd, upd_upd, plF_new]
  exact k
theorem own_dp {fl : Addr} {H : Hp} {o : V} {l : List Nat} (h : OwnV fl H o l) : ∃ d, Dp K H o d ∧ SeqAt.shaped d = true ∧ ∀ w : List Nat, w ≠ [] → PyData.eqv d (.list ((w.map fun n : Nat => (n : Int)).map PyData.int)) = (l == w) := by
  rcases h with ⟨rfl, rfl⟩ | ⟨q, rfl, h1, h2, h3⟩
  · refine ⟨.none, .non, shaped_none, fun w hw => ?_⟩
    have e : (([] : List Nat) == w) = false := by
      cases w with
      | nil => exact absurd rfl hw
      | cons a r => rfl
    rw [e]
    simp [PyData.eqv]
  · refine ⟨_, dp_nv (SqL.of h3), shaped_ints _, fun w hw => ?_⟩
    show PyData.eqv (.list _) (.list _) = _
    simp only [PyData.eqv]
    rw [eqv_ints, Bool.eq_iff_iff, decide_eq_true_iff, map_inj_nat, beq_iff_eq]
theorem pure_Place_is_own (T : Txt K mg A) (vs : List V) (H : Hp) (Q : VK) (E : XK) (h : sp_Place_is_own K A vs H Q E) : t_Place_is_own K A (endOf Q) (start N_Place_is_own vs) H := by
  obtain ⟨fl, p, q, ad, l, w, rfl, ⟨dx, o, hp, ho⟩, hq, hw, k⟩ := h
  obtain ⟨d, hd, sd, he⟩ := own_dp (K := K) ho
  refine ⟨_, rfl, p, _, dx, _, _, rfl, hp, T.cl_Place, T.a_Place_owner, plF_owner _ _ _ _, _, rfl, d, _, hd, dp_nv (SqL.of hq), sd, shaped_ints _, _, rfl, ?_⟩
  rw [he w hw]
  cases c : (l.who == w) with
  | false =>
    refine ite_f rfl ?_
    rw [c] at k
    exact k
  | true =>
    refine ite_t rfl ?_
    refine ⟨_, rfl, p, _, dx, _, _, rfl, hp, T.cl_Place, T.a_Place_state, plF_state _ _ _ _, rfl, ?_⟩
    rw [c] at k
    have e : (!decide (V.int (l.state : Int) = V.int 3)) = (l.state != 3) := by
      rw [dec_int]
      by_cases z : l.state = 3
      · rw [z]; rfl
      · have z1 : ((l.state : Int) == 3) = false := by rw [beq_eq_false_iff_ne]; omega
        have z2 : (l.state != 3) = true := by rw [bne_iff_ne]; exact z
        rw [z1, z2]; rfl
    show Q (.bl (!decide (V.int (l.state : Int) = V.int 3))) H
    rw [e]
    exact k
theorem pure_Place_is_free_at (T : Txt K mg A) (vs : List V) (H : Hp) (Q : VK) (E : XK) (h : sp_Place_is_free_at K A vs H Q E) : t_Place_is_free_at K A (endOf Q) (start N_Place_is_free_at vs) H := by
  obtain ⟨fl, p, ad, l, now, rfl, ⟨dx, o, hp, ho⟩, k⟩ := h
  refine ⟨_, rfl, p, _, dx, _, _, rfl, hp, T.cl_Place, T.a_Place_state, plF_state _ _ _ _, rfl, _, rfl, ?_⟩
  have e : decide (V.int (l.state : Int) = V.int 0) = (l.state == 0) := by
    rw [dec_int]
    by_cases z : l.state = 0
    · rw [z]; rfl
    · have z1 : ((l.state : Int) == 0) = false := by rw [beq_eq_false_iff_ne]; omega
      have z2 : (l.state == 0) = false := by rw [beq_eq_false_iff_ne]; exact z
      rw [z1, z2]
  rw [e]
  cases c : (l.state == 0) with
  | true =>
    refine ite_t rfl ?_
    rw [c] at k
    exact k
  | false =>
    refine ite_f rfl ?_
    refine ⟨_, rfl, p, _, dx, _, _, rfl, hp, T.cl_Place, T.a_Place_till, plF_till _ _ _ _, _, rfl, _, _, rfl, rfl, ?_⟩
    rw [c] at k
    show Q (.bl (decide ((l.until_ : Int) ≤ (now : Int)))) H
    rw [show decide ((l.until_ : Int) ≤ (now : Int)) = decide (l.until_ ≤ now) by rw [decide_eq_decide]; omega]
    exact k
theorem pure_Place_become (T : Txt K mg A) (vs : List V) (H : Hp) (Q : VK) (E : XK) (h : sp_Place_become K A vs H Q E) : t_Place_become K A (endOf Q) (start N_Place_become vs) H := by
  obtain ⟨p, dx, ad, s, t, o, s', t', rfl, hp, k⟩ := h
  refine ⟨_, rfl, _, rfl, p, _, dx, _, rfl, hp, T.cl_Place, T.a_Place_state, (by show 4 < 1000; decide), ?_⟩
  refine ⟨_, rfl, _, rfl, p, _, dx, _, rfl, upd_same, T.cl_Place, T.a_Place_till, (by rw [plF_put_state]; show 4 < 1000; decide), ?_⟩
  show Q .non (upd (upd H p _) p _)
  rw [upd_upd, plF_put_state, plF_put_till]
  exact k
theorem pure_is_mask (T : Txt K mg A) (vs : List V) (H : Hp) (Q : VK) (E : XK) (h : sp_is_mask K A vs H Q E) : t_is_mask K A (endOf Q) (start N_is_mask vs) H := by
  obtain ⟨m, rfl, hm, k⟩ := h
  refine ⟨_, rfl, _, _, rfl, rfl, ?_⟩
  refine ⟨_, rfl, _, rfl, _, _, rfl, rfl, _, _, rfl, rfl, rfl, ?_⟩
  show Q (.bl (decide (V.int (Builtin.bitAnd (4294967295 - (m : Int)) (4294967295 - (m : Int) + 1)) = V.int 0))) H
  rw [← mask_iff hm] at k
  rw [show (4294967295 - (m : Int)) = ((4294967295 - m : Nat) : Int) by omega, show (((4294967295 - m : Nat) : Int) + 1) = ((4294967295 - m + 1 : Nat) : Int) by omega, band, dec_int]
  have e : ((((4294967295 - m) &&& (4294967295 - m + 1) : Nat) : Int) == 0) = decide ((4294967295 - m) &&& (4294967295 - m + 1) = 0) := by
    rw [Bool.eq_iff_iff, beq_iff_eq, decide_eq_true_iff]
    omega
  rw [e]
  exact k
theorem pure_ask (T : Txt K mg A) (vs : List V) (H : Hp) (Q : VK) (E : XK) (h : sp_ask K A vs H Q E) : t_ask K A E (endOf Q) (start N_ask vs) H := by
  obtain ⟨b, rfl, k1, k2⟩ := h
  refine ⟨_, rfl, b, rfl, ?_⟩
  cases b with
  | true => exact ite_f rfl (k1 rfl)
  | false => exact ite_t rfl (k2 rfl)
theorem pure_whole_of (T : Txt K mg A) (vs : List V) (H : Hp) (Q : VK) (E : XK) (h : sp_whole_of K A vs H Q E) : t_whole_of K A (endOf Q) (start N_whole_of vs) H := by
  obtain ⟨q, l, rfl, hq, k⟩ := h
  refine ⟨_, rfl, q, rfl, ⟨_, SqL.of hq⟩, for_list (K := K) (a := q) (xs := nv l) (fun i σ H' => H' = H ∧ ∃ b : Option V, σ = [some (.ref q), some (.int (Sd22.high (l.take i) : Int)), b]) ⟨rfl, none, rfl⟩ (fun i σ H' _ ⟨e, _⟩ => by rw [e]; exact SqL.of hq) ?_ ?_⟩
  · rintro i y σ H' hi ⟨rfl, b, rfl⟩
    unfold nv at hi
    rw [List.getElem?_map] at hi
    cases c : l[i]? with
    | none => rw [c] at hi; cases hi
    | some z =>
      rw [c] at hi
      cases hi
      refine ⟨_, rfl, _, _, rfl, rfl, .inr ⟨by decide, by decide⟩, _, rfl, _, _, rfl, rfl, rfl, some (.int (z : Int)), ?_⟩
      rw [take_more c]
      have e : (Sd22.high (l.take i ++ [z]) : Int) = (Sd22.high (l.take i) : Int) * 256 + (z : Int) := by
        unfold Sd22.high
        rw [List.foldl_append]
        simp only [List.foldl_cons, List.foldl_nil]
        omega
      rw [e]
      rfl
  · rintro σ H' ⟨rfl, b, rfl⟩
    refine ⟨_, rfl, ?_⟩
    rw [nv_len, List.take_length]
    exact k
theorem pure_initR (T : Txt K mg A) (vs : List V) (H : Hp) (Q : VK) (E : XK) (h : sp_initR K A vs H Q E) : t_initR K A (endOf Q) (start N_initR vs) H := by
  obtain ⟨x, dx, k, y, rfl, hx, q⟩ := h
  refine ⟨_, rfl, _, rfl, x, _, dx, _, rfl, hx, T.cl_Reply, T.a_Reply_kind, (by show 0 < 1000; decide), ?_⟩
  refine ⟨_, rfl, _, rfl, x, _, dx, _, rfl, upd_same, T.cl_Reply, T.a_Reply_yours, (by show 1 < 1000; decide), ?_⟩
  show Q .non (upd (upd H x _) x _)
  rw [upd_upd, rpF_new]
  exact q
theorem pure_initD (T : Txt K mg A) (vs : List V) (H : Hp) (Q : VK) (E : XK) (h : sp_initD K A vs H Q E) : t_initD K A (endOf Q) (start N_initD vs) H := by
  obtain ⟨x, dx, rfl, hx, q⟩ := h
  refine ⟨_, rfl, x, _, dx, _, rfl, hx, T.cl_Desk, T.a_Desk_net, (by show 0 < 1000; decide), ?_⟩
  show Q .non (upd H x _)
  rw [dkF_new]
  exact q
/-- one more turn of a comprehension over a range -/
theorem be_given (n : Nat) (f : Nat → Bool) (hf : ∀ i, f i = true) (v : Nat → V) (m : Nat) : Evl.given m f v = (List.range m).map v := by
  unfold Evl.given
  rw [List.filter_eq_self.mpr fun a _ => hf a]
theorem byte_of (n i : Nat) (hi : i < 4) : Builtin.bitAnd ((n : Int) / 2 ^ ((8 : Int) * (4 - 1 - (i : Int))).toNat) 255 = ((n / 256 ^ (4 - 1 - i) % 256 : Nat) : Int) := by
  have e : ((8 : Int) * (4 - 1 - (i : Int))).toNat = 8 * (4 - 1 - i) := by omega
  rw [e, show ((2 : Int) ^ (8 * (4 - 1 - i))) = ((2 ^ (8 * (4 - 1 - i)) : Nat) : Int) by rw [Int.natCast_pow]; rfl, ← Int.natCast_ediv, show (255 : Int) = ((255 : Nat) : Int) from rfl, band, show (255 : Nat) = 2 ^ 8 - 1 from rfl, Nat.and_two_pow_sub_one_eq_mod, Nat.pow_mul]
theorem pure_row_of (T : Txt K mg A) (vs : List V) (H : Hp) (Q : VK) (E : XK) (h : sp_row_of K A vs H Q E) : t_row_of K A (endOf Q) (start N_row_of vs) H := by
  obtain ⟨n, rfl, k⟩ := h
  refine Evl.s_retL (Evl.el_lcR1 (fun _ => true) (fun i => .int ((n / 256 ^ (4 - 1 - i) % 256 : Nat) : Int)) (Evl.ea_cons (Evl.ev_var (v := .int 4) rfl) Evl.ea_nil) ⟨by decide, by decide⟩ (fun x => rfl) (fun i H1 _ _ => fun H2 e Q q => q H2 (Ex.refl H2)) (fun i H1 _ hi _ => ?_)) fun p H1 hp e h1 => ?_
  · have hi : i < 4 := by omega
    rw [← byte_of n i hi]
    exact Evl.ev_op (Evl.ev_op (Evl.ev_var (v := .int (n : Int)) rfl) (Evl.ev_op Evl.ev_c (Evl.ev_op (Evl.ev_op (Evl.ev_var (v := .int 4) rfl) Evl.ev_c Evl.rv_I0) (Evl.ev_var (v := .int (i : Int)) rfl) Evl.rv_I0) (Evl.rv_I (.inl ⟨by decide, by decide⟩))) (Evl.rv_I (by omega))) Evl.ev_c Evl.rv_I0
  · refine k p H1 hp e ?_
    rw [h1, be_given 0 _ (fun _ => rfl)]
    unfold nv Sd22.be
    rw [List.map_map]
    rfl
theorem pure_option (T : Txt K mg A) (vs : List V) (H : Hp) (Q : VK) (E : XK) (h : sp_option K A vs H Q E) : t_option K A (endOf Q) (start N_option vs) H := by
  obtain ⟨n, q, b, rfl, hq, hb, k⟩ := h
  have e1 : Ev (tVar 1) (start N_option [.int (n : Int), .ref q]) H (.ref q) := Evl.ev_var rfl
  refine Evl.s_retL (el_cat (EvL.s (Evl.el_lst (Evl.ea_cons (Evl.ev_var (v := .int (n : Int)) rfl) (Evl.ea_cons (ev_lenS (Ev.s e1 hq)) Evl.ea_nil)) (by show 2 ≤ 100000; decide))) (Ev.s e1 hq) (by rw [nv_len]; show 2 + b.length ≤ 100000; omega)) fun p H1 hp e h1 => k p H1 hp e ?_
  rw [h1, nv_len]
  rfl
theorem pure_address_option (T : Txt K mg A) (vs : List V) (H : Hp) (Q : VK) (E : XK) (h : sp_address_option K A vs H Q E) : t_address_option K A (endOf Q) (start N_address_option vs) H := by
  obtain ⟨n, a, rfl, k⟩ := h
  have e4 : (Sd22.be 4 a).length = 4 := by rw [be4]; rfl
  refine Evl.s_retL (el_callS (ss := [.val (.int (n : Int)), .lst (nv (Sd22.be 4 a))]) (as_val (Evl.ev_var rfl) (as_lst (EvL.s (el_callS (ss := [.val (.int (a : Int)), .val (.int 4)]) (as_val (Evl.ev_var rfl) (as_val Evl.ev_c as_nil)) ?_)) as_nil)) ?_) k
  · rintro H1 e xs ⟨_, _, rfl, rfl, _, _, rfl, rfl, rfl⟩ Q E q
    exact ⟨a, rfl, q⟩
  · rintro H1 e xs ⟨_, _, rfl, rfl, _, _, rfl, ⟨p, rfl, hp⟩, rfl⟩ Q E q
    exact ⟨n, p, _, rfl, hp, by omega, q⟩
theorem ok_initP {f : Addr} {fd : FuncData} (F : Fun K "__init__" "Place.__init__" s_initP f fd) (T : Txt K mg A) :
    FnOk P w K mg base CX0 1 f fd ["self", "address"] (sp_initP K A) := by
  refine F.ok sc_initP (fun vs H Q E h => len_initP h) (fun cdv A0 outer s H vs Q E hr h => ⟨t_initP K A, ?_, pure_initP T vs H Q E h⟩)
  exact pss_cons (ps_fld (pv 0) (pv 1) rfl)
      (pss_cons (ps_fld (pv 0) (pe_gc (by rfl) T.c_FREE) rfl)
      (pss_cons (ps_fld (pv 0) pe_int rfl)
      (pss_one (ps_fld (pv 0) pe_non rfl))))
theorem ok_Place_is_own {f : Addr} {fd : FuncData} (F : Fun K "is_own" "Place.is_own" s_Place_is_own f fd) (T : Txt K mg A) :
    FnOk P w K mg base CX0 1 f fd ["self", "who"] (sp_Place_is_own K A) := by
  refine F.ok sc_Place_is_own (fun vs H Q E h => len_Place_is_own h) (fun cdv A0 outer s H vs Q E hr h => ⟨t_Place_is_own K A, ?_, pure_Place_is_own T vs H Q E h⟩)
  exact pss_one (ps_ret (pe_and (pe_cmpR (op_eqD hr.units) (pe_fld (pv 0) rfl) (pv 1) (nomark _)) (pe_one (pe_cmpR op_ne (pe_fld (pv 0) rfl) (pe_gc (by rfl) T.c_REFUSED) (nomark _)))))
theorem ok_Place_is_free_at {f : Addr} {fd : FuncData} (F : Fun K "is_free_at" "Place.is_free_at" s_Place_is_free_at f fd) (T : Txt K mg A) :
    FnOk P w K mg base CX0 1 f fd ["self", "now"] (sp_Place_is_free_at K A) := by
  refine F.ok sc_Place_is_free_at (fun vs H Q E h => len_Place_is_free_at h) (fun cdv A0 outer s H vs Q E hr h => ⟨t_Place_is_free_at K A, ?_, pure_Place_is_free_at T vs H Q E h⟩)
  exact pss_one (ps_ret (pe_or (pe_cmpR op_eq (pe_fld (pv 0) rfl) (pe_gc (by rfl) T.c_FREE) (nomark _)) (pe_one (pe_cmpR op_le (pe_fld (pv 0) rfl) (pv 1) (nomark _)))))
theorem ok_Place_become {f : Addr} {fd : FuncData} (F : Fun K "become" "Place.become" s_Place_become f fd) (T : Txt K mg A) :
    FnOk P w K mg base CX0 1 f fd ["self", "state", "till"] (sp_Place_become K A) := by
  refine F.ok sc_Place_become (fun vs H Q E h => len_Place_become h) (fun cdv A0 outer s H vs Q E hr h => ⟨t_Place_become K A, ?_, pure_Place_become T vs H Q E h⟩)
  exact pss_cons (ps_fld (pv 0) (pv 1) rfl)
      (pss_one (ps_fld (pv 0) (pv 2) rfl))
theorem ok_is_mask {f : Addr} {fd : FuncData} (F : Fun K "is_mask" "is_mask" s_is_mask f fd) (T : Txt K mg A) :
    FnOk P w K mg base CX0 1 f fd ["mask"] (sp_is_mask K A) := by
  refine F.ok sc_is_mask (fun vs H Q E h => len_is_mask h) (fun cdv A0 outer s H vs Q E hr h => ⟨t_is_mask K A, ?_, pure_is_mask T vs H Q E h⟩)
  exact pss_cons (ps_set (i := 1) sc_is_mask.nd rfl (Or.inl rfl) (pe_op op_sub (pe_gc (by rfl) T.c_ALL_ONES) (pv 0)))
      (pss_one (ps_ret (pe_cmpR op_eq (pe_op op_and (pv 1) (pe_op op_add (pv 1) pe_int)) pe_int (nomark _))))
theorem ok_ask {f : Addr} {fd : FuncData} (F : Fun K "ask" "ask" s_ask f fd) (T : Txt K mg A) :
    FnOk P w K mg base (L2.CX P w) 1 f fd ["good"] (sp_ask K A) := by
  refine F.okX sc_ask (fun vs H Q E h => len_ask h) (fun cdv A0 outer s H vs Q E hr h => ⟨t_ask K A E, ?_, pure_ask T vs H Q E h⟩)
  exact pss_one (ps_if (pt_not (pt_val (pv 0))) (pss_one (ps_raise rfl (takes_of rfl rfl rfl rfl) (pmk_own PySem.F.excBase_ValueError T.xF T.gF T.kF (raises_own T.bF T.tF) (by exact rfl)))) pss_nil)
theorem ok_whole_of {f : Addr} {fd : FuncData} (F : Fun K "whole_of" "whole_of" s_whole_of f fd) (T : Txt K mg A) :
    FnOk P w K mg base CX0 1 f fd ["row"] (sp_whole_of K A) := by
  refine F.ok sc_whole_of (fun vs H Q E h => len_whole_of h) (fun cdv A0 outer s H vs Q E hr h => ⟨t_whole_of K A, ?_, pure_whole_of T vs H Q E h⟩)
  exact pss_cons (ps_set (i := 1) sc_whole_of.nd rfl (Or.inl rfl) pe_int)
      (pss_cons (ps_for PassesOwn.never rfl (pi_list (pv 0)) (pg_name (i := 2) sc_whole_of.nd rfl (Or.inl rfl)) (pss_one (ps_set (i := 1) sc_whole_of.nd rfl (Or.inl rfl) (pe_op op_add (pe_op op_mul (pv 1) pe_int) (pv 2)))))
      (pss_one (ps_ret (pv 1))))
theorem ok_row_of {f : Addr} {fd : FuncData} (F : Fun K "row_of" "row_of" s_row_of f fd) (T : Txt K mg A) :
    FnOk P w K mg base CX0 1 f fd ["number", "many"] (sp_row_of K A) := by
  refine F.ok sc_row_of (fun vs H Q E h => len_row_of h) (fun cdv A0 outer s H vs Q E hr h => ⟨t_row_of K A, ?_, pure_row_of T vs H Q E h⟩)
  exact pss_one (ps_ret (pe_lc (own := [("at", 2)]) (g := gName 2) (by rfl) sc_row_of.nd (pi_range1 (by rfl) T.n_range (pa_cons (pv 1) pa_nil)) (blkOk_by (own := [("at", 2)]) (N := N_row_of) (sc := defScope s_row_of) (by decide +kernel)) (fun _ _ _ _ _ => pg_name (i := 2) sc_row_of.nd rfl (Or.inl rfl)) (fun _ _ _ _ _ => pts_nil) (fun _ _ _ _ _ => (pe_op op_and (pe_op op_shr (pv 0) (pe_op op_mul pe_int (pe_op op_sub (pe_op op_sub (pv 1) pe_int) (pv 2)))) pe_int))))
theorem ok_initR {f : Addr} {fd : FuncData} (F : Fun K "__init__" "Reply.__init__" s_initR f fd) (T : Txt K mg A) :
    FnOk P w K mg base CX0 1 f fd ["self", "kind", "yours"] (sp_initR K A) := by
  refine F.ok sc_initR (fun vs H Q E h => len_initR h) (fun cdv A0 outer s H vs Q E hr h => ⟨t_initR K A, ?_, pure_initR T vs H Q E h⟩)
  exact pss_cons (ps_fld (pv 0) (pv 1) rfl)
      (pss_one (ps_fld (pv 0) (pv 2) rfl))
theorem ok_initD {f : Addr} {fd : FuncData} (F : Fun K "__init__" "Desk.__init__" s_initD f fd) (T : Txt K mg A) :
    FnOk P w K mg base CX0 1 f fd ["self"] (sp_initD K A) := by
  refine F.ok sc_initD (fun vs H Q E h => len_initD h) (fun cdv A0 outer s H vs Q E hr h => ⟨t_initD K A, ?_, pure_initD T vs H Q E h⟩)
  exact pss_one (ps_fld (pv 0) pe_non rfl)
theorem ok_option {f : Addr} {fd : FuncData} (F : Fun K "option" "option" s_option f fd) (T : Txt K mg A) :
    FnOk P w K mg base CX0 1 f fd ["number", "given"] (sp_option K A) := by
  refine F.ok sc_option (fun vs H Q E h => len_option h) (fun cdv A0 outer s H vs Q E hr h => ⟨t_option K A, ?_, pure_option T vs H Q E h⟩)
  exact pss_one (ps_ret (pe_op op_catS (pe_lst (pa_cons (pv 0) (pa_cons (pe_callB call_len_seq (by rfl) T.n_len PySem.boot_len (pa_cons (pv 1) pa_nil)) pa_nil))) (pv 1)))
theorem ok_address_option {f : Addr} {fd : FuncData} (F : Fun K "address_option" "address_option" s_address_option f fd) (T : Txt K mg A)
    (c1 : Cal P w K mg base CX0 1 "option" ["number", "given"] (sp_option K A))
    (c2 : Cal P w K mg base CX0 1 "row_of" ["number", "many"] (sp_row_of K A)) :
    FnOk P w K mg base CX0 2 f fd ["number", "address"] (sp_address_option K A) := by
  obtain ⟨f1, d1, F1, g1, m1, b1⟩ := c1
  obtain ⟨f2, d2, F2, g2, m2, b2⟩ := c2
  refine F.ok sc_address_option (fun vs H Q E h => len_address_option h) (fun cdv A0 outer s H vs Q E hr h => ⟨t_address_option K A, ?_, pure_address_option T vs H Q E h⟩)
  have hr1 : Room 1 _ := hr.mono (by decide)
  have hr2 : Room 1 _ := hr.mono (by decide)
  exact pss_one (ps_ret (pe_call F1 hr1 (by rfl) g1 m1 b1 .nil pass0 (pa_cons (pv 0) (pa_cons (pe_call F2 hr2 (by rfl) g2 m2 b2 .nil pass0 (pa_cons (pv 1) (pa_cons pe_int pa_nil))) pa_nil))))
end
end Lp
namespace Lp
open PySem PySem.Spec PyProof.Rows L2
open Evl (Ex Ev EvT EvA EvO EvL RetL)
section
variable {P : Program} {w : World} {K : PySem.W.Frag} {mg : Str → Option Value} {base : Heap} {A : Ad}
theorem len_Net_place_of {vs : List V} {H : Hp} {Q : VK} {E : XK} (h : sp_Net_place_of K A vs H Q E) : vs.length = 2 := by
  obtain ⟨_, _, _, _, _, _, rfl, _⟩ := h
  rfl
theorem len_Net_is_near {vs : List V} {H : Hp} {Q : VK} {E : XK} (h : sp_Net_is_near K A vs H Q E) : vs.length = 2 := by
  obtain ⟨_, _, _, _, _, _, rfl, _⟩ := h
  rfl
theorem len_Net_own_place {vs : List V} {H : Hp} {Q : VK} {E : XK} (h : sp_Net_own_place K A vs H Q E) : vs.length = 2 := by
  obtain ⟨_, _, _, _, _, _, _, rfl, _⟩ := h
  rfl
theorem len_Net_free_places {vs : List V} {H : Hp} {Q : VK} {E : XK} (h : sp_Net_free_places K A vs H Q E) : vs.length = 1 := by
  obtain ⟨_, _, _, _, _, rfl, _⟩ := h
  rfl
theorem len_Net_lend {vs : List V} {H : Hp} {Q : VK} {E : XK} (h : sp_Net_lend K A vs H Q E) : vs.length = 2 := by
  obtain ⟨_, _, _, _, _, _, _, _, _, _, _, rfl, _⟩ := h
  rfl
/-! ## reading a net, a place -/
theorem rd_net {fl a pl : Addr} {H : Hp} {s : Sd22.Abs} {as : List Addr} {σ : L2.St} {i : Nat} {f : Str} {v : V} {Q : VK} (T : Txt K mg A) (hs : σ[i]? = some (some (.ref a))) (N : NetAt A fl H a s pl as) (n : NoAttr K A.n f) (l : (netF s.net s.now pl).lookup f = some v) (q : Q v H) : tFld K (tVar i) f σ H Q := by
  obtain ⟨dx, h⟩ := N.obj
  exact ⟨_, hs, a, A.n, dx, _, v, rfl, h, T.cl_Net, n, l, q⟩
theorem ev_net {fl a pl : Addr} {H : Hp} {s : Sd22.Abs} {as : List Addr} {σ : L2.St} {te : TE} {f : Str} {v : V} (T : Txt K mg A) (h : Ev te σ H (.ref a)) (N : NetAt A fl H a s pl as) (n : NoAttr K A.n f) (l : (netF s.net s.now pl).lookup f = some v) : Ev (tFld K te f) σ H v := by
  obtain ⟨dx, hh⟩ := N.obj
  exact ev_fld h hh T.cl_Net n l
theorem map_ref_get {as : List Addr} {i : Nat} {y : V} (h : (as.map V.ref)[i]? = some y) : ∃ p, as[i]? = some p ∧ y = .ref p := by
  rw [List.getElem?_map] at h
  cases e : as[i]? with
  | none => rw [e] at h; cases h
  | some p => rw [e] at h; cases h; exact ⟨p, rfl, rfl⟩
theorem plV_some {as : List Addr} {i : Nat} {p : Addr} (h : as[i]? = some p) : plV as (some i) = .ref p := by
  unfold plV
  dsimp only
  rw [h]
theorem place_some {s : Sd22.Abs} {x i : Nat} (h : s.place x = some i) : s.net.first ≤ x ∧ x < s.net.first + s.net.count ∧ i = x - s.net.first := by
  unfold Sd22.Abs.place at h
  split at h
  · rename_i c
    cases h
    exact ⟨c.1, c.2, rfl⟩
  · cases h
theorem place_none {s : Sd22.Abs} {x : Nat} (h : ¬ (s.net.first ≤ x ∧ x < s.net.first + s.net.count)) : s.place x = none := if_neg h
theorem pure_Net_place_of (T : Txt K mg A) (vs : List V) (H : Hp) (Q : VK) (E : XK) (h : sp_Net_place_of K A vs H Q E) : t_Net_place_of K A (endOf Q) (start N_Net_place_of vs) H := by
  obtain ⟨fl, a, s, pl, as, o, rfl, N, k⟩ := h
  cases o with
  | none =>
    refine ⟨.non, rfl, rfl, _, rfl, ?_⟩
    exact k
  | some x =>
    refine ⟨.int (x : Int), rfl, rfl, _, rfl, ?_⟩
    refine ite_f rfl ?_
    refine ⟨_, rfl, ?_⟩
    refine rd_net T rfl N T.a_Net_first (netF_first _ _ _) ⟨_, _, rfl, rfl, _, rfl, ?_⟩
    by_cases h1 : x < s.net.first
    · refine ite_t (decide_eq_true (by omega)) ?_
      have e : s.place x = none := place_none (by omega)
      rw [show (some x).bind s.place = s.place x from rfl, e] at k
      exact k
    · refine ite_f (decide_eq_false (by omega)) ?_
      refine ⟨_, rfl, ?_⟩
      refine rd_net T rfl N T.a_Net_first (netF_first _ _ _) ?_
      refine rd_net T rfl N T.a_Net_places (netF_places _ _ _) ⟨pl, _, rfl, .inl (SqL.of N.lst), _, _, rfl, rfl, _, _, rfl, rfl, _, rfl, ?_⟩
      rw [List.length_map, N.len]
      by_cases h2 : x < s.net.first + s.net.count
      · refine ite_f (decide_eq_false (by omega)) ?_
        refine ite_f (A := False) rfl ?_
        have e : s.place x = some (x - s.net.first) := if_pos ⟨by omega, h2⟩
        obtain ⟨p, hp⟩ := N.get (i := x - s.net.first) (by omega)
        rw [show (some x).bind s.place = s.place x from rfl, e, plV_some hp] at k
        obtain ⟨dn, hn⟩ := N.obj
        refine ⟨_, rfl, a, _, dn, _, _, rfl, hn, T.cl_Net, T.a_Net_places, netF_places _ _ _, _, rfl, _, rfl, a, _, dn, _, _, rfl, hn, T.cl_Net, T.a_Net_first, netF_first _ _ _, _, _, rfl, rfl, pl, _, _, .ref p, rfl, rfl, SqL.of N.lst, ?_, k⟩
        refine at_of (j := x - s.net.first) (by omega) ?_
        rw [List.getElem?_map, hp]
        rfl
      · refine ite_t (decide_eq_true (by omega)) ?_
        have e : s.place x = none := place_none (by omega)
        rw [show (some x).bind s.place = s.place x from rfl, e] at k
        exact k
theorem pure_Net_is_near (T : Txt K mg A) (vs : List V) (H : Hp) (Q : VK) (E : XK) (h : sp_Net_is_near K A vs H Q E) : t_Net_is_near K A (endOf Q) (start N_Net_is_near vs) H := by
  obtain ⟨fl, a, s, pl, as, x, rfl, N, k⟩ := h
  refine ⟨_, rfl, ?_⟩
  refine rd_net T rfl N T.a_Net_mask (netF_mask _ _ _) ⟨_, _, rfl, rfl, ?_⟩
  refine rd_net T rfl N T.a_Net_server (netF_server _ _ _) ?_
  refine rd_net T rfl N T.a_Net_mask (netF_mask _ _ _) ⟨_, _, rfl, rfl, rfl, ?_⟩
  rw [dec_int, band, band]
  have e : (((x &&& s.net.mask : Nat) : Int) == ((s.net.server &&& s.net.mask : Nat) : Int)) = Sd22.sameNet s x := by
    unfold Sd22.sameNet
    rw [Bool.eq_iff_iff, beq_iff_eq, beq_iff_eq]
    exact Int.ofNat_inj
  rw [e]
  exact k
theorem mine_none {s : Sd22.Abs} {w : List Nat} (h : ∀ j, j < s.net.count → s.holds j w = false) : s.mine w = none := find_range_none h
theorem mine_some {s : Sd22.Abs} {w : List Nat} {i : Nat} (hi : i < s.net.count) (h : s.holds i w = true) (hj : ∀ j, j < i → s.holds j w = false) : s.mine w = some i := find_range_some hi h hj
theorem pure_Net_own_place (T : Txt K mg A) (vs : List V) (H : Hp) (Q : VK) (E : XK) (h : sp_Net_own_place K A vs H Q E) : t_Net_own_place K A (endOf Q) (start N_Net_own_place vs) H := by
  obtain ⟨fl, a, s, pl, as, q, w, rfl, N, hq, hw, k⟩ := h
  obtain ⟨dn, hn⟩ := N.obj
  refine ⟨_, rfl, a, _, dn, _, _, rfl, hn, T.cl_Net, T.a_Net_places, netF_places _ _ _, pl, rfl, ⟨_, SqL.of N.lst⟩, for_list (K := K) (a := pl) (xs := as.map V.ref) (fun i σ H' => H' = H ∧ (∀ j, j < i → s.holds j w = false) ∧ ∃ v : Option V, σ = [some (.ref a), some (.ref q), v])
    ⟨rfl, fun j hj => absurd hj (Nat.not_lt_zero j), none, rfl⟩ (fun i σ H' _ ⟨e, _⟩ => by rw [e]; exact SqL.of N.lst) ?_ ?_⟩
  · rintro i y σ H' hi ⟨rfl, hj, v, rfl⟩
    obtain ⟨p, hp, rfl⟩ := map_ref_get hi
    have hpl := N.at_ i p hp
    obtain ⟨dx, o, h1, h2⟩ := hpl
    refine ⟨_, rfl, p, dx, _, rfl, h1, plF_no_is_own _ _ _ _, _, rfl, fl, p, q, _, _, w, rfl, ⟨dx, o, h1, h2⟩, hq, hw, _, rfl, ?_⟩
    cases c : ((s.at_ i).who == w && (s.at_ i).state != 3) with
    | true =>
      refine ite_t rfl ⟨_, rfl, ?_⟩
      rw [mine_some (N.lt hp) c hj, plV_some hp] at k
      exact k
    | false =>
      refine ite_f rfl ⟨rfl, fun j hj2 => ?_, some (.ref p), rfl⟩
      by_cases e : j = i
      · rw [e]
        exact c
      · exact hj j (by omega)
  · rintro σ H' ⟨rfl, hj, v, rfl⟩
    rw [List.length_map, N.len] at hj
    rw [mine_none hj] at k
    exact k
theorem pure_Net_free_places (T : Txt K mg A) (vs : List V) (H : Hp) (Q : VK) (E : XK) (h : sp_Net_free_places K A vs H Q E) : t_Net_free_places K A (endOf Q) (start N_Net_free_places vs) H := by
  obtain ⟨fl, a, s, pl, as, rfl, N, k⟩ := h
  have hz : (as.map V.ref).length = s.net.count := by rw [List.length_map, N.len]
  refine Evl.s_retL (Evl.el_lcL (fun i => s.free i) (fun i => plV as (some i)) (ev_net T (Evl.ev_var rfl) N T.a_Net_places (netF_places _ _ _)) (SqL.of N.lst) (by rw [hz]; have := N.ok.c2; omega) (fun x => rfl) (fun i x H1 e hx => ?_) (fun i x H1 e hx _ => ?_)) fun p H1 hp e h1 => k p H1 hp e ?_
  · obtain ⟨p, hp, rfl⟩ := map_ref_get hx
    have N1 := N.mono e
    obtain ⟨dx, o, h1, h2⟩ := N1.at_ i p hp
    refine Evl.et_B (ev_methS (ss := [.val (.int (s.now : Int))]) (Evl.ev_var rfl) h1 (plF_no_is_free_at _ _ _ _) (as_val (ev_net T (Evl.ev_var rfl) N1 T.a_Net_now (netF_now _ _ _)) as_nil) ?_)
    rintro H2 e2 xs ⟨_, _, rfl, rfl, _, _, rfl, rfl, rfl⟩ Q E q
    exact ⟨fl, p, _, _, s.now, rfl, (N1.mono e2).at_ i p hp, q H2 (Ex.refl H2)⟩
  · obtain ⟨p, hp, rfl⟩ := map_ref_get hx
    show Ev (tVar 1) _ H1 (plV as (some i))
    rw [plV_some hp]
    exact Evl.ev_var rfl
  · rw [h1, hz]
    rfl
theorem pure_Net_lend (T : Txt K mg A) (vs : List V) (H : Hp) (Q : VK) (E : XK) (h : sp_Net_lend K A vs H Q E) : t_Net_lend K A (endOf Q) (start N_Net_lend vs) H := by
  obtain ⟨fl, a, s, pl, as, p, dx, ad, st, ti, o, rfl, N, hp, k⟩ := h
  obtain ⟨dn, hn⟩ := N.obj
  refine ⟨_, rfl, p, dx, _, rfl, hp, plF_no_become _ _ _ _, _, rfl, a, _, dn, _, _, rfl, hn, T.cl_Net, T.a_Net_now, netF_now _ _ _, _, rfl, a, _, dn, _, _, rfl, hn, T.cl_Net, T.a_Net_long, netF_long _ _ _, _, _, rfl, rfl, ?_⟩
  exact ⟨p, dx, ad, st, ti, o, 2, s.now + s.net.time, rfl, hp, k⟩
theorem ok_Net_place_of {f : Addr} {fd : FuncData} (F : Fun K "place_of" "Net.place_of" s_Net_place_of f fd) (T : Txt K mg A) :
    FnOk P w K mg base CX0 1 f fd ["self", "address"] (sp_Net_place_of K A) := by
  refine F.ok sc_Net_place_of (fun vs H Q E h => len_Net_place_of h) (fun cdv A0 outer s H vs Q E hr h => ⟨t_Net_place_of K A, ?_, pure_Net_place_of T vs H Q E h⟩)
  exact pss_cons (ps_if (PW.pt (pw_or (pt_cmpR op_isN (pv 1) pe_non (nomark _)) (pw_or (pt_cmpR op_lt (pv 1) (pe_fld (pv 0) rfl) (nomark _)) (pw_or1 (pt_cmpR op_ge (pv 1) (pe_op op_add (pe_fld (pv 0) rfl) (pe_callB call_len_seq (by rfl) T.n_len PySem.boot_len (pa_cons (pe_fld (pv 0) rfl) pa_nil))) (nomark _)))))) (pss_one (ps_ret pe_non)) pss_nil)
      (pss_one (ps_ret (pe_ix ix_list (pe_fld (pv 0) rfl) (pe_op op_sub (pv 1) (pe_fld (pv 0) rfl)) (fun _ _ => rfl))))
theorem ok_Net_is_near {f : Addr} {fd : FuncData} (F : Fun K "is_near" "Net.is_near" s_Net_is_near f fd) (T : Txt K mg A) :
    FnOk P w K mg base CX0 1 f fd ["self", "address"] (sp_Net_is_near K A) := by
  refine F.ok sc_Net_is_near (fun vs H Q E h => len_Net_is_near h) (fun cdv A0 outer s H vs Q E hr h => ⟨t_Net_is_near K A, ?_, pure_Net_is_near T vs H Q E h⟩)
  exact pss_one (ps_ret (pe_cmpR op_eq (pe_op op_and (pv 1) (pe_fld (pv 0) rfl)) (pe_op op_and (pe_fld (pv 0) rfl) (pe_fld (pv 0) rfl)) (nomark _)))
theorem ok_Net_own_place {f : Addr} {fd : FuncData} (F : Fun K "own_place" "Net.own_place" s_Net_own_place f fd) (T : Txt K mg A)
    (c1 : CalM P w K mg base CX0 1 A.p "is_own" ["self", "who"] (sp_Place_is_own K A)) :
    FnOk P w K mg base CX0 2 f fd ["self", "who"] (sp_Net_own_place K A) := by
  obtain ⟨f1, d1, F1, m1, b1⟩ := c1
  refine F.ok sc_Net_own_place (fun vs H Q E h => len_Net_own_place h) (fun cdv A0 outer s H vs Q E hr h => ⟨t_Net_own_place K A, ?_, pure_Net_own_place T vs H Q E h⟩)
  have hr1 : Room 1 _ := hr.mono (by decide)
  exact pss_cons (ps_for PassesOwn.never rfl (pi_list (pe_fld (pv 0) rfl)) (pg_name (i := 2) sc_Net_own_place.nd rfl (Or.inl rfl)) (pss_one (ps_if (pt_val (pe_meth (pv 2) T.cl_Place m1 F1 hr1 b1 .nil pass0 (pa_cons (pv 1) pa_nil))) (pss_one (ps_ret (pv 2))) pss_nil)))
      (pss_one (ps_ret pe_non))
theorem ok_Net_free_places {f : Addr} {fd : FuncData} (F : Fun K "free_places" "Net.free_places" s_Net_free_places f fd) (T : Txt K mg A)
    (c1 : CalM P w K mg base CX0 1 A.p "is_free_at" ["self", "now"] (sp_Place_is_free_at K A)) :
    FnOk P w K mg base CX0 2 f fd ["self"] (sp_Net_free_places K A) := by
  obtain ⟨f1, d1, F1, m1, b1⟩ := c1
  refine F.ok sc_Net_free_places (fun vs H Q E h => len_Net_free_places h) (fun cdv A0 outer s H vs Q E hr h => ⟨t_Net_free_places K A, ?_, pure_Net_free_places T vs H Q E h⟩)
  have hr1 : Room 1 _ := hr.mono (by decide)
  exact pss_one (ps_ret (pe_lc (own := [("place", 1)]) (g := gName 1) (by rfl) sc_Net_free_places.nd (pi_list (pe_fld (pv 0) rfl)) (blkOk_by (own := [("place", 1)]) (N := N_Net_free_places) (sc := defScope s_Net_free_places) (by decide +kernel)) (fun _ _ _ _ _ => pg_name (i := 1) sc_Net_free_places.nd rfl (Or.inl rfl)) (fun _ _ _ _ _ => (pts_one (pt_val (pe_meth (pv 1) T.cl_Place m1 F1 hr1 b1 .nil pass0 (pa_cons (pe_fld (pv 0) rfl) pa_nil))))) (fun _ _ _ _ _ => (pv 1))))
theorem ok_Net_lend {f : Addr} {fd : FuncData} (F : Fun K "lend" "Net.lend" s_Net_lend f fd) (T : Txt K mg A)
    (c1 : CalM P w K mg base CX0 1 A.p "become" ["self", "state", "till"] (sp_Place_become K A)) :
    FnOk P w K mg base CX0 2 f fd ["self", "place"] (sp_Net_lend K A) := by
  obtain ⟨f1, d1, F1, m1, b1⟩ := c1
  refine F.ok sc_Net_lend (fun vs H Q E h => len_Net_lend h) (fun cdv A0 outer s H vs Q E hr h => ⟨t_Net_lend K A, ?_, pure_Net_lend T vs H Q E h⟩)
  have hr1 : Room 1 _ := hr.mono (by decide)
  exact pss_one (ps_expr (pe_meth (pv 1) T.cl_Place m1 F1 hr1 b1 .nil pass0 (pa_cons (pe_gc (by rfl) T.c_LENT) (pa_cons (pe_op op_add (pe_fld (pv 0) rfl) (pe_fld (pv 0) rfl)) pa_nil))))
end
end Lp
namespace Lp
open PySem PySem.Spec PyProof.Rows L2
open Evl (Ex Ev EvT EvA EvO EvL RetL)
section
variable {P : Program} {w : World} {K : PySem.W.Frag} {mg : Str → Option Value} {base : Heap} {A : Ad}
theorem len_Net_unoffer {vs : List V} {H : Hp} {Q : VK} {E : XK} (h : sp_Net_unoffer K A vs H Q E) : vs.length = 2 := by
  obtain ⟨_, _, _, _, _, _, _, rfl, _⟩ := h
  rfl
theorem len_longest_over {vs : List V} {H : Hp} {Q : VK} {E : XK} (h : sp_longest_over K A vs H Q E) : vs.length = 1 := by
  obtain ⟨_, _, _, _, _, _, _, rfl, _⟩ := h
  rfl
theorem len_chosen {vs : List V} {H : Hp} {Q : VK} {E : XK} (h : sp_chosen K A vs H Q E) : vs.length = 3 := by
  obtain ⟨_, _, _, _, _, _, _, _, rfl, _⟩ := h
  rfl
/-! ## unoffer -/
theorem drop_atG {α : Type} {l : List α} {i : Nat} {c : α} (h : l[i]? = some c) : l.drop i = c :: l.drop (i + 1) := by
  obtain ⟨h1, h2⟩ := List.getElem?_eq_some_iff.mp h
  rw [List.drop_eq_getElem_cons h1, h2]
def unF (s : Sd22.Abs) (w : List Nat) (l : Sd22.Lease) : Sd22.Lease := if l.state = 1 ∧ l.who = w then { l with state := 0, until_ := s.now } else l
def unI (s : Sd22.Abs) (w : List Nat) (i : Nat) : Sd22.Abs := { s with leases := (s.leases.take i).map (unF s w) ++ s.leases.drop i }
theorem unI_zero (s : Sd22.Abs) (w : List Nat) : unI s w 0 = s := by
  unfold unI
  simp
theorem unI_all (s : Sd22.Abs) (w : List Nat) {n : Nat} (h : s.leases.length ≤ n) : unI s w n = unofferR s w := by
  unfold unI unofferR
  rw [List.take_of_length_le h, List.drop_eq_nil_of_le h, List.append_nil]
  rfl
theorem unI_at (s : Sd22.Abs) (w : List Nat) {i : Nat} (h : i < s.leases.length) : (unI s w i).at_ i = s.at_ i := by
  unfold unI Sd22.Abs.at_
  show ((s.leases.take i).map (unF s w) ++ s.leases.drop i).getD i Sd22.none_ = s.leases.getD i Sd22.none_
  rw [List.getD_eq_getElem?_getD, List.getD_eq_getElem?_getD, List.getElem?_append_right (by rw [List.length_map, List.length_take]; omega), List.length_map, List.length_take, List.getElem?_drop]
  rw [show i + (i - min i s.leases.length) = i by omega]
theorem unI_next (s : Sd22.Abs) (w : List Nat) {i : Nat} (h : i < s.leases.length) : unI s w (i + 1) = (unI s w i).set i (unF s w (s.at_ i)) := by
  have g : s.leases[i]? = some (s.at_ i) := by
    unfold Sd22.Abs.at_
    rw [List.getD_eq_getElem?_getD, List.getElem?_eq_getElem h]
    rfl
  unfold unI Sd22.Abs.set
  show Sd22.Abs.mk _ _ _ = Sd22.Abs.mk _ _ _
  congr 1
  rw [take_more g, drop_atG g, List.map_append, List.set_append_right _ _ (by rw [List.length_map, List.length_take]; omega), List.length_map, List.length_take, show i - min i s.leases.length = 0 by omega]
  simp
theorem pure_Net_unoffer (T : Txt K mg A) (vs : List V) (H : Hp) (Q : VK) (E : XK) (h : sp_Net_unoffer K A vs H Q E) : t_Net_unoffer K A (endOf Q) (start N_Net_unoffer vs) H := by
  obtain ⟨fl, a, s, pl, as, q, w, rfl, N, hq, hw, k⟩ := h
  obtain ⟨dn, hn⟩ := N.obj
  refine ⟨_, rfl, a, _, dn, _, _, rfl, hn, T.cl_Net, T.a_Net_places, netF_places _ _ _, pl, rfl, ⟨_, SqL.of N.lst⟩, for_list (K := K) (a := pl) (xs := as.map V.ref)
    (fun i σ H' => NetAt A fl H' a (unI s w i) pl as ∧ Kp H H' ∧ ∃ v : Option V, σ = [some (.ref a), some (.ref q), v]) ⟨by rw [unI_zero]; exact N, Kp.of (Ex.refl H), none, rfl⟩ (fun i σ H' _ ⟨N', _⟩ => SqL.of N'.lst) ?_ ?_⟩
  · rintro i y σ H' hi ⟨N', kp, v, rfl⟩
    obtain ⟨p, hp, rfl⟩ := map_ref_get hi
    have hil : i < s.leases.length := by rw [N.lenL]; exact N.lt hp
    obtain ⟨dx, o, h1, h2⟩ := N'.at_ i p hp
    have hpl : PlAt A.p fl H' p ((unI s w i).net.first + i) ((unI s w i).at_ i) := ⟨dx, o, h1, h2⟩
    have hs1 : unI s w (i + 1) = (unI s w i).set i (unF s w (s.at_ i)) := unI_next s w hil
    rw [unI_at s w hil] at h1 h2 hpl
    obtain ⟨d, hd, sd, he⟩ := own_dp (K := K) h2
    have stay : (¬ ((s.at_ i).state = 1 ∧ (s.at_ i).who = w)) → NetAt A fl H' a (unI s w (i + 1)) pl as := fun c => by
      have e1 : unF s w (s.at_ i) = s.at_ i := if_neg c
      rw [hs1, e1, N'.same_set hp (unI_at s w hil)]
      exact N'
    refine ⟨_, rfl, p, _, dx, _, _, rfl, h1, T.cl_Place, T.a_Place_state, plF_state _ _ _ _, rfl, _, rfl, ?_⟩
    by_cases c : (s.at_ i).state = 1
    · refine ite_t (by rw [decide_eq_true_iff, c]; rfl) ?_
      refine ⟨_, rfl, p, _, dx, _, _, rfl, h1, T.cl_Place, T.a_Place_owner, plF_owner _ _ _ _, _, rfl, d, _, hd, dp_nv (SqL.of (kp.lst hq)), sd, shaped_ints _, _, rfl, ?_⟩
      rw [he w hw]
      by_cases c2 : (s.at_ i).who = w
      · refine ite_t (by rw [beq_iff_eq]; exact c2) ?_
        obtain ⟨dn', hn'⟩ := N'.obj
        refine ⟨_, rfl, p, dx, _, rfl, h1, plF_no_become _ _ _ _, _, rfl, a, _, dn', _, _, rfl, hn', T.cl_Net, T.a_Net_now, netF_now _ _ _, ?_⟩
        refine ⟨p, dx, _, _, _, o, 0, s.now, rfl, h1, ?_⟩
        have e1 : unF s w (s.at_ i) = { s.at_ i with state := 0, until_ := s.now } := if_pos ⟨c, c2⟩
        refine ⟨?_, kp.trans (Kp.put h1), some (.ref p), rfl⟩
        rw [hs1, e1]
        exact N'.put (l := { s.at_ i with state := 0, until_ := s.now }) hp h1 h2
      · refine ite_f (by rw [beq_eq_false_iff_ne]; exact c2) ?_
        exact ⟨stay fun z => c2 z.2, kp, some (.ref p), rfl⟩
    · refine ite_f (by rw [decide_eq_false_iff_not]; intro z; injection z with z; omega) ?_
      exact ⟨stay fun z => c z.1, kp, some (.ref p), rfl⟩
  · rintro σ H' ⟨N', kp, v, rfl⟩
    rw [List.length_map, N.len, unI_all s w (by rw [N.lenL]; exact Nat.le_refl _)] at N'
    exact k H' N' kp
/-! ## longest_over, chosen -/
theorem older_some (s : Sd22.Abs) (m : Option Nat) (i : Nat) : older s m i = some i ∨ ∃ j, m = some j ∧ older s m i = some j := by
  unfold older
  cases m with
  | none => exact .inl rfl
  | some j =>
    dsimp only
    split
    · exact .inl rfl
    · exact .inr ⟨j, rfl, rfl⟩
theorem pure_longest_over (T : Txt K mg A) (vs : List V) (H : Hp) (Q : VK) (E : XK) (h : sp_longest_over K A vs H Q E) : t_longest_over K A (endOf Q) (start N_longest_over vs) H := by
  obtain ⟨fl, a, s, pl, as, q, l, rfl, N, hq, hl, k⟩ := h
  refine ⟨_, rfl, q, rfl, ⟨_, SqL.of hq⟩, for_list (K := K) (a := q) (xs := l.map fun i => plV as (some i)) (fun i σ H' => H' = H ∧ (∀ j, (l.take i).foldl (older s) none = some j → j < s.net.count) ∧ ∃ v : Option V, σ = [some (.ref q), some (plV as ((l.take i).foldl (older s) none)), v])
    ⟨rfl, fun j hj => by simp at hj, none, rfl⟩ (fun i σ H' _ ⟨e, _⟩ => by rw [e]; exact SqL.of hq) ?_ ?_⟩
  · rintro i y σ H' hi ⟨rfl, hm, v, rfl⟩
    rw [List.getElem?_map] at hi
    cases c : l[i]? with
    | none => rw [c] at hi; cases hi
    | some x =>
      rw [c] at hi
      cases hi
      have hx : x < s.net.count := hl x (List.mem_of_getElem? c)
      obtain ⟨p, hp⟩ := N.get hx
      obtain ⟨dx, o, h1, h2⟩ := N.at_ x p hp
      have e : (l.take (i + 1)).foldl (older s) none = older s ((l.take i).foldl (older s) none) x := by
        rw [take_more c, List.foldl_append]
        rfl
      have hm2 : ∀ j, (l.take (i + 1)).foldl (older s) none = some j → j < s.net.count := fun j hj => by
        rw [e] at hj
        rcases older_some s ((l.take i).foldl (older s) none) x with z | ⟨j', z1, z2⟩
        · rw [z] at hj
          cases hj
          exact hx
        · rw [z2] at hj
          cases hj
          exact hm _ z1
      refine ⟨_, rfl, rfl, _, rfl, ?_⟩
      cases c2 : (l.take i).foldl (older s) none with
      | none =>
        refine ite_t (by rfl) ?_
        refine ⟨_, rfl, rfl, hm2, some (plV as (some x)), ?_⟩
        rw [e, c2]
        rfl
      | some j =>
        obtain ⟨pj, hpj⟩ := N.get (hm j c2)
        obtain ⟨dj, oj, g1, g2⟩ := N.at_ j pj hpj
        refine ite_f (by rw [plV_some hpj]; rfl) ?_
        refine ⟨.ref p, by show some (some (plV as (some x))) = _; rw [plV_some hp], p, _, dx, _, _, rfl, h1, T.cl_Place, T.a_Place_till, plF_till _ _ _ _, .ref pj, by rw [plV_some hpj]; rfl, pj, _, dj, _, _, rfl, g1, T.cl_Place, T.a_Place_till, plF_till _ _ _ _, _, _, rfl, rfl, _, rfl, ?_⟩
        by_cases c3 : (s.at_ x).until_ < (s.at_ j).until_
        · refine ite_t (decide_eq_true (by omega)) ?_
          refine ⟨_, rfl, rfl, hm2, some (plV as (some x)), ?_⟩
          have e2 : older s (some j) x = some x := if_pos c3
          rw [e, c2, e2]
          rfl
        · refine ite_f (decide_eq_false (by omega)) ?_
          refine ⟨rfl, hm2, some (plV as (some x)), ?_⟩
          have e2 : older s (some j) x = some j := if_neg c3
          rw [e, c2, e2]
          rfl
  · rintro σ H' ⟨rfl, hm, v, rfl⟩
    rw [List.length_map, List.take_length]
    exact ⟨_, rfl, k⟩
theorem find_at {α : Type} {p : α → Bool} : ∀ {l : List α} {i : Nat} {x : α}, l[i]? = some x → p x = true → (∀ j y, j < i → l[j]? = some y → p y = false) → l.find? p = some x
  | [], i, x, h, _, _ => by simp at h
  | a :: l, 0, x, h, hp, _ => by
    have e : a = x := Option.some.inj h
    subst e
    rw [List.find?_cons, hp]
  | a :: l, i + 1, x, h, hp, hj => by
    have ha : p a = false := hj 0 a (by omega) rfl
    rw [List.find?_cons, ha]
    exact find_at (l := l) (i := i) h hp fun j y hlt hy => hj (j + 1) y (by omega) hy
theorem find_no {α : Type} {p : α → Bool} {l : List α} (hj : ∀ (j : Nat) y, l[j]? = some y → p y = false) : l.find? p = none := by
  rw [List.find?_eq_none]
  intro x hx
  obtain ⟨j, hj2⟩ := List.mem_iff_getElem?.mp hx
  rw [hj j x hj2]
  exact Bool.false_ne_true
theorem choose_none (s : Sd22.Abs) (w : List Nat) (o : Option Nat) (h1 : s.mine w = none) (h2 : (o.bind s.place).filter (fun i => s.free i) = none) :
    s.choose w o = match (frees s).find? (fun i => (s.at_ i).who == []) with
      | some i => some i
      | none => (frees s).foldl (older s) none := by
  unfold Sd22.Abs.choose
  rw [h1]
  dsimp only
  rw [h2]
  dsimp only
  unfold frees
  rw [List.find?_filter, List.foldl_filter]
  have ep : (fun a => decide (s.free a = true ∧ ((s.at_ a).who == []) = true)) = fun i => s.free i && (s.at_ i).who == [] := by
    funext a
    rw [Bool.eq_iff_iff, decide_eq_true_iff, Bool.and_eq_true]
  rw [ep]
  cases (List.range s.net.count).find? (fun i => s.free i && (s.at_ i).who == []) with
  | some i => rfl
  | none =>
    dsimp only
    congr 1
    funext m i
    unfold older
    cases s.free i <;> cases m <;> rfl
theorem mine_lt {s : Sd22.Abs} {w : List Nat} {i : Nat} (h : s.mine w = some i) : i < s.net.count := List.mem_range.mp (List.mem_of_find?_eq_some h)
theorem frees_lt {s : Sd22.Abs} {i : Nat} (h : i ∈ frees s) : i < s.net.count := List.mem_range.mp (List.mem_filter.mp h).1
theorem own_none {fl : Addr} {H : Hp} {o : V} {l : List Nat} (h : OwnV fl H o l) : decide (o = .non) = (l == []) := by
  rcases h with ⟨rfl, rfl⟩ | ⟨q, rfl, h1, _⟩
  · rfl
  · have e : (l == []) = false := by rw [beq_eq_false_iff_ne]; exact h1
    rw [e]
    rfl
theorem pure_chosen (T : Txt K mg A) (vs : List V) (H : Hp) (Q : VK) (E : XK) (h : sp_chosen K A vs H Q E) : t_chosen K A (endOf Q) (start N_chosen vs) H := by
  obtain ⟨fl, a, s, pl, as, q, w, o, rfl, N, hq, hw, k⟩ := h
  obtain ⟨dn, hn⟩ := N.obj
  refine ⟨_, rfl, a, dn, _, rfl, hn, netF_no_own_place _ _ _, _, rfl, fl, a, s, pl, as, q, w, rfl, N, hq, hw, ?_⟩
  refine ⟨_, rfl, rfl, _, rfl, ?_⟩
  cases c1 : s.mine w with
  | some i =>
    obtain ⟨p, hp⟩ := N.get (mine_lt c1)
    refine ite_t (by rw [plV_some hp]; rfl) ?_
    have e : s.choose w o = some i := by unfold Sd22.Abs.choose; rw [c1]
    refine ⟨_, rfl, ?_⟩
    rw [← e]
    exact k H (Ex.refl H)
  | none =>
    refine ite_f rfl ?_
    refine ⟨_, rfl, a, dn, _, rfl, hn, netF_no_place_of _ _ _, _, rfl, fl, a, s, pl, as, o, rfl, N, ?_⟩
    refine ⟨_, rfl, rfl, _, rfl, ?_⟩
    have rest : (o.bind s.place).filter (fun i => s.free i) = none → ∀ σ, σ = [some (.ref a), some (.ref q), some (numV o), some (plV as none), some (plV as (o.bind s.place)), none] →
        (tSeq (tFor (iList K (tMeth A.n "free_places" (sp_Net_free_places K A) [] E0 (tVar 0) tNil)) (gName 5) (tIfS (tTest (tOp oIsN (tFld K (tVar 5) "owner") (tC .non))) (tRet (tVar 5)) tNext))
          (tRet (tCall (sp_longest_over K A) [] E0 (tCons (tMeth A.n "free_places" (sp_Net_free_places K A) [] E0 (tVar 0) tNil) tNil)))) (endOf Q) σ H := fun c2 σ hσ => by
      subst hσ
      have hch := choose_none s w o c1 c2
      refine ⟨_, rfl, a, dn, _, rfl, hn, netF_no_free_places _ _ _, fl, a, s, pl, as, rfl, N, fun t H2 ht e2 h2 => ?_⟩
      have N2 := N.mono e2
      refine ⟨t, rfl, ⟨_, SqL.of h2⟩, for_list (K := K) (a := t) (xs := (frees s).map fun i => plV as (some i)) (fun i σ H' => H' = H2 ∧ (∀ j y, j < i → (frees s)[j]? = some y → ((s.at_ y).who == []) = false) ∧ ∃ v : Option V, σ = [some (.ref a), some (.ref q), some (numV o), some (plV as none), some (plV as (o.bind s.place)), v])
        ⟨rfl, fun j y hj => absurd hj (Nat.not_lt_zero j), none, rfl⟩ (fun i σ H' _ ⟨e, _⟩ => by rw [e]; exact SqL.of h2) ?_ ?_⟩
      · rintro i y σ H' hi ⟨rfl, hj, v, rfl⟩
        rw [List.getElem?_map] at hi
        cases c : (frees s)[i]? with
        | none => rw [c] at hi; cases hi
        | some x =>
          rw [c] at hi
          cases hi
          obtain ⟨p, hp⟩ := N2.get (frees_lt (List.mem_of_getElem? c))
          obtain ⟨dx, ow, h3, h4⟩ := N2.at_ x p hp
          have e5 := own_none h4
          refine ⟨.ref p, by show some (some (plV as (some x))) = _; rw [plV_some hp], p, _, dx, _, _, rfl, h3, T.cl_Place, T.a_Place_owner, plF_owner _ _ _ _, rfl, _, rfl, ?_⟩
          rw [e5]
          cases c6 : ((s.at_ x).who == []) with
          | true =>
            refine ite_t rfl ⟨_, rfl, ?_⟩
            have e7 : s.choose w o = some x := by rw [hch, find_at c c6 hj]
            show Q (plV as (some x)) _
            rw [← e7]
            exact k _ e2
          | false =>
            refine ite_f rfl ⟨rfl, fun j y hj2 hy => ?_, some (plV as (some x)), rfl⟩
            by_cases e : j = i
            · rw [e, c] at hy
              cases hy
              exact c6
            · exact hj j y (by omega) hy
      · rintro σ H' ⟨rfl, hj, v, rfl⟩
        rw [List.length_map] at hj
        have e8 : s.choose w o = (frees s).foldl (older s) none := by
          rw [hch, find_no fun j y hy => hj j y (List.getElem?_eq_some_iff.mp hy).1 hy]
        obtain ⟨dn2, hn2⟩ := N2.obj
        refine ⟨_, rfl, a, dn2, _, rfl, hn2, netF_no_free_places _ _ _, fl, a, s, pl, as, rfl, N2, fun u H3 hu e3 h3 => ?_⟩
        refine ⟨fl, a, s, pl, as, u, frees s, rfl, N2.mono e3, h3, fun i hi => frees_lt hi, ?_⟩
        rw [← e8]
        exact k _ (e2.trans e3)
    cases c2 : o.bind s.place with
    | none =>
      refine ite_f rfl ?_
      exact rest (by rw [c2]; rfl) _ (by rw [c2]; rfl)
    | some i =>
      have hi : i < s.net.count := by
        cases o with
        | none => cases c2
        | some x =>
          obtain ⟨z1, z2, z3⟩ := place_some (show s.place x = some i from c2)
          omega
      obtain ⟨p, hp⟩ := N.get hi
      obtain ⟨dx, ow, h3, h4⟩ := N.at_ i p hp
      refine ite_t (by rw [plV_some hp]; rfl) ?_
      refine ⟨.ref p, by show some (some (plV as (some i))) = _; rw [plV_some hp], p, dx, _, rfl, h3, plF_no_is_free_at _ _ _ _, _, rfl, a, _, dn, _, _, rfl, hn, T.cl_Net, T.a_Net_now, netF_now _ _ _, fl, p, _, _, s.now, rfl, ⟨dx, ow, h3, h4⟩, _, rfl, ?_⟩
      have e9 : ((s.at_ i).state == 0 || decide ((s.at_ i).until_ ≤ s.now)) = s.free i := rfl
      rw [e9]
      cases c3 : s.free i with
      | true =>
        refine ite_t rfl ⟨_, rfl, ?_⟩
        have e : s.choose w o = some i := by
          unfold Sd22.Abs.choose
          rw [c1, c2]
          simp [Option.filter, c3]
        show Q (plV as (some i)) H
        rw [← e]
        exact k H (Ex.refl H)
      | false =>
        refine ite_f rfl ?_
        exact rest (by rw [c2]; simp [Option.filter, c3]) _ (by rw [c2]; rfl)
theorem ok_Net_unoffer {f : Addr} {fd : FuncData} (F : Fun K "unoffer" "Net.unoffer" s_Net_unoffer f fd) (T : Txt K mg A)
    (c1 : CalM P w K mg base CX0 1 A.p "become" ["self", "state", "till"] (sp_Place_become K A)) :
    FnOk P w K mg base CX0 2 f fd ["self", "who"] (sp_Net_unoffer K A) := by
  obtain ⟨f1, d1, F1, m1, b1⟩ := c1
  refine F.ok sc_Net_unoffer (fun vs H Q E h => len_Net_unoffer h) (fun cdv A0 outer s H vs Q E hr h => ⟨t_Net_unoffer K A, ?_, pure_Net_unoffer T vs H Q E h⟩)
  have hr1 : Room 1 _ := hr.mono (by decide)
  exact pss_one (ps_for PassesOwn.never rfl (pi_list (pe_fld (pv 0) rfl)) (pg_name (i := 2) sc_Net_unoffer.nd rfl (Or.inl rfl)) (pss_one (ps_if (PW.pt (pw_and (pt_cmpR op_eq (pe_fld (pv 2) rfl) (pe_gc (by rfl) T.c_OFFERED) (nomark _)) (pw_and1 (pt_cmpR (op_eqD hr.units) (pe_fld (pv 2) rfl) (pv 1) (nomark _))))) (pss_one (ps_expr (pe_meth (pv 2) T.cl_Place m1 F1 hr1 b1 .nil pass0 (pa_cons (pe_gc (by rfl) T.c_FREE) (pa_cons (pe_fld (pv 0) rfl) pa_nil))))) pss_nil)))
theorem ok_longest_over {f : Addr} {fd : FuncData} (F : Fun K "longest_over" "longest_over" s_longest_over f fd) (T : Txt K mg A) :
    FnOk P w K mg base CX0 1 f fd ["places"] (sp_longest_over K A) := by
  refine F.ok sc_longest_over (fun vs H Q E h => len_longest_over h) (fun cdv A0 outer s H vs Q E hr h => ⟨t_longest_over K A, ?_, pure_longest_over T vs H Q E h⟩)
  exact pss_cons (ps_set (i := 1) sc_longest_over.nd rfl (Or.inl rfl) pe_non)
      (pss_cons (ps_for PassesOwn.never rfl (pi_list (pv 0)) (pg_name (i := 2) sc_longest_over.nd rfl (Or.inl rfl)) (pss_one (ps_if (PW.pt (pw_or (pt_cmpR op_isN (pv 1) pe_non (nomark _)) (pw_or1 (pt_cmpR op_lt (pe_fld (pv 2) rfl) (pe_fld (pv 1) rfl) (nomark _))))) (pss_one (ps_set (i := 1) sc_longest_over.nd rfl (Or.inl rfl) (pv 2))) pss_nil)))
      (pss_one (ps_ret (pv 1))))
theorem ok_chosen {f : Addr} {fd : FuncData} (F : Fun K "chosen" "chosen" s_chosen f fd) (T : Txt K mg A)
    (c1 : CalM P w K mg base CX0 2 A.n "own_place" ["self", "who"] (sp_Net_own_place K A))
    (c2 : CalM P w K mg base CX0 1 A.n "place_of" ["self", "address"] (sp_Net_place_of K A))
    (c3 : CalM P w K mg base CX0 1 A.p "is_free_at" ["self", "now"] (sp_Place_is_free_at K A))
    (c4 : CalM P w K mg base CX0 2 A.n "free_places" ["self"] (sp_Net_free_places K A))
    (c5 : Cal P w K mg base CX0 1 "longest_over" ["places"] (sp_longest_over K A)) :
    FnOk P w K mg base CX0 3 f fd ["net", "who", "wanted"] (sp_chosen K A) := by
  obtain ⟨f1, d1, F1, m1, b1⟩ := c1
  obtain ⟨f2, d2, F2, m2, b2⟩ := c2
  obtain ⟨f3, d3, F3, m3, b3⟩ := c3
  obtain ⟨f4, d4, F4, m4, b4⟩ := c4
  obtain ⟨f5, d5, F5, g5, m5, b5⟩ := c5
  refine F.ok sc_chosen (fun vs H Q E h => len_chosen h) (fun cdv A0 outer s H vs Q E hr h => ⟨t_chosen K A, ?_, pure_chosen T vs H Q E h⟩)
  have hr1 : Room 2 _ := hr.mono (by decide)
  have hr2 : Room 1 _ := hr.mono (by decide)
  have hr3 : Room 1 _ := hr.mono (by decide)
  have hr4 : Room 2 _ := hr.mono (by decide)
  have hr5 : Room 1 _ := hr.mono (by decide)
  exact pss_cons (ps_set (i := 3) sc_chosen.nd rfl (Or.inl rfl) (pe_meth (pv 0) T.cl_Net m1 F1 hr1 b1 .nil pass0 (pa_cons (pv 1) pa_nil)))
      (pss_cons (ps_if (pt_cmpR op_notN (pv 3) pe_non (nomark _)) (pss_one (ps_ret (pv 3))) pss_nil)
      (pss_cons (ps_set (i := 4) sc_chosen.nd rfl (Or.inl rfl) (pe_meth (pv 0) T.cl_Net m2 F2 hr2 b2 .nil pass0 (pa_cons (pv 2) pa_nil)))
      (pss_cons (ps_if (PW.pt (pw_and (pt_cmpR op_notN (pv 4) pe_non (nomark _)) (pw_and1 (pt_val (pe_meth (pv 4) T.cl_Place m3 F3 hr3 b3 .nil pass0 (pa_cons (pe_fld (pv 0) rfl) pa_nil)))))) (pss_one (ps_ret (pv 4))) pss_nil)
      (pss_cons (ps_for PassesOwn.never rfl (pi_list (pe_meth0 (pv 0) T.cl_Net m4 F4 hr4 b4 .nil pass0)) (pg_name (i := 5) sc_chosen.nd rfl (Or.inl rfl)) (pss_one (ps_if (pt_cmpR op_isN (pe_fld (pv 5) rfl) pe_non (nomark _)) (pss_one (ps_ret (pv 5))) pss_nil)))
      (pss_one (ps_ret (pe_call F5 hr5 (by rfl) g5 m5 b5 .nil pass0 (pa_cons (pe_meth0 (pv 0) T.cl_Net m4 F4 hr4 b4 .nil pass0) pa_nil))))))))
end
end Lp
namespace Lp
open PySem PySem.Spec PyProof.Rows L2
open Evl (Ex Ev EvT EvA EvO EvL RetL)
section
variable {P : Program} {w : World} {K : PySem.W.Frag} {mg : Str → Option Value} {base : Heap} {A : Ad}
theorem len_is_net {vs : List V} {H : Hp} {Q : VK} {E : XK} (h : sp_is_net K A vs H Q E) : vs.length = 1 := by
  obtain ⟨_, _, _, _, _, _, _, _, rfl, _⟩ := h
  rfl
theorem len_initN {vs : List V} {H : Hp} {Q : VK} {E : XK} (h : sp_initN K A vs H Q E) : vs.length = 2 := by
  obtain ⟨_, _, _, _, _, rfl, _⟩ := h
  rfl
/-! ## is_net -/
def NetC (a b e f g : Nat) : Prop := ((List.range 33).any fun k => b == 2 ^ 32 - 2 ^ k) = true ∧ 1 ≤ f ∧ f ≤ 256 ∧ e + f - 1 < 2 ^ 32 ∧ Nat.land e b = Nat.land a b ∧ Nat.land (e + f - 1) b = Nat.land a b ∧
  (a < e ∨ e + f - 1 < a) ∧ 60 ≤ g ∧ g ≤ 31536000 ∧ e ≠ 0 ∧ a ≠ 0
theorem net_yes {a b c d e f g : Nat} (h : NetC a b e f g) : Sd22.net [a, b, c, d, e, f, g] = some ⟨a, b, c, d, e, f, g⟩ := if_pos h
theorem net_no {a b c d e f g : Nat} (h : ¬ NetC a b e f g) : Sd22.net [a, b, c, d, e, f, g] = none := if_neg h
theorem ev_lt {ta tb : TE} {σ : L2.St} {H : Hp} {i j : Int} (ha : Ev ta σ H (.int i)) (hb : Ev tb σ H (.int j)) : EvT (tTest (tOp oLt ta tb)) σ H (decide (i < j)) := Evl.et_test (Evl.ev_op ha hb Evl.rv_I0)
theorem ev_gt {ta tb : TE} {σ : L2.St} {H : Hp} {i j : Int} (ha : Ev ta σ H (.int i)) (hb : Ev tb σ H (.int j)) : EvT (tTest (tOp oGt ta tb)) σ H (decide (j < i)) := Evl.et_test (Evl.ev_op ha hb Evl.rv_I0)
theorem ev_le {ta tb : TE} {σ : L2.St} {H : Hp} {i j : Int} (ha : Ev ta σ H (.int i)) (hb : Ev tb σ H (.int j)) : EvT (tTest (tOp oLe ta tb)) σ H (decide (i ≤ j)) := Evl.et_test (Evl.ev_op ha hb Evl.rv_I0)
theorem ev_eqI {ta tb : TE} {σ : L2.St} {H : Hp} {i j : Int} (ha : Ev ta σ H (.int i)) (hb : Ev tb σ H (.int j)) : EvT (tTest (tOp rEq ta tb)) σ H (i == j) := Evl.et_test (Evl.ev_is (Evl.ev_op ha hb (Evl.rv_eq rfl)) (by rw [dec_int]))
theorem ev_eqV {ta tb : TE} {σ : L2.St} {H : Hp} {i j : Int} (ha : Ev ta σ H (.int i)) (hb : Ev tb σ H (.int j)) : Ev (tOp rEq ta tb) σ H (.bl (i == j)) := Evl.ev_is (Evl.ev_op ha hb (Evl.rv_eq rfl)) (by rw [dec_int])
theorem pure_is_net (T : Txt K mg A) (vs : List V) (H : Hp) (Q : VK) (E : XK) (h : sp_is_net K A vs H Q E) : t_is_net K A (endOf Q) (start N_is_net vs) H := by
  obtain ⟨q, a, b, c, d, e, f, g, rfl, hq, hb, k⟩ := h
  refine ⟨_, rfl, q, _, rfl, SqL.of hq, rfl, _, _, rfl, _, _, rfl, _, _, rfl, _, _, rfl, _, _, rfl, _, _, rfl, _, _, rfl, rfl, ?_⟩
  have no : ¬ NetC a b e f g → ∀ H1, Ex H H1 → Q (.bl false) H1 := fun n H1 e1 => by
    have := k H1 e1
    rw [net_no n] at this
    exact this
  refine Evl.q_when (b := decide ((f : Int) < 1) || (decide ((256 : Int) < (f : Int)) || (decide ((g : Int) < 60) || (decide ((31536000 : Int) < (g : Int)) || !((List.range 33).any fun k => b == 2 ^ 32 - 2 ^ k)))))
    (Evl.et_or (ev_lt (Evl.ev_var rfl) Evl.ev_c) fun _ => Evl.et_or (ev_gt (Evl.ev_var rfl) Evl.ev_c) fun _ => Evl.et_or (ev_lt (Evl.ev_var rfl) Evl.ev_c) fun _ => Evl.et_or (ev_gt (Evl.ev_var rfl) Evl.ev_c) fun _ => Evl.et_not (Evl.et_B (ev_callS (ss := [.val (.int (b : Int))]) (as_val (Evl.ev_var rfl) as_nil) ?_))) ?_ ?_
  · rintro H1 e1 xs ⟨_, _, rfl, rfl, rfl⟩ Q E q
    exact ⟨b, rfl, hb, q H1 (Ex.refl H1)⟩
  · intro hc H1 e1
    refine no (fun n => ?_) H1 e1
    obtain ⟨n1, n2, n3, n4, n5, n6, n7, n8, n9, n10, n11⟩ := n
    rw [n1] at hc
    simp only [Bool.or_eq_true, decide_eq_true_iff, Bool.not_true, Bool.false_eq_true, or_false] at hc
    omega
  · intro hc H1 e1
    simp only [Bool.or_eq_false_iff, decide_eq_false_iff_not, Bool.not_eq_false'] at hc
    obtain ⟨c1, c2, c3, c4, c5⟩ := hc
    refine Evl.q_asg (v := .int ((e + f - 1 : Nat) : Int)) (Evl.ev_is (Evl.ev_op (Evl.ev_op (Evl.ev_var (v := .int (e : Int)) rfl) (Evl.ev_var (v := .int (f : Int)) rfl) Evl.rv_I0) Evl.ev_c Evl.rv_I0) (by show V.int ((e : Int) + (f : Int) - 1) = _; congr 1; omega)) fun H2 e2 => ?_
    refine Evl.q_when (b := decide ((4294967295 : Int) < ((e + f - 1 : Nat) : Int)) || (((a : Int) == 0) || (((e : Int) == 0) || (decide ((e : Int) ≤ (a : Int)) && decide ((a : Int) ≤ ((e + f - 1 : Nat) : Int))))))
      (Evl.et_or (ev_gt (Evl.ev_var rfl) Evl.ev_c) fun _ => Evl.et_or (ev_eqI (Evl.ev_var rfl) Evl.ev_c) fun _ => Evl.et_or (ev_eqI (Evl.ev_var rfl) Evl.ev_c) fun _ => Evl.et_and (ev_le (Evl.ev_var rfl) (Evl.ev_var rfl)) fun _ => ev_le (Evl.ev_var rfl) (Evl.ev_var rfl)) ?_ ?_
    · intro hd H3 e3
      refine no (fun n => ?_) H3 ((e1.trans e2).trans e3)
      obtain ⟨n1, n2, n3, n4, n5, n6, n7, n8, n9, n10, n11⟩ := n
      simp only [Bool.or_eq_true, decide_eq_true_iff, Bool.and_eq_true, beq_iff_eq] at hd
      omega
    · intro hd H3 e3
      simp only [Bool.or_eq_false_iff, decide_eq_false_iff_not, beq_eq_false_iff_ne, Bool.and_eq_false_iff] at hd
      obtain ⟨d1, d2, d3, d4⟩ := hd
      have el : ∀ x y : Nat, (Builtin.bitAnd (a : Int) (b : Int) == Builtin.bitAnd (x : Int) (b : Int)) = decide (Nat.land x b = Nat.land a b) := fun x _ => by
        rw [band, band, Bool.eq_iff_iff, beq_iff_eq, decide_eq_true_iff, Int.ofNat_inj]
        exact eq_comm
      refine Evl.s_ret (v := .bl (decide (Nat.land e b = Nat.land a b) && decide (Nat.land (e + f - 1) b = Nat.land a b))) (Evl.ev_andV ?_ fun _ => ?_) fun H4 e4 => ?_
      · refine Evl.ev_is (ev_eqV (Evl.ev_op (Evl.ev_var (v := .int (a : Int)) rfl) (Evl.ev_var (v := .int (b : Int)) rfl) Evl.rv_I0) (Evl.ev_op (Evl.ev_var (v := .int (e : Int)) rfl) (Evl.ev_var (v := .int (b : Int)) rfl) Evl.rv_I0)) ?_
        rw [el e 0]
      · refine Evl.ev_is (ev_eqV (Evl.ev_op (Evl.ev_var (v := .int (a : Int)) rfl) (Evl.ev_var (v := .int (b : Int)) rfl) Evl.rv_I0) (Evl.ev_op (Evl.ev_var (v := .int ((e + f - 1 : Nat) : Int)) rfl) (Evl.ev_var (v := .int (b : Int)) rfl) Evl.rv_I0)) ?_
        rw [el (e + f - 1) 0]
      · have kk := k H4 (((e1.trans e2).trans e3).trans e4)
        by_cases z1 : Nat.land e b = Nat.land a b
        · by_cases z2 : Nat.land (e + f - 1) b = Nat.land a b
          · rw [decide_eq_true z1, decide_eq_true z2]
            rw [net_yes ⟨c5, by omega, by omega, by omega, z1, z2, by omega, by omega, by omega, by omega, by omega⟩] at kk
            exact kk
          · rw [decide_eq_false z2, Bool.and_false]
            exact no (fun n => z2 n.2.2.2.2.2.1) _ (((e1.trans e2).trans e3).trans e4)
        · rw [decide_eq_false z1, Bool.false_and]
          exact no (fun n => z1 n.2.2.2.2.1) _ (((e1.trans e2).trans e3).trans e4)
/-! ## Net -/
theorem lstU {H : Hp} {q x : Addr} {xs : List V} {C dx : Addr} {fs : List (Str × V)} {o : HO} (hq : H q = some (.lst xs)) (hx : H x = some (.ins C dx fs)) : upd H x o q = some (.lst xs) := by
  rw [upd_ne (ne_of hq hx (by intro z; cases z))]
  exact hq
theorem fresh_at (n : Sd22.Net) (i : Nat) : (Sd22.fresh n).at_ i = Sd22.none_ := by
  unfold Sd22.fresh Sd22.Abs.at_
  show (List.replicate n.count Sd22.none_).getD i Sd22.none_ = _
  rw [List.getD_eq_getElem?_getD, List.getElem?_replicate]
  split <;> rfl
theorem pure_initN (T : Txt K mg A) (vs : List V) (H : Hp) (Q : VK) (E : XK) (h : sp_initN K A vs H Q E) : t_initN K A (endOf Q) (start N_initN vs) H := by
  obtain ⟨fl, x, dx, q, n, rfl, hx, hq, ok, hfl, k⟩ := h
  have at0 : ∀ i v, (nv [n.server, n.mask, n.router, n.names, n.first, n.count, n.time])[i]? = some v → atI (nv [n.server, n.mask, n.router, n.names, n.first, n.count, n.time]) ((i : Nat) : Int) = some v := fun i v h => atI_nat h
  have q1 := lstU (o := .ins A.n dx (putF "server" (.int (n.server : Int)) [])) hq hx
  refine ⟨_, rfl, q, _, _, _, rfl, rfl, SqL.of hq, at0 0 _ rfl, _, rfl, x, _, dx, _, rfl, hx, T.cl_Net, T.a_Net_server, (by show 0 < 1000; decide), ?_⟩
  have q2 := lstU (o := .ins A.n dx (putF "mask" (.int (n.mask : Int)) (putF "server" (.int (n.server : Int)) []))) q1 upd_same
  refine ⟨_, rfl, q, _, _, _, rfl, rfl, SqL.of q1, at0 1 _ rfl, _, rfl, x, _, dx, _, rfl, upd_same, T.cl_Net, T.a_Net_mask, (by show 1 < 1000; decide), ?_⟩
  have q3 := lstU (o := .ins A.n dx (putF "way_out" (.int (n.router : Int)) (putF "mask" (.int (n.mask : Int)) (putF "server" (.int (n.server : Int)) [])))) q2 upd_same
  refine ⟨_, rfl, q, _, _, _, rfl, rfl, SqL.of q2, at0 2 _ rfl, _, rfl, x, _, dx, _, rfl, upd_same, T.cl_Net, T.a_Net_way_out, (by show 2 < 1000; decide), ?_⟩
  have q4 := lstU (o := .ins A.n dx (putF "names" (.int (n.names : Int)) (putF "way_out" (.int (n.router : Int)) (putF "mask" (.int (n.mask : Int)) (putF "server" (.int (n.server : Int)) []))))) q3 upd_same
  refine ⟨_, rfl, q, _, _, _, rfl, rfl, SqL.of q3, at0 3 _ rfl, _, rfl, x, _, dx, _, rfl, upd_same, T.cl_Net, T.a_Net_names, (by show 3 < 1000; decide), ?_⟩
  have q5 := lstU (o := .ins A.n dx (putF "first" (.int (n.first : Int)) (putF "names" (.int (n.names : Int)) (putF "way_out" (.int (n.router : Int)) (putF "mask" (.int (n.mask : Int)) (putF "server" (.int (n.server : Int)) [])))))) q4 upd_same
  refine ⟨_, rfl, q, _, _, _, rfl, rfl, SqL.of q4, at0 4 _ rfl, _, rfl, x, _, dx, _, rfl, upd_same, T.cl_Net, T.a_Net_first, (by show 4 < 1000; decide), ?_⟩
  have q6 := lstU (o := .ins A.n dx (putF "long" (.int (n.time : Int)) (putF "first" (.int (n.first : Int)) (putF "names" (.int (n.names : Int)) (putF "way_out" (.int (n.router : Int)) (putF "mask" (.int (n.mask : Int)) (putF "server" (.int (n.server : Int)) []))))))) q5 upd_same
  refine ⟨_, rfl, q, _, _, _, rfl, rfl, SqL.of q5, at0 6 _ rfl, _, rfl, x, _, dx, _, rfl, upd_same, T.cl_Net, T.a_Net_long, (by show 5 < 1000; decide), ?_⟩
  have q7 := lstU (o := .ins A.n dx (putF "now" (.int 0) (putF "long" (.int (n.time : Int)) (putF "first" (.int (n.first : Int)) (putF "names" (.int (n.names : Int)) (putF "way_out" (.int (n.router : Int)) (putF "mask" (.int (n.mask : Int)) (putF "server" (.int (n.server : Int)) [])))))))) q6 upd_same
  refine ⟨_, rfl, x, _, dx, _, rfl, upd_same, T.cl_Net, T.a_Net_now, (by show 6 < 1000; decide), ?_⟩
  -- the places
  rw [upd_upd, upd_upd, upd_upd, upd_upd, upd_upd, upd_upd] at q7 ⊢
  generalize hHm : upd H x (.ins A.n dx (putF "now" (.int 0) (putF "long" (.int (n.time : Int)) (putF "first" (.int (n.first : Int)) (putF "names" (.int (n.names : Int)) (putF "way_out" (.int (n.router : Int)) (putF "mask" (.int (n.mask : Int)) (putF "server" (.int (n.server : Int)) [])))))))) = Hm at q7 ⊢
  have hxm : Hm x = some (.ins A.n dx (putF "now" (.int 0) (putF "long" (.int (n.time : Int)) (putF "first" (.int (n.first : Int)) (putF "names" (.int (n.names : Int)) (putF "way_out" (.int (n.router : Int)) (putF "mask" (.int (n.mask : Int)) (putF "server" (.int (n.server : Int)) [])))))))) := by rw [← hHm]; exact upd_same
  have hcnt : ((n.count : Int)).toNat = n.count := Int.toNat_natCast _
  have hc2 := ok.c2
  refine ⟨_, rfl, q, _, _, _, rfl, rfl, SqL.of q7, at0 5 _ rfl, (n.count : Int), rfl, by omega, by omega, fun D hD => ?_⟩
  rw [hcnt]
  refine lc_range (lo := 0) (n := n.count) (fun i H' => ∃ as : List Addr, as.length = i ∧ as.Nodup ∧ H' D = some (.lst (as.map V.ref)) ∧ (∀ j p, as[j]? = some p → PlAt A.p fl H' p (n.first + j) Sd22.none_) ∧ Ex Hm H')
    ⟨[], rfl, List.nodup_nil, upd_same, fun j p h => by simp at h, Ex.new hD⟩ ?_ ?_
  · rintro i H' hi ⟨as, hl, hnd, hD', hpl, hex⟩
    refine ⟨rfl, ?_⟩
    refine ⟨_, rfl, q, _, _, _, rfl, rfl, SqL.of (hex _ _ q7), at0 4 _ rfl, _, rfl, _, _, rfl, rfl, fun y dy ny nd ne => ?_⟩
    refine ⟨y, dy, n.first + i, by rw [Int.zero_add]; rfl, upd_same, rfl, as.map V.ref, ?_, ?_, as ++ [y], ?_, ?_, ?_, ?_, ?_⟩
    · rw [upd_upd, upd_ne (ne_of_none hD' ny), upd_ne (ne_of_none hD' nd)]
      exact hD'
    · rw [List.length_map, hl]
      exact Nat.lt_of_lt_of_le (show i < 257 by omega) (by decide)
    · rw [List.length_append, hl]
      rfl
    · refine nd_snoc hnd fun hy => ?_
      obtain ⟨j, hj⟩ := List.mem_iff_getElem?.mp hy
      obtain ⟨dz, o, h1, _⟩ := hpl j y hj
      rw [ny] at h1
      cases h1
    · rw [upd_same, List.map_append]
      rfl
    · intro j p hj
      have stays : ∀ b o, b ≠ D → H' b = some o → upd (upd (upd (upd H' dy (.own y)) y (.ins A.p dy [])) y (.ins A.p dy (plF (n.first + i) 0 0 .non))) D (.lst (as.map V.ref ++ [.ref y])) b = some o := fun b o hb h => by
        rw [upd_ne hb, upd_ne (ne_of_none h ny), upd_ne (ne_of_none h ny), upd_ne (ne_of_none h nd)]
        exact h
      rw [List.getElem?_append] at hj
      split at hj
      · obtain ⟨dz, o, h1, h2⟩ := hpl j p hj
        refine ⟨dz, o, stays _ _ (ne_of h1 hD' (by intro z; cases z)) h1, ?_⟩
        rcases h2 with h2 | ⟨q', _, h3, _⟩
        · exact .inl h2
        · exact absurd rfl h3
      · rename_i hlt
        have ej : j - as.length = 0 ∧ p = y := by
          cases c : j - as.length with
          | zero => rw [c] at hj; exact ⟨rfl, (Option.some.inj hj).symm⟩
          | succ m => rw [c] at hj; simp at hj
        have ej2 : j = i := by omega
        rw [ej.2, ej2]
        refine ⟨dy, .non, ?_, .inl ⟨rfl, rfl⟩⟩
        rw [upd_ne (fun z => by rw [z] at ny; rw [ny] at hD'; cases hD'), upd_same]
        rfl
    · intro b o h
      have hb : b ≠ D := fun z => by rw [z, hD] at h; cases h
      have h' := hex b o h
      rw [upd_ne hb, upd_ne (ne_of_none h' ny), upd_ne (ne_of_none h' ny), upd_ne (ne_of_none h' nd)]
      exact h'
  · rintro H' ⟨as, hl, hnd, hD', hpl, hex⟩
    have hx' := hex _ _ hxm
    refine ⟨_, rfl, x, _, dx, _, rfl, hx', T.cl_Net, T.a_Net_places, (by show 7 < 1000; decide), ?_⟩
    have hDx : D ≠ x := fun z => by rw [z, hxm] at hD; cases hD
    refine k _ D as ⟨⟨dx, ?_⟩, ?_, ?_, hnd, hl, ?_, fun i p hi => ?_, ok⟩ ?_
    · show upd H' x _ x = _
      rw [upd_same]
      exact congrArg (fun z => some (HO.ins A.n dx z)) (netF_new n D)
    · show upd H' x _ D = _
      rw [upd_ne hDx]
      exact hD'
    · intro z
      rw [z, ← hHm] at hD
      by_cases e : fl = x
      · rw [e, upd_same] at hD
        cases hD
      · rw [upd_ne e] at hD
        exact hfl hD
    · show (List.replicate n.count Sd22.none_).length = n.count
      exact List.length_replicate
    · rw [fresh_at]
      obtain ⟨dz, o, h1, h2⟩ := hpl i p hi
      refine ⟨dz, o, ?_, ?_⟩
      · show upd H' x _ p = _
        rw [upd_ne (ne_of h1 hx' fun z => by injection z with _ _ z; revert z; exact key_ne (by decide +kernel))]
        exact h1
      · rcases h2 with h2 | ⟨q', _, h3, _⟩
        · exact .inl h2
        · exact absurd rfl h3
    · intro b o h hb
      rw [upd_ne hb]
      refine hex b o ?_
      rw [← hHm, upd_ne hb]
      exact h
theorem ok_is_net {f : Addr} {fd : FuncData} (F : Fun K "is_net" "is_net" s_is_net f fd) (T : Txt K mg A)
    (c1 : Cal P w K mg base CX0 1 "is_mask" ["mask"] (sp_is_mask K A)) :
    FnOk P w K mg base CX0 2 f fd ["numbers"] (sp_is_net K A) := by
  obtain ⟨f1, d1, F1, g1, m1, b1⟩ := c1
  refine F.ok sc_is_net (fun vs H Q E h => len_is_net h) (fun cdv A0 outer s H vs Q E hr h => ⟨t_is_net K A, ?_, pure_is_net T vs H Q E h⟩)
  have hr1 : Room 1 _ := hr.mono (by decide)
  exact pss_cons (ps_asg (pv 0) (pg_lst rfl (pgs_cons (pg_name (i := 1) sc_is_net.nd rfl (Or.inl rfl)) (pgs_cons (pg_name (i := 2) sc_is_net.nd rfl (Or.inl rfl)) (pgs_cons (pg_name (i := 3) sc_is_net.nd rfl (Or.inl rfl)) (pgs_cons (pg_name (i := 4) sc_is_net.nd rfl (Or.inl rfl)) (pgs_cons (pg_name (i := 5) sc_is_net.nd rfl (Or.inl rfl)) (pgs_cons (pg_name (i := 6) sc_is_net.nd rfl (Or.inl rfl)) (pgs_cons (pg_name (i := 7) sc_is_net.nd rfl (Or.inl rfl)) pgs_nil)))))))))
      (pss_cons (ps_if (PW.pt (pw_or (pt_cmpR op_lt (pv 6) pe_int (nomark _)) (pw_or (pt_cmpR op_gt (pv 6) (pe_gc (by rfl) T.c_MOST_ADDRESSES) (nomark _)) (pw_or (pt_cmpR op_lt (pv 7) (pe_gc (by rfl) T.c_LEAST_LONG) (nomark _)) (pw_or (pt_cmpR op_gt (pv 7) (pe_gc (by rfl) T.c_MOST_LONG) (nomark _)) (pw_or1 (pt_not (pt_val (pe_call F1 hr1 (by rfl) g1 m1 b1 .nil pass0 (pa_cons (pv 2) pa_nil)))))))))) (pss_one (ps_ret pe_bl)) pss_nil)
      (pss_cons (ps_set (i := 8) sc_is_net.nd rfl (Or.inl rfl) (pe_op op_sub (pe_op op_add (pv 5) (pv 6)) pe_int))
      (pss_cons (ps_if (PW.pt (pw_or (pt_cmpR op_gt (pv 8) (pe_gc (by rfl) T.c_ALL_ONES) (nomark _)) (pw_or (pt_cmpR op_eq (pv 1) pe_int (nomark _)) (pw_or (pt_cmpR op_eq (pv 5) pe_int (nomark _)) (pw_or1 (PW.pt (pw_and (pt_cmpR op_le (pv 5) (pv 1) (nomark _)) (pw_and1 (pt_cmpR op_le (pv 1) (pv 8) (nomark _)))))))))) (pss_one (ps_ret pe_bl)) pss_nil)
      (pss_one (ps_ret (pe_and (pe_cmpR op_eq (pe_op op_and (pv 1) (pv 2)) (pe_op op_and (pv 5) (pv 2)) (nomark _)) (pe_one (pe_cmpR op_eq (pe_op op_and (pv 1) (pv 2)) (pe_op op_and (pv 8) (pv 2)) (nomark _)))))))))
theorem ok_initN {f : Addr} {fd : FuncData} (F : Fun K "__init__" "Net.__init__" s_initN f fd) (T : Txt K mg A)
    (c1 : CalC P w K mg base CX0 1 A.p "Place" ["self", "address"] (sp_initP K A)) :
    FnOk P w K mg base CX0 3 f fd ["self", "numbers"] (sp_initN K A) := by
  obtain ⟨f1, d1, F1, m1, g1, b1⟩ := c1
  refine F.ok sc_initN (fun vs H Q E h => len_initN h) (fun cdv A0 outer s H vs Q E hr h => ⟨t_initN K A, ?_, pure_initN T vs H Q E h⟩)
  have hr1 : Room (1 + 1) _ := hr.mono (by decide)
  exact pss_cons (ps_fld (pv 0) (pe_ix ix_list (pv 1) pe_int (fun _ _ => rfl)) rfl)
      (pss_cons (ps_fld (pv 0) (pe_ix ix_list (pv 1) pe_int (fun _ _ => rfl)) rfl)
      (pss_cons (ps_fld (pv 0) (pe_ix ix_list (pv 1) pe_int (fun _ _ => rfl)) rfl)
      (pss_cons (ps_fld (pv 0) (pe_ix ix_list (pv 1) pe_int (fun _ _ => rfl)) rfl)
      (pss_cons (ps_fld (pv 0) (pe_ix ix_list (pv 1) pe_int (fun _ _ => rfl)) rfl)
      (pss_cons (ps_fld (pv 0) (pe_ix ix_list (pv 1) pe_int (fun _ _ => rfl)) rfl)
      (pss_cons (ps_fld (pv 0) pe_int rfl)
      (pss_one (ps_fld (pv 0) (pe_lc (own := [("at", 2)]) (g := gName 2) (by rfl) sc_initN.nd (pi_range1 (by rfl) T.n_range (pa_cons (pe_ix ix_list (pv 1) pe_int (fun _ _ => rfl)) pa_nil)) (blkOk_by (own := [("at", 2)]) (N := N_initN) (sc := defScope s_initN) (by decide +kernel)) (fun _ _ _ _ _ => pg_name (i := 2) sc_initN.nd rfl (Or.inl rfl)) (fun _ _ _ _ _ => pts_nil) (fun _ _ _ _ _ => (pe_make m1 F1 hr1 (by rfl) g1 b1 .nil pass0 (pa_cons (pe_op op_add (pe_ix ix_list (pv 1) pe_int (fun _ _ => rfl)) (pv 2)) pa_nil)))) rfl))))))))
end
end Lp
namespace Lp
open PySem PySem.Spec PyProof.Rows L2
open Evl (Ex Ev EvT EvA EvO EvL RetL)
section
variable {P : Program} {w : World} {K : PySem.W.Frag} {mg : Str → Option Value} {base : Heap} {A : Ad}
theorem len_initK {vs : List V} {H : Hp} {Q : VK} {E : XK} (h : sp_initK K A vs H Q E) : vs.length = 3 := by
  obtain ⟨_, _, _, _, _, _, _, _, rfl, _⟩ := h
  rfl
theorem len_Packet_address_in {vs : List V} {H : Hp} {Q : VK} {E : XK} (h : sp_Packet_address_in K A vs H Q E) : vs.length = 2 := by
  obtain ⟨_, _, _, rfl, _⟩ := h
  rfl
theorem len_Packet_who {vs : List V} {H : Hp} {Q : VK} {E : XK} (h : sp_Packet_who K A vs H Q E) : vs.length = 1 := by
  obtain ⟨_, _, rfl, _⟩ := h
  rfl
theorem len_check_option {vs : List V} {H : Hp} {Q : VK} {E : XK} (h : sp_check_option K A vs H Q E) : vs.length = 3 := by
  obtain ⟨_, _, _, _, _, _, rfl, _⟩ := h
  rfl
/-! ## stores to an attribute -/
theorem q_fld {ta tv : TE} {tz : TS} {D : Ends} {σ : L2.St} {H : Hp} {v : V} {a C dx : Addr} {fs : List (Str × V)} {f : Str} (hv : Ev tv σ H v) (ha : Ev ta σ H (.ref a)) (ho : H a = some (.ins C dx fs)) (c : Cls K C) (n : NoAttr K C f) (hl : fs.length < 1000)
    (k : ∀ H1, Ex H H1 → tz D σ (upd H1 a (.ins C dx (putF f v fs)))) : tSeq (sFld K ta tv f) tz D σ H :=
  hv H (Ex.refl H) _ fun H1 e1 => ha H1 e1 _ fun H2 e2 => ⟨a, C, dx, fs, rfl, (e1.trans e2) _ _ ho, c, n, hl, k H2 (e1.trans e2)⟩
theorem q_fldL {ta tv : TE} {tz : TS} {D : Ends} {σ : L2.St} {H : Hp} {xs : List V} {a C dx : Addr} {fs : List (Str × V)} {f : Str} (hv : EvL tv σ H xs) (ha : Ev ta σ H (.ref a)) (ho : H a = some (.ins C dx fs)) (c : Cls K C) (n : NoAttr K C f) (hl : fs.length < 1000)
    (k : ∀ p H1, H p = none → Ex H H1 → H1 p = some (.lst xs) → tz D σ (upd H1 a (.ins C dx (putF f (.ref p) fs)))) : tSeq (sFld K ta tv f) tz D σ H :=
  hv H (Ex.refl H) _ fun p H1 hp e1 h1 => ha H1 e1 _ fun H2 e2 => ⟨a, C, dx, fs, rfl, (e1.trans e2) _ _ ho, c, n, hl, k p H2 hp (e1.trans e2) (e2 _ _ h1)⟩
/-- behind a store at x all else is as it was -/
def Kx (x : Addr) (H H' : Hp) : Prop := ∀ b o, H b = some o → b ≠ x → H' b = some o
theorem Kx.up {x : Addr} {H H1 : Hp} {o : HO} (e : Ex H H1) : Kx x H (upd H1 x o) := fun b u h n => by
  rw [upd_ne n]
  exact e _ _ h
theorem Kx.trans {x : Addr} {H H1 H2 : Hp} (a : Kx x H H1) (b : Kx x H1 H2) : Kx x H H2 := fun c o h n => b c o (a c o h n) n
theorem Kx.lst {x C dx : Addr} {fs : List (Str × V)} {H H' : Hp} (a : Kx x H H') (hx : H x = some (.ins C dx fs)) {b : Addr} {xs : List V} (h : H b = some (.lst xs)) : H' b = some (.lst xs) := a b _ h (ne_of h hx (by intro z; cases z))
theorem Kx.dk {x C dx : Addr} {fs : List (Str × V)} {H H' : Hp} (a : Kx x H H') (hx : H x = some (.ins C dx fs)) {b : Addr} {kvs : List (Key × V)} (h : H b = some (.dK kvs)) : H' b = some (.dK kvs) := a b _ h (ne_of h hx (by intro z; cases z))
theorem cut_nv (l : List Nat) (i j : Nat) (hj : j ≤ l.length) : cutV (nv l) (some (i : Int)) (some (j : Int)) = nv ((l.drop i).take (j - i)) := by
  unfold cutV
  rw [HT.sIx_nat, HT.sIx_nat, nv_len, Nat.min_eq_left hj, nv_drop, nv_take]
  by_cases h : i ≤ l.length
  · rw [Nat.min_eq_left h]
  · rw [Nat.min_eq_right (by omega), List.drop_eq_nil_of_le (Nat.le_refl _), List.drop_eq_nil_of_le (by omega)]
    simp
theorem cut_from (l : List Nat) (i : Nat) : cutV (nv l) (some (i : Int)) none = nv (l.drop i) := by
  unfold cutV
  rw [HT.sIx_nat, HT.sIx_none, nv_len, nv_drop, nv_take]
  by_cases h : i ≤ l.length
  · rw [Nat.min_eq_left h, List.take_of_length_le (by rw [List.length_drop]; exact Nat.le_refl _)]
  · rw [Nat.min_eq_right (by omega), List.drop_eq_nil_of_le (Nat.le_refl _), List.drop_eq_nil_of_le (by omega)]
    simp
theorem cut_to (l : List Nat) (j : Nat) (hj : j ≤ l.length) : cutV (nv l) none (some (j : Int)) = nv (l.take j) := by
  unfold cutV
  rw [HT.sIx_nat, HT.sIx_none, nv_len, Nat.min_eq_left hj, nv_drop, nv_take]
  rfl
theorem ev_cut {te : TE} {σ : L2.St} {H : Hp} {l : List Nat} (h : EvS te σ H (nv l)) (i j : Nat) (hj : j ≤ l.length) {ti tj : TE} (h1 : Ev ti σ H (.int (i : Int))) (h2 : Ev tj σ H (.int (j : Int))) : EvL (tSl (rSlL K) te (tPart ti) (tPart tj)) σ H (nv ((l.drop i).take (j - i))) := by
  rw [← cut_nv l i j hj]
  exact el_slS h (Evl.eo_some h1) (Evl.eo_some h2)
theorem spv_whole {ss : List Nat} {H : Hp} : SpVS (sp_whole_of K A) [.lst (nv ss)] H (.int (Sd22.high ss : Int)) := by
  rintro H1 e xs ⟨_, _, rfl, ⟨q, rfl, hq⟩, rfl⟩ Q E k
  exact ⟨q, ss, rfl, hq, k H1 (Ex.refl H1)⟩
theorem pure_initK (T : Txt K mg A) (vs : List V) (H : Hp) (Q : VK) (E : XK) (h : sp_initK K A vs H Q E) : t_initK K A (endOf Q) (start N_initK vs) H := by
  obtain ⟨x, dx, rq, oq, row, o, kvs, k, rfl, hx, hr, hb, hd, ho, hlen, hk, ok, q⟩ := h
  refine q_fldL (ev_cut (Ev.s (Evl.ev_var (v := .ref rq) rfl) hr) 4 8 (by omega) Evl.ev_c Evl.ev_c) (Evl.ev_var rfl) hx T.cl_Packet T.a_Packet_number (by show 0 < 1000; decide) fun nq H1 _ e1 h1 => ?_
  have k1 := Kx.up (x := x) (o := .ins A.k dx (putF "number" (.ref nq) [])) e1
  have l1 := lstU (o := .ins A.k dx (putF "number" (.ref nq) [])) h1 (e1 _ _ hx)
  generalize hG1 : upd H1 x (.ins A.k dx (putF "number" (.ref nq) [])) = G1 at k1 l1 ⊢
  have x1 : G1 x = some (.ins A.k dx (putF "number" (.ref nq) [])) := by rw [← hG1]; exact upd_same
  have r1 := k1.lst hx hr
  refine q_fldL (ev_cut (Ev.s (Evl.ev_var (v := .ref rq) rfl) r1) 10 12 (by omega) Evl.ev_c Evl.ev_c) (Evl.ev_var rfl) x1 T.cl_Packet T.a_Packet_flags (by show 1 < 1000; decide) fun fq H2 _ e2 h2 => ?_
  have k2 := Kx.up (x := x) (o := .ins A.k dx (putF "flags" (.ref fq) (putF "number" (.ref nq) []))) e2
  have l2 := lstU (o := .ins A.k dx (putF "flags" (.ref fq) (putF "number" (.ref nq) []))) h2 (e2 _ _ x1)
  generalize hG2 : upd H2 x (.ins A.k dx (putF "flags" (.ref fq) (putF "number" (.ref nq) []))) = G2 at k2 l2 ⊢
  have x2 : G2 x = some (.ins A.k dx (putF "flags" (.ref fq) (putF "number" (.ref nq) []))) := by rw [← hG2]; exact upd_same
  have r2 := k2.lst x1 r1
  have n2 := k2.lst x1 l1
  refine q_fld (ev_callS (ss := [.lst (nv ((row.drop 12).take 4))]) (as_lst (EvL.s (ev_cut (Ev.s (Evl.ev_var (v := .ref rq) rfl) r2) 12 16 (by omega) Evl.ev_c Evl.ev_c)) as_nil) spv_whole) (Evl.ev_var rfl) x2 T.cl_Packet T.a_Packet_client (by show 2 < 1000; decide) fun H3 e3 => ?_
  have k3 := Kx.up (x := x) (o := .ins A.k dx (putF "client" (.int (Sd22.high ((row.drop 12).take 4) : Int)) (putF "flags" (.ref fq) (putF "number" (.ref nq) [])))) e3
  generalize hG3 : upd H3 x (.ins A.k dx (putF "client" (.int (Sd22.high ((row.drop 12).take 4) : Int)) (putF "flags" (.ref fq) (putF "number" (.ref nq) [])))) = G3 at k3 ⊢
  have x3 : G3 x = some (.ins A.k dx (putF "client" (.int (Sd22.high ((row.drop 12).take 4) : Int)) (putF "flags" (.ref fq) (putF "number" (.ref nq) [])))) := by rw [← hG3]; exact upd_same
  have r3 := k3.lst x2 r2
  have n3 := k3.lst x2 n2
  have f3 := k3.lst x2 l2
  refine q_fld (ev_callS (ss := [.lst (nv ((row.drop 24).take 4))]) (as_lst (EvL.s (ev_cut (Ev.s (Evl.ev_var (v := .ref rq) rfl) r3) 24 28 (by omega) Evl.ev_c Evl.ev_c)) as_nil) spv_whole) (Evl.ev_var rfl) x3 T.cl_Packet T.a_Packet_relay (by show 3 < 1000; decide) fun H4 e4 => ?_
  have k4 := Kx.up (x := x) (o := .ins A.k dx (putF "relay" (.int (Sd22.high ((row.drop 24).take 4) : Int)) (putF "client" (.int (Sd22.high ((row.drop 12).take 4) : Int)) (putF "flags" (.ref fq) (putF "number" (.ref nq) []))))) e4
  generalize hG4 : upd H4 x (.ins A.k dx (putF "relay" (.int (Sd22.high ((row.drop 24).take 4) : Int)) (putF "client" (.int (Sd22.high ((row.drop 12).take 4) : Int)) (putF "flags" (.ref fq) (putF "number" (.ref nq) []))))) = G4 at k4 ⊢
  have x4 : G4 x = some (.ins A.k dx (putF "relay" (.int (Sd22.high ((row.drop 24).take 4) : Int)) (putF "client" (.int (Sd22.high ((row.drop 12).take 4) : Int)) (putF "flags" (.ref fq) (putF "number" (.ref nq) []))))) := by rw [← hG4]; exact upd_same
  have r4 := k4.lst x3 r3
  have n4 := k4.lst x3 n3
  have f4 := k4.lst x3 f3
  refine q_fldL (ev_cut (Ev.s (Evl.ev_var (v := .ref rq) rfl) r4) 28 44 (by omega) Evl.ev_c Evl.ev_c) (Evl.ev_var rfl) x4 T.cl_Packet T.a_Packet_machine (by show 4 < 1000; decide) fun mq H5 _ e5 h5 => ?_
  have k5 := Kx.up (x := x) (o := .ins A.k dx (putF "machine" (.ref mq) (putF "relay" (.int (Sd22.high ((row.drop 24).take 4) : Int)) (putF "client" (.int (Sd22.high ((row.drop 12).take 4) : Int)) (putF "flags" (.ref fq) (putF "number" (.ref nq) [])))))) e5
  have l5 := lstU (o := .ins A.k dx (putF "machine" (.ref mq) (putF "relay" (.int (Sd22.high ((row.drop 24).take 4) : Int)) (putF "client" (.int (Sd22.high ((row.drop 12).take 4) : Int)) (putF "flags" (.ref fq) (putF "number" (.ref nq) [])))))) h5 (e5 _ _ x4)
  generalize hG5 : upd H5 x (.ins A.k dx (putF "machine" (.ref mq) (putF "relay" (.int (Sd22.high ((row.drop 24).take 4) : Int)) (putF "client" (.int (Sd22.high ((row.drop 12).take 4) : Int)) (putF "flags" (.ref fq) (putF "number" (.ref nq) [])))))) = G5 at k5 l5 ⊢
  have x5 : G5 x = some (.ins A.k dx (putF "machine" (.ref mq) (putF "relay" (.int (Sd22.high ((row.drop 24).take 4) : Int)) (putF "client" (.int (Sd22.high ((row.drop 12).take 4) : Int)) (putF "flags" (.ref fq) (putF "number" (.ref nq) [])))))) := by rw [← hG5]; exact upd_same
  have n5 := k5.lst x4 n4
  have f5 := k5.lst x4 f4
  have kall : Kx x H G5 := (((k1.trans k2).trans k3).trans k4).trans k5
  have ho5 : OptsAt G5 kvs o := ho.up fun b xs z => kall.lst hx z
  have hd5 : G5 oq = some (.dK kvs) := kall.dk hx hd
  obtain ⟨kq, hv, hkq⟩ := ho5.yes 53 hk
  refine q_fld (v := .int (k : Int)) (ev_ixS (Ev.s (ev_dget (n := 53) (Evl.ev_var (v := .ref oq) rfl) hd5 Evl.ev_c hv) hkq) Evl.ev_c (atI_nat (j := 0) rfl)) (Evl.ev_var rfl) x5 T.cl_Packet T.a_Packet_kind (by show 5 < 1000; decide) fun H6 e6 => ?_
  refine ⟨_, rfl, _, rfl, x, _, dx, _, rfl, upd_same, T.cl_Packet, T.a_Packet_options, (by show 6 < 1000; decide), ?_⟩
  show Q .non (upd (upd H6 x _) x _)
  rw [upd_upd]
  have k6 := Kx.up (x := x) (o := .ins A.k dx (putF "options" (.ref oq) (putF "kind" (.int (k : Int)) (putF "machine" (.ref mq) (putF "relay" (.int (Sd22.high ((row.drop 24).take 4) : Int)) (putF "client" (.int (Sd22.high ((row.drop 12).take 4) : Int)) (putF "flags" (.ref fq) (putF "number" (.ref nq) [])))))))) e6
  have ef : Sd22.be 2 (pkOf row k o).flags = (row.drop 10).take 2 := be2_high (by rw [List.length_take, List.length_drop]; omega) fun z hz => hb z (List.mem_of_mem_drop (List.mem_of_mem_take hz))
  refine q _ ⟨⟨dx, nq, fq, mq, oq, kvs, ?_, k6.lst x5 n5, by rw [ef]; exact k6.lst x5 f5, k6.lst x5 l5, k6.dk x5 hd5, ho5.up fun b xs z => k6.lst x5 z⟩, ok⟩ (kall.trans k6)
  rw [upd_same]
  exact congrArg (fun z => some (HO.ins A.k dx z)) (pkF_new nq fq mq oq (pkOf row k o))
theorem pure_Packet_address_in (T : Txt K mg A) (vs : List V) (H : Hp) (Q : VK) (E : XK) (h : sp_Packet_address_in K A vs H Q E) : t_Packet_address_in K A (endOf Q) (start N_Packet_address_in vs) H := by
  obtain ⟨k, p, c, rfl, ⟨⟨dx, nq, fq, mq, od, kvs, h1, h2, h3, h4, h5, h6⟩, ok⟩, q⟩ := h
  refine ⟨_, rfl, _, rfl, k, _, dx, _, _, rfl, h1, T.cl_Packet, T.a_Packet_options, pkF_options _ _ _ _ _, od, _, rfl, .inl ⟨kvs, Sum.inl (c : Int), .inl h5, rfl, rfl⟩, _, rfl, ?_⟩
  unfold Sd22.Packet.opt at q
  cases e : p.opts.find? (fun x => x.1 == c) with
  | none =>
    rw [h6.no c e]
    refine ite_t rfl ?_
    rw [e] at q
    exact q
  | some y =>
    obtain ⟨g, g1, g2⟩ := h6.yes c e
    rw [g1]
    rw [e] at q
    refine ite_f (A := False) rfl ?_
    exact ⟨_, rfl, k, _, dx, _, _, rfl, h1, T.cl_Packet, T.a_Packet_options, pkF_options _ _ _ _ _, _, rfl, od, .ref g, rfl, .inl ⟨kvs, Sum.inl (c : Int), .inl h5, rfl, g1.symm⟩, g, _, rfl, g2, q⟩
theorem pure_Packet_who (T : Txt K mg A) (vs : List V) (H : Hp) (Q : VK) (E : XK) (h : sp_Packet_who K A vs H Q E) : t_Packet_who K A (endOf Q) (start N_Packet_who vs) H := by
  obtain ⟨k, p, rfl, ⟨⟨dx, nq, fq, mq, od, kvs, h1, h2, h3, h4, h5, h6⟩, ok⟩, q⟩ := h
  have e0 : ∀ H1, Ev (tVar 0) (start N_Packet_who [.ref k]) H1 (.ref k) := fun H1 => Evl.ev_var rfl
  have eo : Ev (tFld K (tVar 0) "options") (start N_Packet_who [.ref k]) H (.ref od) := ev_fld (e0 H) h1 T.cl_Packet T.a_Packet_options (pkF_options _ _ _ _ _)
  refine Evl.q_when (Evl.et_B (ev_din Evl.ev_c eo h5)) ?_ ?_
  · intro hc H1 e1
    cases e : p.opts.find? (fun x => x.1 == 61) with
    | none =>
      have z := h6.no 61 e
      rw [show valV kvs (Sum.inl (61 : Int)) = none from z] at hc
      cases hc
    | some y =>
      obtain ⟨g, g1, g2⟩ := h6.yes 61 e
      refine Evl.s_retL (el_listS (Ev.s (ev_dget (Evl.Ev.mono e1 eo) (e1 _ _ h5) Evl.ev_c g1) (e1 _ _ g2))) fun t H2 ht e2 h2' => q t H2 (Evl.fresh_back e1 ht) (e1.trans e2) ?_
      have : p.who = y.2 := by
        unfold Sd22.Packet.who Sd22.Packet.opt
        rw [e]
        rfl
      rw [h2', this]
  · intro hc H1 e1
    have hn : p.opts.find? (fun x => x.1 == 61) = none := by
      cases e : p.opts.find? (fun x => x.1 == 61) with
      | none => rfl
      | some y =>
        obtain ⟨g, g1, g2⟩ := h6.yes 61 e
        rw [show valV kvs (Sum.inl (61 : Int)) = some (.ref g) from g1] at hc
        cases hc
    have hm : 6 ≤ p.machine.length := by rw [ok.machine]; decide
    refine Evl.s_retL (el_cat (EvL.s (Evl.el_lst (Evl.ea_cons Evl.ev_c Evl.ea_nil) (by show 1 ≤ 100000; decide))) (EvL.s (el_slS (Ev.s (ev_fld (e0 H1) (e1 _ _ h1) T.cl_Packet T.a_Packet_machine (pkF_machine _ _ _ _ _)) (e1 _ _ h4)) Evl.eo_none (Evl.eo_some Evl.ev_c))) ?_) fun t H2 ht e2 h2' => q t H2 (Evl.fresh_back e1 ht) (e1.trans e2) ?_
    · show 1 + (cutV (nv p.machine) none (some ((6 : Nat) : Int))).length ≤ 100000
      rw [cut_to _ _ hm, nv_len, List.length_take]
      omega
    · rw [h2']
      have : p.who = 1 :: p.machine.take 6 := by
        unfold Sd22.Packet.who Sd22.Packet.opt
        rw [hn]
        rfl
      rw [this, show cutV (nv p.machine) none (some 6) = nv (p.machine.take 6) from cut_to p.machine 6 hm]
      rfl
theorem pure_check_option (T : Txt K mg A) (vs : List V) (H : Hp) (Q : VK) (E : XK) (h : sp_check_option K A vs H Q E) : t_check_option K A E (endOf Q) (start N_check_option vs) H := by
  obtain ⟨d, g, c, kvs, o, b, rfl, hd, ho, hg, k1, k2⟩ := h
  refine ⟨_, rfl, _, rfl, d, _, rfl, .inl ⟨kvs, Sum.inl (c : Int), .inl hd, rfl, rfl⟩, _, rfl, ?_⟩
  cases e : o.find? (fun x => x.1 == c) with
  | some y =>
    obtain ⟨q, g1, g2⟩ := ho.yes c e
    rw [g1]
    refine ite_f (A := False) rfl ?_
    exact ⟨false, rfl, fun z => (by cases z), fun _ => k2 (by rw [e]; rfl)⟩
  | none =>
    rw [ho.no c e]
    rw [e] at k1 k2
    refine ite_t (B := False) rfl ?_
    refine ⟨_, rfl, rfl, ?_⟩
    by_cases c52 : c = 52
    · subst c52
      exact ⟨false, rfl, fun z => (by cases z), fun _ => k2 rfl⟩
    · have e52 : (!decide (V.int (c : Int) = V.int 52)) = true := by
        rw [Bool.not_eq_true', decide_eq_false_iff_not]
        intro z
        injection z with z
        omega
      refine ⟨true, by rw [e52]; rfl, fun _ => ?_, fun z => (by cases z)⟩
      have b52 : (c != 52) = true := by rw [bne_iff_ne]; exact c52
      refine ⟨_, rfl, c, rfl, rfl, _, rfl, ?_⟩
      cases hl : lensOf c with
      | none =>
        refine ite_f rfl (k1 ?_)
        unfold okOpt
        rw [b52, hl]
        rfl
      | some x =>
        obtain ⟨lo, hi⟩ := x
        refine ite_t rfl ?_
        refine ⟨_, rfl, c, lo, hi, rfl, rfl, hl, fun t ht => ⟨t, _, rfl, ht.sq H, rfl, _, _, rfl, _, _, rfl, rfl, ?_⟩⟩
        have okE : okOpt c b.length = (decide (lo ≤ b.length) && decide (b.length ≤ hi)) := by
          unfold okOpt
          rw [b52, hl]
          simp
        refine ⟨_, rfl, _, rfl, g, _, rfl, .inl (SqL.of hg), _, _, rfl, rfl, _, rfl, ?_⟩
        rw [nv_len]
        by_cases z1 : lo ≤ b.length
        · refine ite_t (decide_eq_true (by omega)) ?_
          refine ⟨_, rfl, g, _, rfl, .inl (SqL.of hg), _, rfl, _, _, rfl, rfl, ?_⟩
          rw [nv_len]
          by_cases z2 : b.length ≤ hi
          · refine ⟨true, by show [V.bl (decide ((b.length : Int) ≤ (hi : Int)))] = _; rw [decide_eq_true (by omega)], fun _ => k1 ?_, fun z => (by cases z)⟩
            rw [okE, decide_eq_true z1, decide_eq_true z2]
            rfl
          · refine ⟨false, by show [V.bl (decide ((b.length : Int) ≤ (hi : Int)))] = _; rw [decide_eq_false (by omega)], fun z => (by cases z), fun _ => k2 ?_⟩
            rw [okE, decide_eq_true z1, decide_eq_false z2]
            rfl
        · refine ite_f (decide_eq_false (by omega)) ?_
          refine ⟨false, rfl, fun z => (by cases z), fun _ => k2 ?_⟩
          rw [okE, decide_eq_false z1]
          rfl
theorem ok_initK {f : Addr} {fd : FuncData} (F : Fun K "__init__" "Packet.__init__" s_initK f fd) (T : Txt K mg A)
    (c1 : Cal P w K mg base CX0 1 "whole_of" ["row"] (sp_whole_of K A)) :
    FnOk P w K mg base CX0 2 f fd ["self", "row", "options"] (sp_initK K A) := by
  obtain ⟨f1, d1, F1, g1, m1, b1⟩ := c1
  refine F.ok sc_initK (fun vs H Q E h => len_initK h) (fun cdv A0 outer s H vs Q E hr h => ⟨t_initK K A, ?_, pure_initK T vs H Q E h⟩)
  have hr1 : Room 1 _ := hr.mono (by decide)
  have hu := hu_of hr
  exact pss_cons (ps_fld (pv 0) (pe_slice sl_list (pv 1) (po_some pe_int) (po_some pe_int)) rfl)
      (pss_cons (ps_fld (pv 0) (pe_slice sl_list (pv 1) (po_some pe_int) (po_some pe_int)) rfl)
      (pss_cons (ps_fld (pv 0) (pe_call F1 hr1 (by rfl) g1 m1 b1 .nil pass0 (pa_cons (pe_slice sl_list (pv 1) (po_some pe_int) (po_some pe_int)) pa_nil)) rfl)
      (pss_cons (ps_fld (pv 0) (pe_call F1 hr1 (by rfl) g1 m1 b1 .nil pass0 (pa_cons (pe_slice sl_list (pv 1) (po_some pe_int) (po_some pe_int)) pa_nil)) rfl)
      (pss_cons (ps_fld (pv 0) (pe_slice sl_list (pv 1) (po_some pe_int) (po_some pe_int)) rfl)
      (pss_cons (ps_fld (pv 0) (pe_ix ix_list (pe_dget hu (pv 2) (pe_gc (by rfl) T.c_KIND) (fun _ _ => rfl)) pe_int (fun _ _ => rfl)) rfl)
      (pss_one (ps_fld (pv 0) (pv 2) rfl)))))))
theorem ok_Packet_address_in {f : Addr} {fd : FuncData} (F : Fun K "address_in" "Packet.address_in" s_Packet_address_in f fd) (T : Txt K mg A)
    (c1 : Cal P w K mg base CX0 1 "whole_of" ["row"] (sp_whole_of K A)) :
    FnOk P w K mg base CX0 2 f fd ["self", "option"] (sp_Packet_address_in K A) := by
  obtain ⟨f1, d1, F1, g1, m1, b1⟩ := c1
  refine F.ok sc_Packet_address_in (fun vs H Q E h => len_Packet_address_in h) (fun cdv A0 outer s H vs Q E hr h => ⟨t_Packet_address_in K A, ?_, pure_Packet_address_in T vs H Q E h⟩)
  have hr1 : Room 1 _ := hr.mono (by decide)
  have hu := hu_of hr
  exact pss_cons (ps_if (pt_cmp (pc_dnotin hu (pv 1) (pe_fld (pv 0) rfl)) (by rfl)) (pss_one (ps_ret pe_non)) pss_nil)
      (pss_one (ps_ret (pe_call F1 hr1 (by rfl) g1 m1 b1 .nil pass0 (pa_cons (pe_dget hu (pe_fld (pv 0) rfl) (pv 1) (fun _ _ => rfl)) pa_nil))))
theorem ok_Packet_who {f : Addr} {fd : FuncData} (F : Fun K "who" "Packet.who" s_Packet_who f fd) (T : Txt K mg A) :
    FnOk P w K mg base CX0 1 f fd ["self"] (sp_Packet_who K A) := by
  refine F.ok sc_Packet_who (fun vs H Q E h => len_Packet_who h) (fun cdv A0 outer s H vs Q E hr h => ⟨t_Packet_who K A, ?_, pure_Packet_who T vs H Q E h⟩)
  have hu := hu_of hr
  exact pss_cons (ps_if (pt_cmp (pc_din hu (pe_gc (by rfl) T.c_OWNER) (pe_fld (pv 0) rfl)) (by rfl)) (pss_one (ps_ret (pe_callTy call_list_of (by rfl) T.n_list (by decide +kernel) (pa_cons (pe_dget hu (pe_fld (pv 0) rfl) (pe_gc (by rfl) T.c_OWNER) (fun _ _ => rfl)) pa_nil)))) pss_nil)
      (pss_one (ps_ret (pe_op op_catS (pe_lst (pa_cons pe_int pa_nil)) (pe_slice sl_list (pe_fld (pv 0) rfl) po_none (po_some pe_int)))))
theorem ok_check_option {f : Addr} {fd : FuncData} (F : Fun K "check_option" "check_option" s_check_option f fd) (T : Txt K mg A)
    (c1 : Cal P w K mg base (L2.CX P w) 1 "ask" ["good"] (sp_ask K A)) :
    FnOk P w K mg base (L2.CX P w) 2 f fd ["options", "number", "given"] (sp_check_option K A) := by
  obtain ⟨f1, d1, F1, g1, m1, b1⟩ := c1
  refine F.okX sc_check_option (fun vs H Q E h => len_check_option h) (fun cdv A0 outer s H vs Q E hr h => ⟨t_check_option K A E, ?_, pure_check_option T vs H Q E h⟩)
  have hr1 : Room 1 _ := hr.mono (by decide)
  have hu := hu_of hr
  exact pss_cons (ps_expr (pe_call F1 hr1 (by rfl) g1 m1 b1 .nil (passes_call (takes_of rfl rfl rfl rfl) (fun _ _ _ _ h => h)) (pa_cons (pe_and (pe_cmp (pc_dnotin hu (pv 1) (pv 0)) (by rfl)) (pe_one (pe_cmpR op_ne (pv 1) (pe_gc (by rfl) T.c_OVERLOAD) (nomark _)))) pa_nil)))
      (pss_one (ps_if (pt_cmpR (op_inLens T.lens) (pv 1) (pe_gc (by rfl) T.c_LENGTHS) (by rfl)) (pss_cons (ps_asg (pe_ix (ix_lens T.lens) (pe_gc (by rfl) T.c_LENGTHS) (pv 1) (fun _ _ => rfl)) (pg_tup rfl (pgs_cons (pg_name (i := 3) sc_check_option.nd rfl (Or.inl rfl)) (pgs_cons (pg_name (i := 4) sc_check_option.nd rfl (Or.inl rfl)) pgs_nil))))
      (pss_one (ps_expr (pe_call F1 hr1 (by rfl) g1 m1 b1 .nil (passes_call (takes_of rfl rfl rfl rfl) (fun _ _ _ _ h => h)) (pa_cons (pe_and (pe_cmpR op_le (pv 3) (pe_callB call_len_seq (by rfl) T.n_len PySem.boot_len (pa_cons (pv 2) pa_nil)) (nomark _)) (pe_one (pe_cmpR op_le (pe_callB call_len_seq (by rfl) T.n_len PySem.boot_len (pa_cons (pv 2) pa_nil)) (pv 4) (nomark _)))) pa_nil))))) pss_nil))
end
end Lp
namespace Lp
open PySem PySem.Spec PyProof.Rows L2
open Evl (Ex Ev EvT EvA EvO EvL RetL)
section
variable {P : Program} {w : World} {K : PySem.W.Frag} {mg : Str → Option Value} {base : Heap} {A : Ad}
theorem len_read_options {vs : List V} {H : Hp} {Q : VK} {E : XK} (h : sp_read_options K A vs H Q E) : vs.length = 1 := by
  obtain ⟨_, _, rfl, _⟩ := h
  rfl
theorem len_read_packet {vs : List V} {H : Hp} {Q : VK} {E : XK} (h : sp_read_packet K A vs H Q E) : vs.length = 1 := by
  obtain ⟨_, _, rfl, _⟩ := h
  rfl
theorem len_packet_or_none {vs : List V} {H : Hp} {Q : VK} {E : XK} (h : sp_packet_or_none K A vs H Q E) : vs.length = 1 := by
  obtain ⟨_, _, rfl, _⟩ := h
  rfl
theorem optsR_none {row : List Nat} (h : Sd22.options (row.length + 1) (row.drop 240) [] = none) : optsR row = none := by
  unfold optsR
  rw [h]
theorem optsR_some {row : List Nat} {o : List (Nat × List Nat)} (h : Sd22.options (row.length + 1) (row.drop 240) [] = some o) (f : Sd22.fine o = true) : optsR row = some o := by
  unfold optsR
  rw [h]
  exact if_pos f
theorem optsR_bad {row : List Nat} (h : ∀ o, Sd22.options (row.length + 1) (row.drop 240) [] = some o → Sd22.fine o = false) : optsR row = none := by
  unfold optsR
  cases e : Sd22.options (row.length + 1) (row.drop 240) [] with
  | none => rfl
  | some o =>
    dsimp only
    rw [if_neg (by rw [h o e]; exact Bool.false_ne_true)]
/-- the loop over the options: i, the place; hv, what is read -/
def RoW (H : Hp) (q d : Addr) (row : List Nat) (m : Nat) (σ : L2.St) (H' : Hp) : Prop :=
  ∃ (i : Nat) (hv : List (Nat × List Nat)) (kvs : List (Key × V)) (v : Option V), σ = [some (.ref q), some (.ref d), some (.int (i : Int)), v] ∧ m + i = row.length ∧ Pg row (Sd22.options (row.length + 1) (row.drop 240) []) i hv ∧
    (hv.all fun x => okOpt x.1 x.2.length) = true ∧ hv.length ≤ i ∧ H' d = some (.dK kvs) ∧ OptsAt H' kvs hv ∧ Ex H H'
theorem opts_len {H : Hp} {kvs : List (Key × V)} {o : List (Nat × List Nat)} (h : OptsAt H kvs o) : kvs.length = o.length := Paired.length h
theorem opts_snoc {H : Hp} {kvs : List (Key × V)} {o : List (Nat × List Nat)} {c : Nat} {b : List Nat} {g : Addr} (h : OptsAt H kvs o) (hg : H g = some (.lst (nv b))) : OptsAt H (kvs ++ [(Sum.inl (c : Int), .ref g)]) (o ++ [(c, b)]) := by
  unfold OptsAt at *
  induction h with
  | nil => exact .cons ⟨rfl, g, rfl, hg⟩ .nil
  | cons hd tl ih => exact .cons hd ih
theorem find_any {o : List (Nat × List Nat)} {c : Nat} : (o.any fun x => x.1 == c) = !(o.find? fun x => x.1 == c).isNone := by
  induction o with
  | nil => rfl
  | cons x r ih =>
    rw [List.any_cons, List.find?_cons]
    cases (x.1 == c) with
    | true => rfl
    | false => rw [Bool.false_or]; exact ih
theorem sum_nat (l : List Nat) : ((l.map fun n : Nat => (n : Int)).sum) = ((l.sum : Nat) : Int) := by
  induction l with
  | nil => rfl
  | cons x r ih =>
    rw [List.map_cons, List.sum_cons, List.sum_cons, ih]
    rfl
theorem pure_read_options (T : Txt K mg A) (vs : List V) (H : Hp) (Q : VK) (E : XK) (h : sp_read_options K A vs H Q E) : t_read_options K A E (endOf Q) (start N_read_options vs) H := by
  obtain ⟨q, row, rfl, hq, l1, l2, kE, kQ⟩ := h
  refine fun d hd => ?_
  refine ⟨RoW H q d row, ⟨row.length - 240, 240, [], [], none, rfl, by omega, Pg.start, rfl, Nat.zero_le _, upd_same, .nil, Ex.new hd⟩, fun m σ H' w => ?_⟩
  obtain ⟨i, hv, kvs, v, rfl, hm, pg, hall, hlen, hd', ho, hex⟩ := w
  have hq' := hex _ _ hq
  have hdq : d ≠ q := ne_of hd' hq' (by intro z; cases z)
  refine ⟨_, rfl, _, rfl, q, _, rfl, .inl (SqL.of hq'), _, _, rfl, rfl, _, rfl, ?_⟩
  rw [nv_len]
  by_cases h1 : i < row.length
  · obtain ⟨c, hc⟩ : ∃ c, row[i]? = some c := ⟨_, List.getElem?_eq_getElem h1⟩
    have hat : atI (nv row) (i : Int) = some (.int (c : Int)) := atI_nat (nv_get hc)
    refine ite_t (decide_eq_true (by omega)) ?_
    refine ⟨_, rfl, _, rfl, q, _, _, _, rfl, rfl, SqL.of hq', hat, rfl, _, rfl, ?_⟩
    by_cases c255 : c = 255
    · subst c255
      refine ite_f rfl ?_
      -- the end: only zeros follow
      refine ⟨_, rfl, _, rfl, q, _, rfl, .inl (SqL.of hq'), _, _, rfl, rfl, _, rfl, ?_⟩
      rw [nv_len]
      refine ite_t (decide_eq_true (by omega)) ?_
      refine ⟨_, rfl, _, rfl, _, _, rfl, rfl, _, rfl, q, _, rfl, SqL.of hq', fun g hg => ?_⟩
      rw [show cutV (nv row) (some ((i : Int) + 1)) none = nv (row.drop (i + 1)) from cut_from row (i + 1)]
      refine ⟨g, (row.drop (i + 1)).map fun n : Nat => (n : Int), rfl, SqL.of (by rw [← nv_ints]; exact upd_same), rfl, ?_⟩
      rw [dec_int, sum_nat]
      have e2 : (((((row.drop (i + 1)).sum : Nat) : Int)) == 0) = (row.drop (i + 1)).all (· == 0) := by
        rw [Bool.eq_iff_iff, beq_iff_eq, all_zero]
        omega
      have hex2 : Ex H (upd H' g (.lst (nv (row.drop (i + 1))))) := hex.trans (Ex.new hg)
      have R := pg.last hc
      refine ⟨(row.drop (i + 1)).all (· == 0), by show [V.bl _] = _; rw [e2], fun z => ?_, fun z => ?_⟩
      · rw [if_pos z] at R
        refine ⟨_, rfl, kQ hv (optsR_some R (by rw [fine_eq]; exact hall)) _ d kvs hex2 (Ex.new hg _ _ hd') (ho.up fun b xs z => Ex.new hg _ _ z)⟩
      · rw [if_neg (by rw [z]; exact Bool.false_ne_true)] at R
        exact kE (optsR_none R) _ hex2
    · refine ite_t (by rw [Bool.not_eq_true', decide_eq_false_iff_not]; intro z; injection z with z; omega) ?_
      refine ⟨fun σ2 H2 => ∃ m', m' < m ∧ RoW H q d row m' σ2 H2, fun _ _ z => z, ?_⟩
      refine ⟨_, rfl, _, rfl, q, _, _, _, rfl, rfl, SqL.of hq', hat, rfl, _, rfl, ?_⟩
      by_cases c0 : c = 0
      · subst c0
        refine ite_t rfl ?_
        exact ⟨_, rfl, _, _, rfl, rfl, m - 1, by omega, i + 1, hv, kvs, v, rfl, by omega, pg.zero hc, hall, by omega, hd', ho, hex⟩
      · refine ite_f (by rw [decide_eq_false_iff_not]; intro z; injection z with z; omega) ?_
        refine ⟨_, rfl, _, _, rfl, rfl, _, rfl, q, _, rfl, .inl (SqL.of hq'), _, _, rfl, rfl, decide (i + 1 < row.length), ?_, fun hb => ?_, fun hb => ?_⟩
        · show [V.bl (decide ((i : Int) + 1 < ((nv row).length : Int)))] = _
          rw [nv_len, show decide ((i : Int) + 1 < (row.length : Int)) = decide (i + 1 < row.length) by rw [decide_eq_decide]; omega]
        · have h2 : i + 1 < row.length := of_decide_eq_true hb
          obtain ⟨n, hn⟩ : ∃ n, row[i + 1]? = some n := ⟨_, List.getElem?_eq_getElem h2⟩
          have hat2 : atI (nv row) ((i : Int) + 1) = some (.int (n : Int)) := at_of (j := i + 1) rfl (nv_get hn)
          obtain ⟨p1, p2, p3⟩ := pg.opt hc c255 c0 hn
          refine ⟨_, rfl, _, _, rfl, rfl, _, rfl, _, rfl, _, _, rfl, rfl, q, _, _, _, rfl, rfl, SqL.of hq', hat2, _, _, rfl, rfl, ?_⟩
          refine ⟨_, rfl, _, rfl, q, _, rfl, .inl (SqL.of hq'), _, _, rfl, rfl, decide (i + 2 + n ≤ row.length), ?_, fun hb2 => ?_, fun hb2 => ?_⟩
          · show [V.bl (decide ((i : Int) + 2 + (n : Int) ≤ ((nv row).length : Int)))] = _
            rw [nv_len, show decide ((i : Int) + 2 + (n : Int) ≤ (row.length : Int)) = decide (i + 2 + n ≤ row.length) by rw [decide_eq_decide]; omega]
          · have h3 : i + 2 + n ≤ row.length := of_decide_eq_true hb2
            have ecut : cutV (nv row) (some ((i : Int) + 2)) (some ((i : Int) + 2 + (n : Int))) = nv ((row.drop (i + 2)).take n) := by
              have := cut_nv row (i + 2) (i + 2 + n) h3
              rw [show i + 2 + n - (i + 2) = n by omega] at this
              exact this
            have hbl : ((row.drop (i + 2)).take n).length = n := by rw [List.length_take, List.length_drop]; omega
            refine ⟨_, rfl, _, rfl, _, rfl, q, _, _, _, rfl, rfl, SqL.of hq', hat, _, rfl, _, rfl, _, _, rfl, rfl, _, rfl, _, rfl, _, rfl, q, _, rfl, SqL.of hq', fun g hg => ?_⟩
            rw [ecut]
            have ex1 : Ex H' (upd H' g (.lst (nv ((row.drop (i + 2)).take n)))) := Ex.new hg
            refine ⟨d, g, c, kvs, hv, (row.drop (i + 2)).take n, rfl, ex1 _ _ hd', ho.up fun b xs z => ex1 _ _ z, upd_same, fun good => ?_, fun bad => ?_⟩
            · rw [Bool.and_eq_true] at good
              obtain ⟨g1, g2⟩ := good
              have nodup : (hv.any fun x => x.1 == c) = false := by rw [find_any, g1]; rfl
              have hnone : hv.find? (fun x => x.1 == c) = none := by
                cases e : hv.find? (fun x => x.1 == c) with
                | none => rfl
                | some y => rw [e] at g1; cases g1
              refine ⟨_, rfl, _, rfl, _, _, rfl, rfl, _, rfl, _, rfl, _, rfl, q, _, rfl, SqL.of (ex1 _ _ hq'), fun g2' hg2 => ?_⟩
              rw [ecut]
              have ex2 : Ex H' (upd (upd H' g (.lst (nv ((row.drop (i + 2)).take n)))) g2' (.lst (nv ((row.drop (i + 2)).take n)))) := ex1.trans (Ex.new hg2)
              have hdk := ex2 _ _ hd'
              refine ⟨_, rfl, _, rfl, _, rfl, q, _, _, _, rfl, rfl, SqL.of (ex2 _ _ hq'), hat, d, _, rfl, DPut.k (k := Sum.inl (c : Int)) hdk ?_, ?_⟩
              · rw [opts_len ho]
                exact Nat.lt_of_lt_of_le (show hv.length < 2000 by omega) (by decide)
              · have lists : ∀ b xs, upd (upd H' g (.lst (nv ((row.drop (i + 2)).take n)))) g2' (.lst (nv ((row.drop (i + 2)).take n))) b = some (.lst xs) → upd (upd (upd H' g (.lst (nv ((row.drop (i + 2)).take n)))) g2' (.lst (nv ((row.drop (i + 2)).take n)))) d (.dK (putK kvs (Sum.inl (c : Int)) (.ref g2'))) b = some (.lst xs) := fun b xs z => by
                  rw [upd_ne (ne_of z hdk (by intro z; cases z))]
                  exact z
                refine ⟨_, rfl, m - (2 + n), by omega, i + 2 + n, hv ++ [(c, (row.drop (i + 2)).take n)], _, _, rfl, by omega, p3 h3 nodup, ?_, ?_, upd_same, ?_, fun b u z => ?_⟩
                · rw [List.all_append, hall]
                  simp only [List.all_cons, List.all_nil, Bool.and_true, Bool.true_and]
                  exact g2
                · rw [List.length_append]
                  show hv.length + 1 ≤ i + 2 + n
                  omega
                · have z := opts_snoc (c := c) (ho.up fun b xs z => lists _ _ (ex2 _ _ z)) (lists _ _ upd_same)
                  rw [← putK_new (.ref g2') (ho.no c hnone)] at z
                  exact z
                · have hb' : b ≠ d := fun e => by rw [e, hd] at z; cases z
                  rw [upd_ne hb']
                  exact ex2 _ _ (hex _ _ z)
            · refine kE ?_ _ (hex.trans ex1)
              cases e : hv.find? (fun x => x.1 == c) with
              | some y =>
                exact optsR_none (p2 (by rw [find_any, e]; rfl))
              | none =>
                rw [e] at bad
                have bad2 : okOpt c ((row.drop (i + 2)).take n).length = false := bad
                refine optsR_bad fun o heq => ?_
                obtain ⟨more, hmore⟩ := (p3 h3 (by rw [find_any, e]; rfl)).in heq
                rw [fine_eq, hmore, List.all_append, List.all_append]
                simp only [List.all_cons, List.all_nil, Bool.and_true, bad2, Bool.and_false, Bool.false_and]
          · exact kE (optsR_none (p1 (by have := of_decide_eq_false hb2; omega))) _ hex
        · exact kE (optsR_none (pg.short hc c255 c0 (by have := of_decide_eq_false hb; omega))) _ hex
  · refine ite_f (decide_eq_false (by omega)) ?_
    refine ⟨_, rfl, _, rfl, q, _, rfl, .inl (SqL.of hq'), _, _, rfl, rfl, _, rfl, ?_⟩
    rw [nv_len]
    refine ite_f (decide_eq_false (by omega)) ?_
    exact ⟨false, rfl, fun z => (by cases z), fun _ => kE (optsR_none (pg.over (by omega))) _ hex⟩
/-! ## read_packet -/
def readC (b : List Nat) : Prop := b.length < 244 ∨ 576 < b.length ∨ b.take 3 ≠ [1, 1, 6] ∨ (b.drop 236).take 4 ≠ Sd22.MAGIC
theorem read_no {b : List Nat} (h : readC b) : Sd22.read b = none := if_pos h
theorem read_else {b : List Nat} (h : ¬ readC b) : Sd22.read b = match optsR b with
    | none => none
    | some o => match o.find? (fun x => x.1 == 53) with
      | none => none
      | some x => some (pkOf b (x.2.headD 0) o) := by
  have e : Sd22.read b = (do
    let o ← Sd22.options (b.length + 1) (b.drop 240) []
    let k ← (o.find? fun x => x.1 == 53).map fun x => x.2.headD 0
    if Sd22.fine o = false then none else some ⟨k, (b.drop 4).take 4, (b.drop 8).take 2, Sd22.high ((b.drop 10).take 2), Sd22.high ((b.drop 12).take 4), Sd22.high ((b.drop 24).take 4), (b.drop 28).take 16, o⟩) := if_neg h
  rw [e]
  unfold optsR
  cases Sd22.options (b.length + 1) (b.drop 240) [] with
  | none => rfl
  | some o =>
    show (((o.find? fun x => x.1 == 53).map fun x => x.2.headD 0).bind fun k => if Sd22.fine o = false then none else some _) = _
    dsimp only
    cases c : Sd22.fine o with
    | true =>
      rw [if_pos rfl]
      dsimp only
      cases o.find? (fun x => x.1 == 53) with
      | none => rfl
      | some x => rfl
    | false =>
      rw [if_neg Bool.false_ne_true]
      dsimp only
      cases o.find? (fun x => x.1 == 53) with
      | none => rfl
      | some x => rfl
theorem options_bytes : ∀ (k : Nat) (b : List Nat) (hv o : List (Nat × List Nat)), (∀ x ∈ b, x < 256) → (∀ x ∈ hv, x.2.length ≤ 255) → Sd22.options k b hv = some o → ∀ x ∈ o, x.2.length ≤ 255 := by
  intro k
  induction k with
  | zero => intro b hv o _ _ h; simp [Sd22.options] at h
  | succ k ih =>
    intro b hv o hb hh h
    unfold Sd22.options at h
    split at h
    · cases h
    · split at h
      · cases h; exact hh
      · cases h
    · exact ih _ _ _ (fun x hx => hb x (List.mem_cons_of_mem _ hx)) hh h
    · cases h
    · rename_i c n r _ _
      split at h
      · cases h
      · refine ih _ _ _ (fun x hx => hb x (List.mem_cons_of_mem _ (List.mem_cons_of_mem _ (List.mem_of_mem_drop hx)))) (fun x hx => ?_) h
        rcases List.mem_append.mp hx with hx | hx
        · exact hh x hx
        · cases List.mem_singleton.mp hx
          have := hb n (List.mem_cons_of_mem _ List.mem_cons_self)
          show (r.take n).length ≤ 255
          rw [List.length_take]
          omega
theorem optsR_fine {row : List Nat} {o : List (Nat × List Nat)} (h : optsR row = some o) : Sd22.options (row.length + 1) (row.drop 240) [] = some o ∧ ∀ x ∈ o, okOpt x.1 x.2.length = true := by
  unfold optsR at h
  cases e : Sd22.options (row.length + 1) (row.drop 240) [] with
  | none => rw [e] at h; cases h
  | some o' =>
    rw [e] at h
    dsimp only at h
    split at h
    · rename_i f
      cases h
      rw [fine_eq, List.all_eq_true] at f
      exact ⟨rfl, f⟩
    · cases h
theorem find_key {o : List (Nat × List Nat)} {c : Nat} {x : Nat × List Nat} (h : o.find? (fun x => x.1 == c) = some x) : x ∈ o ∧ x.1 = c := ⟨List.mem_of_find?_eq_some h, by have := List.find?_some h; simpa using this⟩
theorem kind_one {o : List (Nat × List Nat)} {x : Nat × List Nat} (hf : ∀ x ∈ o, okOpt x.1 x.2.length = true) (h : o.find? (fun x => x.1 == 53) = some x) : x = (53, [x.2.headD 0]) := by
  obtain ⟨c, b⟩ := x
  obtain ⟨hm, rfl⟩ := find_key h
  have hk : okOpt 53 b.length = true := hf _ hm
  have hl : b.length = 1 := by
    have : decide (1 ≤ b.length ∧ b.length ≤ 1) = true := by simpa [okOpt, lensOf] using hk
    have := of_decide_eq_true this
    omega
  match b, hl with
  | [y], _ => rfl
theorem pk_ok {row : List Nat} {o : List (Nat × List Nat)} {k : Nat} (hb : ∀ b ∈ row, b < 256) (hl : 244 ≤ row.length) (h : optsR row = some o) : PkOk (pkOf row k o) := by
  obtain ⟨h1, h2⟩ := optsR_fine h
  have hi : ∀ i n, i + n ≤ 240 → Sd22.high ((row.drop i).take n) < 256 ^ n := fun i n hin => by
    have := high_lt ((row.drop i).take n) fun x hx => hb x (List.mem_of_mem_drop (List.mem_of_mem_take hx))
    rwa [List.length_take, List.length_drop, Nat.min_eq_left (by omega)] at this
  refine ⟨?_, ?_, hi 12 4 (by decide), hi 24 4 (by decide), hi 10 2 (by decide), options_bytes _ _ _ _ (fun x hx => hb x (List.mem_of_mem_drop hx)) (fun x hx => by simp at hx) h1, fun b hb6 => ?_⟩
  · show ((row.drop 4).take 4).length = 4
    rw [List.length_take, List.length_drop]
    omega
  · show ((row.drop 28).take 16).length = 16
    rw [List.length_take, List.length_drop]
    omega
  · unfold Sd22.Packet.opt at hb6
    cases e : (pkOf row k o).opts.find? (fun x => x.1 == 61) with
    | none => rw [e] at hb6; cases hb6
    | some y =>
      rw [e] at hb6
      cases hb6
      obtain ⟨hm, hc⟩ := find_key e
      have hk : okOpt y.1 y.2.length = true := h2 y hm
      rw [hc] at hk
      have hk2 : decide (2 ≤ y.2.length ∧ y.2.length ≤ 32) = true := by simpa [okOpt, lensOf] using hk
      have := of_decide_eq_true hk2
      intro z
      show False
      have : y.2.length = 0 := by rw [show y.2 = [] from z]; rfl
      omega
theorem eq_nv {Kf : PySem.W.Frag} {H : Hp} {p q : Addr} {l m : List Nat} (hp : SqL Kf H p (nv l)) (hq : SqL Kf H q (nv m)) : ∃ d e, Dp Kf H (.ref p) d ∧ Dp Kf H (.ref q) e ∧ SeqAt.shaped d = true ∧ SeqAt.shaped e = true ∧ PyData.eqv d e = decide (l = m) := by
  refine ⟨_, _, dp_nv hp, dp_nv hq, shaped_ints _, shaped_ints _, ?_⟩
  show PyData.eqv (.list _) (.list _) = _
  simp only [PyData.eqv]
  rw [eqv_ints, Bool.eq_iff_iff, decide_eq_true_iff, decide_eq_true_iff, map_inj_nat]
theorem pure_read_packet (T : Txt K mg A) (vs : List V) (H : Hp) (Q : VK) (E : XK) (h : sp_read_packet K A vs H Q E) : t_read_packet K A E (endOf Q) (start N_read_packet vs) H := by
  obtain ⟨q, row, rfl, hq, hb, hl, kE, kQ⟩ := h
  refine ⟨_, rfl, q, _, rfl, .inl (SqL.of hq), _, _, rfl, rfl, _, rfl, ?_⟩
  rw [nv_len]
  by_cases h1 : 244 ≤ row.length
  · refine ite_t (decide_eq_true (by omega)) ?_
    refine ⟨_, rfl, q, _, rfl, .inl (SqL.of hq), _, _, rfl, rfl, decide (row.length ≤ 576), ?_, fun z => ?_, fun z => ?_⟩
    · show [V.bl (decide (((nv row).length : Int) ≤ 576))] = _
      rw [nv_len, show decide ((row.length : Int) ≤ 576) = decide (row.length ≤ 576) by rw [decide_eq_decide]; omega]
    · have h2 : row.length ≤ 576 := of_decide_eq_true z
      refine ⟨_, rfl, _, rfl, q, _, rfl, SqL.of hq, fun g hg => ?_⟩
      have e1 : cutV (nv row) none (some 3) = nv (row.take 3) := cut_to row 3 (by omega)
      rw [e1]
      obtain ⟨d, e, hd, he, sd, se, hde⟩ := eq_nv (Kf := K) (H := upd H g (.lst (nv (row.take 3)))) (p := g) (q := A.beg) (l := row.take 3) (m := [1, 1, 6]) (SqL.of upd_same) (T.l_BEGINNING _).sq
      refine ⟨d, e, hd, he, sd, se, _, rfl, ?_⟩
      rw [hde]
      have ex1 : Ex H (upd H g (.lst (nv (row.take 3)))) := Ex.new hg
      by_cases h3 : row.take 3 = [1, 1, 6]
      · refine ite_t (decide_eq_true h3) ?_
        refine ⟨_, rfl, _, _, rfl, rfl, _, rfl, _, rfl, q, _, rfl, SqL.of (ex1 _ _ hq), fun g2 hg2 => ?_⟩
        have e2 : cutV (nv row) (some (240 - 4)) (some 240) = nv ((row.drop 236).take 4) := cut_nv row 236 240 (by omega)
        rw [e2]
        obtain ⟨d2, e2', hd2, he2, sd2, se2, hde2⟩ := eq_nv (Kf := K) (H := upd (upd H g (.lst (nv (row.take 3)))) g2 (.lst (nv ((row.drop 236).take 4)))) (p := g2) (q := A.mgc) (l := (row.drop 236).take 4) (m := [99, 130, 83, 99]) (SqL.of upd_same) (T.l_MAGIC _).sq
        have ex2 : Ex H (upd (upd H g (.lst (nv (row.take 3)))) g2 (.lst (nv ((row.drop 236).take 4)))) := ex1.trans (Ex.new hg2)
        generalize upd (upd H g (.lst (nv (row.take 3)))) g2 (.lst (nv ((row.drop 236).take 4))) = H2 at *
        refine ⟨d2, e2', hd2, he2, sd2, se2, decide ((row.drop 236).take 4 = [99, 130, 83, 99]), ?_, fun z => ?_, fun z => ?_⟩
        · show [V.bl (PyData.eqv d2 e2')] = _
          rw [hde2]
        · have h4 : (row.drop 236).take 4 = [99, 130, 83, 99] := of_decide_eq_true z
          have hne : ¬ readC row := by
            rintro (c | c | c | c)
            · omega
            · omega
            · exact c h3
            · exact c h4
          have hr := read_else hne
          refine ⟨_, rfl, q, row, rfl, ex2 _ _ hq, by omega, hl, fun ho H3 e3 => ?_, fun o ho H3 d3 kvs e3 hd3 hop => ?_⟩
          · rw [ho] at hr
            exact kE hr _ (ex2.trans e3)
          · rw [ho] at hr
            refine ⟨_, rfl, d3, _, rfl, .inl ⟨kvs, Sum.inl 53, .inl hd3, rfl, rfl⟩, (o.find? fun x => x.1 == 53).isSome, ?_, fun z => ?_, fun z => ?_⟩
            · show [V.bl (valV kvs (Sum.inl (53 : Int))).isSome] = _
              cases e : o.find? (fun x => x.1 == 53) with
              | none =>
                rw [show valV kvs (Sum.inl (53 : Int)) = none from hop.no 53 e]
                rfl
              | some y =>
                obtain ⟨gg, g1, _⟩ := hop.yes 53 e
                rw [show valV kvs (Sum.inl (53 : Int)) = some (.ref gg) from g1]
                rfl
            · cases e : o.find? (fun x => x.1 == 53) with
              | none => rw [e] at z; cases z
              | some y =>
                have ky := kind_one (optsR_fine ho).2 e
                dsimp only at hr
                rw [e] at hr
                refine ⟨_, rfl, _, rfl, fun x dx nx nd ne => ?_⟩
                have ex4 : Ex H3 (upd (upd H3 dx (.own x)) x (.ins A.k dx [])) := (Ex.new nd).trans (Ex.new (by rw [upd_ne (Ne.symm ne)]; exact nx))
                refine ⟨x, dx, q, d3, row, o, kvs, y.2.headD 0, rfl, upd_same, ex4 _ _ (e3 _ _ (ex2 _ _ hq)), hb, ex4 _ _ hd3, hop.up fun b xs z => ex4 _ _ z, h1, by rw [e, ← ky], pk_ok hb h1 ho, fun H5 hpk h5 => ⟨rfl, ?_⟩⟩
                refine kQ _ hr H5 x (fun b u z => ?_) hpk
                have z3 := e3 _ _ (ex2 _ _ z)
                exact h5 b u (ex4 _ _ z3) (ne_of_none z3 nx)
            · cases e : o.find? (fun x => x.1 == 53) with
              | none =>
                dsimp only at hr
                rw [e] at hr
                exact kE hr _ (ex2.trans e3)
              | some y => rw [e] at z; cases z
        · exact kE (read_no (.inr (.inr (.inr (of_decide_eq_false z))))) _ ex2
      · refine ite_f (decide_eq_false h3) ?_
        exact ⟨false, rfl, fun z => (by cases z), fun _ => kE (read_no (.inr (.inr (.inl h3)))) _ ex1⟩
    · exact kE (read_no (.inr (.inl (by have := of_decide_eq_false z; omega)))) _ (Ex.refl H)
  · refine ite_f (decide_eq_false (by omega)) ?_
    exact ⟨false, rfl, fun z => (by cases z), fun _ => kE (read_no (.inl (by omega))) _ (Ex.refl H)⟩
theorem pure_packet_or_none (T : Txt K mg A) (vs : List V) (H : Hp) (Q : VK) (E : XK) (h : sp_packet_or_none K A vs H Q E) : t_packet_or_none K A (endOf Q) (start N_packet_or_none vs) H := by
  obtain ⟨q, row, rfl, hq, hb, hl, k1, k2⟩ := h
  refine ⟨_, rfl, q, row, rfl, hq, hb, hl, fun hr H' e => ?_, fun p hp H' k e hk => ?_⟩
  · refine ⟨true, T.eF, fun _ a _ => ?_, fun z => (by cases z)⟩
    exact ⟨_, rfl, k1 hr H' e⟩
  · exact ⟨_, rfl, k2 p hp H' k e hk⟩
theorem ok_read_options {f : Addr} {fd : FuncData} (F : Fun K "read_options" "read_options" s_read_options f fd) (T : Txt K mg A)
    (c1 : Cal P w K mg base (L2.CX P w) 1 "ask" ["good"] (sp_ask K A))
    (c2 : Cal P w K mg base (L2.CX P w) 2 "check_option" ["options", "number", "given"] (sp_check_option K A)) :
    FnOk P w K mg base (L2.CX P w) 3 f fd ["row"] (sp_read_options K A) := by
  obtain ⟨f1, d1, F1, g1, m1, b1⟩ := c1
  obtain ⟨f2, d2, F2, g2, m2, b2⟩ := c2
  refine F.okX sc_read_options (fun vs H Q E h => len_read_options h) (fun cdv A0 outer s H vs Q E hr h => ⟨t_read_options K A E, ?_, pure_read_options T vs H Q E h⟩)
  have hr1 : Room 1 _ := hr.mono (by decide)
  have hr2 : Room 2 _ := hr.mono (by decide)
  have hu := hu_of hr
  exact pss_cons (ps_set (i := 1) sc_read_options.nd rfl (Or.inl rfl) (pe_dnewK))
      (pss_cons (ps_set (i := 2) sc_read_options.nd rfl (Or.inl rfl) (pe_gc (by rfl) T.c_OPTIONS))
      (pss_cons (ps_while (passes_of rfl) (PW.pt (pw_and (pt_cmpR op_lt (pv 2) (pe_callB call_len_seq (by rfl) T.n_len PySem.boot_len (pa_cons (pv 0) pa_nil)) (nomark _)) (pw_and1 (pt_cmpR op_ne (pe_ix ix_list (pv 0) (pv 2) (fun _ _ => rfl)) (pe_gc (by rfl) T.c_END) (nomark _))))) (pss_one (ps_if (pt_cmpR op_eq (pe_ix ix_list (pv 0) (pv 2) (fun _ _ => rfl)) (pe_gc (by rfl) T.c_NOTHING) (nomark _)) (pss_one (ps_set (i := 2) sc_read_options.nd rfl (Or.inl rfl) (pe_op op_add (pv 2) pe_int))) (pss_cons (ps_expr (pe_call F1 hr1 (by rfl) g1 m1 b1 .nil (passes_call (takes_of rfl rfl rfl rfl) (fun _ _ _ _ h => h)) (pa_cons (pe_cmpR op_lt (pe_op op_add (pv 2) pe_int) (pe_callB call_len_seq (by rfl) T.n_len PySem.boot_len (pa_cons (pv 0) pa_nil)) (nomark _)) pa_nil)))
      (pss_cons (ps_set (i := 3) sc_read_options.nd rfl (Or.inl rfl) (pe_op op_add (pe_op op_add (pv 2) pe_int) (pe_ix ix_list (pv 0) (pe_op op_add (pv 2) pe_int) (fun _ _ => rfl))))
      (pss_cons (ps_expr (pe_call F1 hr1 (by rfl) g1 m1 b1 .nil (passes_call (takes_of rfl rfl rfl rfl) (fun _ _ _ _ h => h)) (pa_cons (pe_cmpR op_le (pv 3) (pe_callB call_len_seq (by rfl) T.n_len PySem.boot_len (pa_cons (pv 0) pa_nil)) (nomark _)) pa_nil)))
      (pss_cons (ps_expr (pe_call F2 hr2 (by rfl) g2 m2 b2 .nil (passes_call (takes_of rfl rfl rfl rfl) (fun _ _ _ _ h => h)) (pa_cons (pv 1) (pa_cons (pe_ix ix_list (pv 0) (pv 2) (fun _ _ => rfl)) (pa_cons (pe_slice sl_list (pv 0) (po_some (pe_op op_add (pv 2) pe_int)) (po_some (pv 3))) pa_nil)))))
      (pss_cons (ps_dput hu (pv 1) (pe_ix ix_list (pv 0) (pv 2) (fun _ _ => rfl)) (pe_slice sl_list (pv 0) (po_some (pe_op op_add (pv 2) pe_int)) (po_some (pv 3))) rfl)
      (pss_one (ps_set (i := 2) sc_read_options.nd rfl (Or.inl rfl) (pv 3)))))))))))
      (pss_cons (ps_expr (pe_call F1 hr1 (by rfl) g1 m1 b1 .nil (passes_call (takes_of rfl rfl rfl rfl) (fun _ _ _ _ h => h)) (pa_cons (pe_and (pe_cmpR op_lt (pv 2) (pe_callB call_len_seq (by rfl) T.n_len PySem.boot_len (pa_cons (pv 0) pa_nil)) (nomark _)) (pe_one (pe_cmpR op_eq (pe_callB (cr_sum rfl) (by rfl) T.n_sum (by decide +kernel) (pa_cons (pe_slice sl_list (pv 0) (po_some (pe_op op_add (pv 2) pe_int)) po_none) pa_nil)) pe_int (nomark _)))) pa_nil)))
      (pss_one (ps_ret (pv 1))))))
theorem ok_read_packet {f : Addr} {fd : FuncData} (F : Fun K "read_packet" "read_packet" s_read_packet f fd) (T : Txt K mg A)
    (c1 : Cal P w K mg base (L2.CX P w) 1 "ask" ["good"] (sp_ask K A))
    (c2 : Cal P w K mg base (L2.CX P w) 3 "read_options" ["row"] (sp_read_options K A))
    (c3 : CalC P w K mg base CX0 2 A.k "Packet" ["self", "row", "options"] (sp_initK K A)) :
    FnOk P w K mg base (L2.CX P w) 4 f fd ["row"] (sp_read_packet K A) := by
  obtain ⟨f1, d1, F1, g1, m1, b1⟩ := c1
  obtain ⟨f2, d2, F2, g2, m2, b2⟩ := c2
  obtain ⟨f3, d3, F3, m3, g3, b3⟩ := c3
  refine F.okX sc_read_packet (fun vs H Q E h => len_read_packet h) (fun cdv A0 outer s H vs Q E hr h => ⟨t_read_packet K A E, ?_, pure_read_packet T vs H Q E h⟩)
  have hr1 : Room 1 _ := hr.mono (by decide)
  have hr2 : Room 3 _ := hr.mono (by decide)
  have hr3 : Room (2 + 1) _ := hr.mono (by decide)
  have hu := hu_of hr
  exact pss_cons (ps_expr (pe_call F1 hr1 (by rfl) g1 m1 b1 .nil (passes_call (takes_of rfl rfl rfl rfl) (fun _ _ _ _ h => h)) (pa_cons (pe_and (pe_cmpR op_le (pe_gc (by rfl) T.c_LEAST) (pe_callB call_len_seq (by rfl) T.n_len PySem.boot_len (pa_cons (pv 0) pa_nil)) (nomark _)) (pe_one (pe_cmpR op_le (pe_callB call_len_seq (by rfl) T.n_len PySem.boot_len (pa_cons (pv 0) pa_nil)) (pe_gc (by rfl) T.c_MOST) (nomark _)))) pa_nil)))
      (pss_cons (ps_expr (pe_call F1 hr1 (by rfl) g1 m1 b1 .nil (passes_call (takes_of rfl rfl rfl rfl) (fun _ _ _ _ h => h)) (pa_cons (pe_and (pe_cmpR (op_eqD hr.units) (pe_slice sl_list (pv 0) po_none (po_some pe_int)) (pe_gc (by rfl) T.c_BEGINNING) (nomark _)) (pe_one (pe_cmpR (op_eqD hr.units) (pe_slice sl_list (pv 0) (po_some (pe_op op_sub (pe_gc (by rfl) T.c_OPTIONS) pe_int)) (po_some (pe_gc (by rfl) T.c_OPTIONS))) (pe_gc (by rfl) T.c_MAGIC) (nomark _)))) pa_nil)))
      (pss_cons (ps_set (i := 1) sc_read_packet.nd rfl (Or.inl rfl) (pe_call F2 hr2 (by rfl) g2 m2 b2 .nil (passes_call (takes_of rfl rfl rfl rfl) (fun _ _ _ _ h => h)) (pa_cons (pv 0) pa_nil)))
      (pss_cons (ps_expr (pe_call F1 hr1 (by rfl) g1 m1 b1 .nil (passes_call (takes_of rfl rfl rfl rfl) (fun _ _ _ _ h => h)) (pa_cons (pe_cmp (pc_din hu (pe_gc (by rfl) T.c_KIND) (pv 1)) (by rfl)) pa_nil)))
      (pss_one (ps_ret (pe_make m3 F3 hr3 (by rfl) g3 b3 .nil pass0 (pa_cons (pv 0) (pa_cons (pv 1) pa_nil))))))))
theorem ok_packet_or_none {f : Addr} {fd : FuncData} (F : Fun K "packet_or_none" "packet_or_none" s_packet_or_none f fd) (T : Txt K mg A)
    (c1 : Cal P w K mg base (L2.CX P w) 4 "read_packet" ["row"] (sp_read_packet K A)) :
    FnOk P w K mg base CX0 5 f fd ["row"] (sp_packet_or_none K A) := by
  obtain ⟨f1, d1, F1, g1, m1, b1⟩ := c1
  refine F.ok sc_packet_or_none (fun vs H Q E h => len_packet_or_none h) (fun cdv A0 outer s H vs Q E hr h => ⟨t_packet_or_none K A, ?_, pure_packet_or_none T vs H Q E h⟩)
  have hr1 : Room 4 _ := hr.mono (by decide)
  exact pss_cons (ps_set (i := 1) sc_packet_or_none.nd rfl (Or.inl rfl) pe_non)
      (pss_cons (ps_try_only (tb := fun W => (tAsg (tCallS (sp_read_packet K A) (WE W) (tCons (tVar 0) tNil)) (gName 1))) (ts := fun _ _ _ => (tAsg (tC .non) (gName 1))) (Wout := fun _ _ _ _ => False) rfl rfl ⟨rfl, by decide, .inl T.gF⟩ takes0 (fun W pn xe tk _ => (pss_one (ps_set (i := 1) sc_packet_or_none.nd rfl (Or.inl rfl) (pe_callS F1 hr1 (by rfl) g1 m1 b1 (fun σ => passAt tk σ) (pa_cons (pv 0) pa_nil))))) (fun _ _ _ _ _ _ _ => (pss_one (ps_set (i := 1) sc_packet_or_none.nd rfl (Or.inl rfl) pe_non))))
      (pss_one (ps_ret (pv 1))))
end
end Lp
namespace Lp
open PySem PySem.Spec PyProof.Rows L2
open Evl (Ex Ev EvT EvA EvO EvL RetL)
section
variable {P : Program} {w : World} {K : PySem.W.Frag} {mg : Str → Option Value} {base : Heap} {A : Ad}
theorem len_option_rows {vs : List V} {H : Hp} {Q : VK} {E : XK} (h : sp_option_rows K A vs H Q E) : vs.length = 3 := by
  obtain ⟨_, _, _, _, _, _, _, _, _, _, rfl, _⟩ := h
  rfl
theorem len_reply_row {vs : List V} {H : Hp} {Q : VK} {E : XK} (h : sp_reply_row K A vs H Q E) : vs.length = 3 := by
  obtain ⟨_, _, _, _, _, _, _, _, _, _, rfl, _⟩ := h
  rfl
theorem len_target_of {vs : List V} {H : Hp} {Q : VK} {E : XK} (h : sp_target_of K A vs H Q E) : vs.length = 2 := by
  obtain ⟨_, _, _, _, _, rfl, _⟩ := h
  rfl
theorem len_told {vs : List V} {H : Hp} {Q : VK} {E : XK} (h : sp_told K A vs H Q E) : vs.length = 3 := by
  obtain ⟨_, _, _, _, _, _, _, _, _, _, rfl, _⟩ := h
  rfl
section
variable {σ : L2.St} {H : Hp} {ta tb te : TE}
theorem el_catN {x y : List Nat} (ha : EvS ta σ H (nv x)) (hb : EvS tb σ H (nv y)) (hz : x.length + y.length ≤ 100000) : EvL (tOp (oCat K) ta tb) σ H (nv (x ++ y)) := by
  rw [nv_app]
  exact el_cat ha hb (by rw [nv_len, nv_len]; exact hz)
theorem el_ao {n a : Nat} (h1 : Ev ta σ H (.int (n : Int))) (h2 : Ev tb σ H (.int (a : Int))) : EvL (tCall (sp_address_option K A) [] E0 (tCons ta (tCons tb tNil))) σ H (nv (optB n (Sd22.be 4 a))) :=
  el_callS (ss := [.val (.int (n : Int)), .val (.int (a : Int))]) (as_val h1 (as_val h2 as_nil)) (by
    rintro H1 e xs ⟨_, _, rfl, rfl, _, _, rfl, rfl, rfl⟩ Q E q
    exact ⟨n, a, rfl, q⟩)
theorem el_op {n : Nat} {b : List Nat} (h1 : Ev ta σ H (.int (n : Int))) (h2 : EvS tb σ H (nv b)) (hb : b.length ≤ 1000) : EvL (tCall (sp_option K A) [] E0 (tCons ta (tCons tb tNil))) σ H (nv (optB n b)) :=
  el_callS (ss := [.val (.int (n : Int)), .lst (nv b)]) (as_val h1 (as_lst h2 as_nil)) (by
    rintro H1 e xs ⟨_, _, rfl, rfl, _, _, rfl, ⟨p, rfl, hp⟩, rfl⟩ Q E q
    exact ⟨n, p, b, rfl, hp, hb, q⟩)
theorem el_ro {n : Nat} (h1 : Ev ta σ H (.int (n : Int))) : EvL (tCall (sp_row_of K A) [] E0 (tCons ta (tCons (tC (.int 4)) tNil))) σ H (nv (Sd22.be 4 n)) :=
  el_callS (ss := [.val (.int (n : Int)), .val (.int 4)]) (as_val h1 (as_val Evl.ev_c as_nil)) (by
    rintro H1 e xs ⟨_, _, rfl, rfl, _, _, rfl, rfl, rfl⟩ Q E q
    exact ⟨n, rfl, q⟩)
theorem el_one {n : Nat} (h : Ev ta σ H (.int (n : Int))) : EvL (tLst (tCons ta tNil)) σ H (nv [n]) := Evl.el_lst (Evl.ea_cons h Evl.ea_nil) (by show 1 ≤ 100000; decide)
theorem rep_flat (n : Nat) : nv (List.replicate n 0) = (List.replicate n [V.int 0]).flatten := by
  unfold nv
  rw [List.map_replicate]
  induction n with
  | zero => rfl
  | succ n ih =>
    rw [List.replicate_succ, List.replicate_succ, List.flatten_cons, ← ih]
    rfl
theorem el_zeros {n : Nat} (h : Ev tb σ H (.int (n : Int))) (hn : n ≤ 100000) : EvL (tOp rRep (tLst (tCons (tC (.int 0)) tNil)) tb) σ H (nv (List.replicate n 0)) := by
  rw [rep_flat]
  exact el_rep (EvL.s (el_one (n := 0) Evl.ev_c)) h (by show 1 * n ≤ 100000; omega) hn
end
theorem ev_rp {r : Addr} {kd y : Nat} {te : TE} {σ : L2.St} {H : Hp} {f : Str} {v : V} (he : Ev te σ H (.ref r)) (h : RpAt A H r kd y) (c : Cls K A.r) (n : NoAttr K A.r f) (l : (rpF kd y).lookup f = some v) : Ev (tFld K te f) σ H v := by
  obtain ⟨dx, hh⟩ := h
  exact ev_fld he hh c n l
theorem RpAt.mono {H H' : Hp} {r : Addr} {kd y : Nat} (h : RpAt A H r kd y) (e : Ex H H') : RpAt A H' r kd y := by
  obtain ⟨dx, hh⟩ := h
  exact ⟨dx, e _ _ hh⟩
def e61 (p : Sd22.Packet) : List Nat := match p.opt 61 with
  | some c => optB 61 c
  | none => []
theorem e61_len {p : Sd22.Packet} (ok : PkOk p) : (e61 p).length ≤ 257 := by
  unfold e61
  cases c : p.opt 61 with
  | none => exact Nat.zero_le _
  | some b =>
    dsimp only
    unfold Sd22.Packet.opt at c
    cases e : p.opts.find? (fun x => x.1 == 61) with
    | none => rw [e] at c; cases c
    | some z =>
      rw [e] at c
      cases c
      have := ok.opts z (List.mem_of_find?_eq_some e)
      show z.2.length + 1 + 1 ≤ 257
      omega
theorem optB_len (n : Nat) (b : List Nat) : (optB n b).length = b.length + 2 := rfl
theorem be4_len (n : Nat) : (Sd22.be 4 n).length = 4 := by rw [be4]; rfl
theorem optRows_len {s : Sd22.Abs} {p : Sd22.Packet} {kd y : Nat} (ok : PkOk p) : (optRows s p kd y).length ≤ 400 := by
  have := e61_len ok
  unfold optRows
  show ((_ ++ _ ++ _ ++ e61 p ++ [255]).length) ≤ 400
  rw [List.length_append, List.length_append, List.length_append, List.length_append, optB_len, optB_len, be4_len]
  have h2 : (if kd = 6 then ([] : List Nat) else (if 0 < y then optB 51 (Sd22.be 4 s.net.time) ++ optB 58 (Sd22.be 4 (s.net.time / 2)) ++ optB 59 (Sd22.be 4 (s.net.time / 8 * 7)) else []) ++
    optB 1 (Sd22.be 4 s.net.mask) ++ optB 3 (Sd22.be 4 s.net.router) ++ optB 6 (Sd22.be 4 s.net.names)).length ≤ 36 := by
    split
    · exact Nat.zero_le _
    · rw [List.length_append, List.length_append, List.length_append, optB_len, optB_len, optB_len, be4_len, be4_len, be4_len]
      split
      · rw [List.length_append, List.length_append, optB_len, optB_len, optB_len, be4_len, be4_len, be4_len]
        omega
      · show 0 + (4 + 2) + (4 + 2) + (4 + 2) ≤ 36
        omega
  show [kd].length + 2 + (4 + 2) + _ + (e61 p).length + 1 ≤ 400
  show 1 + 2 + (4 + 2) + _ + (e61 p).length + 1 ≤ 400
  omega
/-! ## option_rows -/
def orRest (K : PySem.W.Frag) (A : Ad) : TS :=
  tSeq (tIfS (tB (tDIn (tC (.int 61)) (tFld K (tVar 1) "options"))) (tAsg (tOp (oCat K) (tVar 3) (tCall (sp_option K A) [] E0 (tCons (tC (.int 61)) (tCons (tDGet (tFld K (tVar 1) "options") (tC (.int 61))) tNil)))) (gName 3)) tNext)
    (tRet (tOp (oCat K) (tVar 3) (tLst (tCons (tC (.int 255)) tNil))))
def orTail (K : PySem.W.Frag) (A : Ad) : TS :=
  tAsg (tOp (oCat K) (tOp (oCat K) (tOp (oCat K) (tVar 3) (tCall (sp_address_option K A) [] E0 (tCons (tC (.int 1)) (tCons (tFld K (tVar 0) "mask") tNil)))) (tCall (sp_address_option K A) [] E0 (tCons (tC (.int 3)) (tCons (tFld K (tVar 0) "way_out") tNil)))) (tCall (sp_address_option K A) [] E0 (tCons (tC (.int 6)) (tCons (tFld K (tVar 0) "names") tNil)))) (gName 3)
theorem or_rest {H H1 : Hp} {Q : VK} {k r p0 : Addr} {p : Sd22.Packet} {x : V} {f : List Nat} (T : Txt K mg A) (Pk : PkAt A H k p) (e1 : Ex H H1) (h0 : H1 p0 = some (.lst (nv f))) (hf : f.length ≤ 1000) (q : RetL (nv (f ++ e61 p ++ [255])) H Q) :
    orRest K A (endOf Q) [some x, some (.ref k), some (.ref r), some (.ref p0)] H1 := by
  obtain ⟨⟨dx, nq, fq, mq, od, kvs, g1, g2, g3, g4, g5, g6⟩, ok⟩ := Pk.mono (Kp.of e1)
  have el := e61_len ok
  have eo : Ev (tFld K (tVar 1) "options") [some x, some (.ref k), some (.ref r), some (.ref p0)] H1 (.ref od) := ev_fld (Evl.ev_var rfl) g1 T.cl_Packet T.a_Packet_options (pkF_options _ _ _ _ _)
  have fin : ∀ (H2 : Hp) (p2 : Addr) (f2 : List Nat), Ex H1 H2 → H2 p2 = some (.lst (nv f2)) → f2 = f ++ e61 p → (tRet (tOp (oCat K) (tVar 3) (tLst (tCons (tC (.int 255)) tNil)))) (endOf Q) [some x, some (.ref k), some (.ref r), some (.ref p2)] H2 := fun H2 p2 f2 e2 h2 ef => by
    subst ef
    refine Evl.s_retL (el_catN (Ev.s (Evl.ev_var rfl) h2) (EvL.s (el_one (n := 255) Evl.ev_c)) (by rw [List.length_append]; show _ + 1 ≤ 100000; omega)) fun t H3 ht e3 h3 => q t H3 (Evl.fresh_back (e1.trans e2) ht) ((e1.trans e2).trans e3) h3
  refine Evl.q_when (Evl.et_B (ev_din Evl.ev_c eo g5)) ?_ ?_
  · intro hc H2 e2
    cases c : p.opts.find? (fun x => x.1 == 61) with
    | none => rw [show valV kvs (Sum.inl (61 : Int)) = none from g6.no 61 c] at hc; cases hc
    | some z =>
      obtain ⟨g, v1, v2⟩ := g6.yes 61 c
      have ez : e61 p = optB 61 z.2 := by
        unfold e61 Sd22.Packet.opt
        rw [c]
        rfl
      have hz := ok.opts z (List.mem_of_find?_eq_some c)
      refine Evl.s_asgL (el_catN (Ev.s (Evl.ev_var rfl) (e2 _ _ h0)) (EvL.s (el_op (n := 61) Evl.ev_c (Ev.s (ev_dget (Evl.Ev.mono e2 eo) (e2 _ _ g5) Evl.ev_c v1) (e2 _ _ v2)) (by omega))) (by rw [optB_len]; omega)) fun p3 H3 _ e3 h3 => ?_
      exact fin H3 p3 _ (e2.trans e3) h3 (by rw [ez])
  · intro hc H2 e2
    have c : p.opts.find? (fun x => x.1 == 61) = none := by
      cases c : p.opts.find? (fun x => x.1 == 61) with
      | none => rfl
      | some z =>
        obtain ⟨g, v1, v2⟩ := g6.yes 61 c
        rw [show valV kvs (Sum.inl (61 : Int)) = some (.ref g) from v1] at hc
        cases hc
    have ez : e61 p = [] := by
      unfold e61 Sd22.Packet.opt
      rw [c]
      rfl
    exact fin H2 p0 f e2 (e2 _ _ h0) (by rw [ez, List.append_nil])
theorem or_tail {H H1 : Hp} {Q : VK} {fl a pl k r p0 : Addr} {s : Sd22.Abs} {as : List Addr} {p : Sd22.Packet} {f : List Nat} (T : Txt K mg A) (N : NetAt A fl H a s pl as) (Pk : PkAt A H k p) (e1 : Ex H H1) (h0 : H1 p0 = some (.lst (nv f))) (hf : f.length ≤ 500)
    (q : RetL (nv (f ++ optB 1 (Sd22.be 4 s.net.mask) ++ optB 3 (Sd22.be 4 s.net.router) ++ optB 6 (Sd22.be 4 s.net.names) ++ e61 p ++ [255])) H Q) :
    orTail K A { endOf Q with nx := orRest K A (endOf Q) } [some (.ref a), some (.ref k), some (.ref r), some (.ref p0)] H1 := by
  have N1 := N.mono e1
  have l6 : ∀ n b, (optB n (Sd22.be 4 b)).length = 6 := fun n b => by rw [optB_len, be4_len]
  refine Evl.s_asgL (el_catN (EvL.s (el_catN (EvL.s (el_catN (Ev.s (Evl.ev_var rfl) h0) (EvL.s (el_ao (n := 1) Evl.ev_c (ev_net T (Evl.ev_var rfl) N1 T.a_Net_mask (netF_mask _ _ _)))) (by rw [l6]; omega))) (EvL.s (el_ao (n := 3) Evl.ev_c (ev_net T (Evl.ev_var rfl) N1 T.a_Net_way_out (netF_way_out _ _ _)))) (by rw [List.length_append, l6, l6]; omega)))
    (EvL.s (el_ao (n := 6) Evl.ev_c (ev_net T (Evl.ev_var rfl) N1 T.a_Net_names (netF_names _ _ _)))) (by rw [List.length_append, List.length_append, l6, l6, l6]; omega)) fun p2 H2 _ e2 h2 => ?_
  exact or_rest T Pk (e1.trans e2) h2 (by rw [List.length_append, List.length_append, List.length_append, l6, l6, l6]; omega) q
theorem pure_option_rows (T : Txt K mg A) (vs : List V) (H : Hp) (Q : VK) (E : XK) (h : sp_option_rows K A vs H Q E) : t_option_rows K A (endOf Q) (start N_option_rows vs) H := by
  obtain ⟨fl, a, s, pl, as, k, r, p, kd, y, rfl, N, Pk, Rp, q⟩ := h
  have l6 : ∀ n b, (optB n (Sd22.be 4 b)).length = 6 := fun n b => by rw [optB_len, be4_len]
  have l3 : (optB 53 [kd]).length = 3 := rfl
  have q2 : ∀ z, z = optRows s p kd y → RetL (nv z) H Q := fun z e => by rw [e]; exact q
  refine Evl.q_asgL (el_catN (EvL.s (el_op (n := 53) Evl.ev_c (EvL.s (el_one (ev_rp (Evl.ev_var rfl) Rp T.cl_Reply T.a_Reply_kind (rpF_kind _ _)))) (by show 1 ≤ 1000; decide))) (EvL.s (el_ao (n := 54) Evl.ev_c (ev_net T (Evl.ev_var rfl) N T.a_Net_server (netF_server _ _ _)))) (by rw [l6]; show 3 + 6 ≤ 100000; decide)) fun p0 H1 _ e1 h1 => ?_
  have N1 := N.mono e1
  have R1 := Rp.mono e1
  refine Evl.q_if (b := !decide (V.int (kd : Int) = V.int 6)) (Evl.et_test (Evl.ev_op (ev_rp (Evl.ev_var rfl) R1 T.cl_Reply T.a_Reply_kind (rpF_kind _ _)) Evl.ev_c (Evl.rv_ne rfl))) ?_ ?_
  · intro hc H2 e2
    have hk : kd ≠ 6 := fun z => by
      rw [z] at hc
      cases hc
    have N2 := N1.mono e2
    have R2' := R1.mono e2
    refine Evl.q_when (b := decide ((0 : Int) < (y : Int))) (ev_gt (ev_rp (Evl.ev_var rfl) R2' T.cl_Reply T.a_Reply_yours (rpF_yours _ _)) Evl.ev_c) ?_ ?_
    · intro hy H3 e3
      have hy2 : 0 < y := by have := of_decide_eq_true hy; omega
      have N3 := N2.mono e3
      have ed2 : Ev (tOp oDiv (tFld K (tVar 0) "long") (tC (.int 2))) [some (.ref a), some (.ref k), some (.ref r), some (.ref p0)] H3 (.int ((s.net.time / 2 : Nat) : Int)) :=
        Evl.ev_is (Evl.ev_op (ev_net T (Evl.ev_var rfl) N3 T.a_Net_long (netF_long _ _ _)) Evl.ev_c (Evl.rv_I ⟨by decide, by decide⟩)) (by show V.int ((s.net.time : Int) / 2) = _; rw [Int.natCast_ediv]; rfl)
      refine Evl.q_asgL (el_catN (EvL.s (el_catN (Ev.s (Evl.ev_var rfl) (e3 _ _ (e2 _ _ h1))) (EvL.s (el_ao (n := 51) Evl.ev_c (ev_net T (Evl.ev_var rfl) N3 T.a_Net_long (netF_long _ _ _)))) (by rw [List.length_append, l6, l6, l3]; decide))) (EvL.s (el_ao (n := 58) Evl.ev_c ed2)) (by rw [List.length_append, List.length_append, l6, l6, l6, l3]; decide)) fun p1 H4 _ e4 h4 => ?_
      have N4 := N3.mono e4
      have ed7 : Ev (tOp oMul (tOp oDiv (tFld K (tVar 0) "long") (tC (.int 8))) (tC (.int 7))) [some (.ref a), some (.ref k), some (.ref r), some (.ref p1)] H4 (.int ((s.net.time / 8 * 7 : Nat) : Int)) :=
        Evl.ev_is (Evl.ev_op (Evl.ev_op (ev_net T (Evl.ev_var rfl) N4 T.a_Net_long (netF_long _ _ _)) Evl.ev_c (Evl.rv_I ⟨by decide, by decide⟩)) Evl.ev_c (Evl.rv_I (.inr ⟨by decide, by decide⟩))) (by show V.int ((s.net.time : Int) / 8 * 7) = _; rw [Int.natCast_mul, Int.natCast_ediv]; rfl)
      refine Evl.s_asgL (el_catN (Ev.s (Evl.ev_var rfl) h4) (EvL.s (el_ao (n := 59) Evl.ev_c ed7)) (by rw [List.length_append, List.length_append, List.length_append, l6, l6, l6, l6, l3]; decide)) fun p2 H5 _ e5 h5 => ?_
      refine or_tail T N Pk ((((e1.trans e2).trans e3).trans e4).trans e5) h5 (by rw [List.length_append, List.length_append, List.length_append, List.length_append, l6, l6, l6, l6, l3]; decide) (q2 _ ?_)
      unfold optRows
      rw [if_neg hk, if_pos hy2]
      show _ = _ ++ _ ++ _ ++ e61 p ++ [255]
      simp only [List.append_assoc]
    · intro hy H3 e3
      have hy2 : ¬ 0 < y := by have := of_decide_eq_false hy; omega
      refine or_tail T N Pk ((e1.trans e2).trans e3) (e3 _ _ (e2 _ _ h1)) (by rw [List.length_append, l6, l3]; decide) (q2 _ ?_)
      unfold optRows
      rw [if_neg hk, if_neg hy2]
      show _ = _ ++ _ ++ _ ++ e61 p ++ [255]
      simp only [List.append_assoc, List.nil_append]
  · intro hc H2 e2
    have hk : kd = 6 := by
      have := of_decide_eq_true (by simpa using hc : decide (V.int (kd : Int) = V.int 6) = true)
      injection this with z
      omega
    refine or_rest T Pk (e1.trans e2) (e2 _ _ h1) (by rw [List.length_append, l6, l3]; decide) (q2 _ ?_)
    unfold optRows
    rw [if_pos hk]
    show _ = _ ++ _ ++ _ ++ e61 p ++ [255]
    simp only [List.append_assoc, List.nil_append]
theorem ok_option_rows {f : Addr} {fd : FuncData} (F : Fun K "option_rows" "option_rows" s_option_rows f fd) (T : Txt K mg A)
    (c1 : Cal P w K mg base CX0 1 "option" ["number", "given"] (sp_option K A))
    (c2 : Cal P w K mg base CX0 2 "address_option" ["number", "address"] (sp_address_option K A)) :
    FnOk P w K mg base CX0 3 f fd ["net", "packet", "reply"] (sp_option_rows K A) := by
  obtain ⟨f1, d1, F1, g1, m1, b1⟩ := c1
  obtain ⟨f2, d2, F2, g2, m2, b2⟩ := c2
  refine F.ok sc_option_rows (fun vs H Q E h => len_option_rows h) (fun cdv A0 outer s H vs Q E hr h => ⟨t_option_rows K A, ?_, pure_option_rows T vs H Q E h⟩)
  have hr1 : Room 1 _ := hr.mono (by decide)
  have hr2 : Room 2 _ := hr.mono (by decide)
  have hu := hu_of hr
  exact pss_cons (ps_set (i := 3) sc_option_rows.nd rfl (Or.inl rfl) (pe_op op_catS (pe_call F1 hr1 (by rfl) g1 m1 b1 .nil pass0 (pa_cons pe_int (pa_cons (pe_lst (pa_cons (pe_fld (pv 2) rfl) pa_nil)) pa_nil))) (pe_call F2 hr2 (by rfl) g2 m2 b2 .nil pass0 (pa_cons pe_int (pa_cons (pe_fld (pv 0) rfl) pa_nil)))))
      (pss_cons (ps_if (pt_cmpR op_ne (pe_fld (pv 2) rfl) (pe_gc (by rfl) T.c_NAK) (nomark _)) (pss_cons (ps_if (pt_cmpR op_gt (pe_fld (pv 2) rfl) pe_int (nomark _)) (pss_cons (ps_set (i := 3) sc_option_rows.nd rfl (Or.inl rfl) (pe_op op_catS (pe_op op_catS (pv 3) (pe_call F2 hr2 (by rfl) g2 m2 b2 .nil pass0 (pa_cons pe_int (pa_cons (pe_fld (pv 0) rfl) pa_nil)))) (pe_call F2 hr2 (by rfl) g2 m2 b2 .nil pass0 (pa_cons pe_int (pa_cons (pe_op op_fdiv (pe_fld (pv 0) rfl) pe_int) pa_nil)))))
      (pss_one (ps_set (i := 3) sc_option_rows.nd rfl (Or.inl rfl) (pe_op op_catS (pv 3) (pe_call F2 hr2 (by rfl) g2 m2 b2 .nil pass0 (pa_cons pe_int (pa_cons (pe_op op_mul (pe_op op_fdiv (pe_fld (pv 0) rfl) pe_int) pe_int) pa_nil))))))) pss_nil)
      (pss_one (ps_set (i := 3) sc_option_rows.nd rfl (Or.inl rfl) (pe_op op_catS (pe_op op_catS (pe_op op_catS (pv 3) (pe_call F2 hr2 (by rfl) g2 m2 b2 .nil pass0 (pa_cons pe_int (pa_cons (pe_fld (pv 0) rfl) pa_nil)))) (pe_call F2 hr2 (by rfl) g2 m2 b2 .nil pass0 (pa_cons pe_int (pa_cons (pe_fld (pv 0) rfl) pa_nil)))) (pe_call F2 hr2 (by rfl) g2 m2 b2 .nil pass0 (pa_cons pe_int (pa_cons (pe_fld (pv 0) rfl) pa_nil))))))) pss_nil)
      (pss_cons (ps_if (pt_cmp (pc_din hu (pe_gc (by rfl) T.c_OWNER) (pe_fld (pv 1) rfl)) (by rfl)) (pss_one (ps_set (i := 3) sc_option_rows.nd rfl (Or.inl rfl) (pe_op op_catS (pv 3) (pe_call F1 hr1 (by rfl) g1 m1 b1 .nil pass0 (pa_cons (pe_gc (by rfl) T.c_OWNER) (pa_cons (pe_dget hu (pe_fld (pv 1) rfl) (pe_gc (by rfl) T.c_OWNER) (fun _ _ => rfl)) pa_nil)))))) pss_nil)
      (pss_one (ps_ret (pe_op op_catS (pv 3) (pe_lst (pa_cons (pe_gc (by rfl) T.c_END) pa_nil)))))))
end
end Lp
namespace Lp
open PySem PySem.Spec PyProof.Rows L2
open Evl (Ex Ev EvT EvA EvO EvL RetL)
section
variable {P : Program} {w : World} {K : PySem.W.Frag} {mg : Str → Option Value} {base : Heap} {A : Ad}
theorem el_catKN {σ : L2.St} {H : Hp} {ta : TE} {x : List Nat} (T : Txt K mg A) (ha : EvS ta σ H (nv x)) (hz : x.length + [99, 130, 83, 99].length ≤ 100000) : EvL (tOp (oCat K) ta (tC (.ref A.mgc))) σ H (nv (x ++ [99, 130, 83, 99])) := by
  rw [nv_app]
  exact el_catK ha Evl.ev_c T.l_MAGIC (by rw [nv_len, nv_len]; exact hz)
/-- an answer's head -/
def headR (p : Sd22.Packet) (kd y : Nat) : List Nat := [2, 1, 6, 0] ++ p.xid ++ [0, 0] ++ Sd22.be 2 p.flags ++ Sd22.be 4 (if kd = 5 then p.client else 0) ++ Sd22.be 4 y
def bodyR (p : Sd22.Packet) (kd y : Nat) : List Nat := headR p kd y ++ Sd22.be 4 0 ++ Sd22.be 4 p.relay ++ p.machine ++ List.replicate 192 0 ++ [99, 130, 83, 99]
theorem reply_eq (s : Sd22.Abs) (p : Sd22.Packet) (kd y : Nat) : Sd22.reply s p kd y (decide (0 < y)) = (bodyR p kd y ++ optRows s p kd y) ++ List.replicate (300 - (bodyR p kd y ++ optRows s p kd y).length) 0 := by
  have e : (if decide (0 < y) = true then (51 :: (Sd22.be 4 s.net.time).length :: Sd22.be 4 s.net.time) ++ ((58 :: (Sd22.be 4 (s.net.time / 2)).length :: Sd22.be 4 (s.net.time / 2)) ++ (59 :: (Sd22.be 4 (s.net.time / 8 * 7)).length :: Sd22.be 4 (s.net.time / 8 * 7))) else []) =
      (if 0 < y then optB 51 (Sd22.be 4 s.net.time) ++ optB 58 (Sd22.be 4 (s.net.time / 2)) ++ optB 59 (Sd22.be 4 (s.net.time / 8 * 7)) else []) := by
    by_cases h : 0 < y
    · rw [if_pos h, if_pos (decide_eq_true h), List.append_assoc]
      rfl
    · rw [if_neg h, if_neg (by rw [decide_eq_true_iff]; exact h)]
  have b : [2, 1, 6, 0] ++ (p.xid ++ ([0, 0] ++ (Sd22.be 2 p.flags ++ (Sd22.be 4 (if kd = 5 then p.client else 0) ++ (Sd22.be 4 y ++ (Sd22.be 4 0 ++ (Sd22.be 4 p.relay ++ (p.machine ++ (List.replicate 192 0 ++ (Sd22.MAGIC ++
      ((53 :: [kd].length :: [kd]) ++ ((54 :: (Sd22.be 4 s.net.server).length :: Sd22.be 4 s.net.server) ++ (if kd = 6 then [] else (if decide (0 < y) = true then (51 :: (Sd22.be 4 s.net.time).length :: Sd22.be 4 s.net.time) ++ ((58 :: (Sd22.be 4 (s.net.time / 2)).length :: Sd22.be 4 (s.net.time / 2)) ++ (59 :: (Sd22.be 4 (s.net.time / 8 * 7)).length :: Sd22.be 4 (s.net.time / 8 * 7))) else []) ++
        ((1 :: (Sd22.be 4 s.net.mask).length :: Sd22.be 4 s.net.mask) ++ ((3 :: (Sd22.be 4 s.net.router).length :: Sd22.be 4 s.net.router) ++ (6 :: (Sd22.be 4 s.net.names).length :: Sd22.be 4 s.net.names))))) ++
        e61 p ++ [255]))))))))))) = bodyR p kd y ++ optRows s p kd y := by
    rw [e]
    unfold bodyR headR optRows
    show _ = _ ++ (_ ++ _ ++ _ ++ e61 p ++ [255])
    unfold optB Sd22.MAGIC
    by_cases h : kd = 6
    · rw [if_pos h, if_pos h]
      simp only [List.append_assoc, List.nil_append]
    · rw [if_neg h, if_neg h]
      simp only [List.append_assoc]
  rw [← b]
  rfl
theorem headR_len {p : Sd22.Packet} {kd y : Nat} (ok : PkOk p) : (headR p kd y).length = 20 := by
  unfold headR
  simp only [List.length_append, be4_len, ok.xid, be2, List.length_cons, List.length_nil]
theorem bodyR_len {p : Sd22.Packet} {kd y : Nat} (ok : PkOk p) : (bodyR p kd y).length = 240 := by
  unfold bodyR
  simp only [List.length_append, be4_len, headR_len ok, ok.machine, List.length_cons, List.length_nil, List.length_replicate]
theorem pure_reply_row (T : Txt K mg A) (vs : List V) (H : Hp) (Q : VK) (E : XK) (h : sp_reply_row K A vs H Q E) : t_reply_row K A (endOf Q) (start N_reply_row vs) H := by
  obtain ⟨fl, a, s, pl, as, k, r, p, kd, y, rfl, N, Pk, Rp, q⟩ := h
  have Pk0 := Pk
  obtain ⟨⟨dx, nq, fq, mq, od, kvs, g1, g2, g3, g4, g5, g6⟩, ok⟩ := Pk
  have lx := ok.xid
  have lm := ok.machine
  have lf : (Sd22.be 2 p.flags).length = 2 := by rw [be2]; rfl
  rw [reply_eq] at q
  -- client
  refine Evl.q_asg (v := .int ((0 : Nat) : Int)) Evl.ev_c fun H1 e1 => ?_
  refine Evl.q_ifAsg (v := .int ((if kd = 5 then p.client else 0 : Nat) : Int)) (b := (kd : Int) == 5) (ev_eqI (ev_rp (Evl.ev_var rfl) (Rp.mono e1) T.cl_Reply T.a_Reply_kind (rpF_kind _ _)) Evl.ev_c) (fun hc => ?_) (fun hc => ?_) fun H2 e2 => ?_
  · have hk : kd = 5 := by have := beq_iff_eq.mp hc; omega
    rw [if_pos hk]
    exact ev_fld (Evl.ev_var rfl) (e1 _ _ g1) T.cl_Packet T.a_Packet_client (pkF_client _ _ _ _ _)
  · have hk : kd ≠ 5 := by have := beq_eq_false_iff_ne.mp hc; omega
    rw [if_neg hk]
    rfl
  have e12 := e1.trans e2
  -- the head
  have ek : ∀ (σ : L2.St), σ[1]? = some (some (.ref k)) → ∀ H3, Ex H2 H3 → ∀ {f : Str} {v : V}, NoAttr K A.k f → (pkF nq fq mq od p).lookup f = some v → Ev (tFld K (tVar 1) f) σ H3 v := fun σ hσ H3 e3 f v n l => ev_fld (Evl.ev_var hσ) (e3 _ _ (e12 _ _ g1)) T.cl_Packet n l
  refine Evl.q_asgL (xs := nv (headR p kd y)) ?_ fun pf H3 _ e3 h3 => ?_
  · unfold headR
    refine el_catN (EvL.s (el_catN (EvL.s (el_catN (EvL.s (el_catN (EvL.s (el_catN (EvL.s (Evl.el_lst (Evl.ea_cons Evl.ev_c (Evl.ea_cons Evl.ev_c (Evl.ea_cons Evl.ev_c (Evl.ea_cons Evl.ev_c Evl.ea_nil)))) (by show 4 ≤ 100000; decide))) (Ev.s (ek _ rfl H2 (Ex.refl H2) T.a_Packet_number (pkF_number _ _ _ _ _)) (e12 _ _ g2)) ?_)) (EvL.s (Evl.el_lst (Evl.ea_cons Evl.ev_c (Evl.ea_cons Evl.ev_c Evl.ea_nil)) (by show 2 ≤ 100000; decide))) ?_))
      (Ev.s (ek _ rfl H2 (Ex.refl H2) T.a_Packet_flags (pkF_flags _ _ _ _ _)) (e12 _ _ g3)) ?_)) (EvL.s (el_ro (Evl.ev_var rfl))) ?_)) (EvL.s (el_ro (ev_rp (Evl.ev_var rfl) (Rp.mono e12) T.cl_Reply T.a_Reply_yours (rpF_yours _ _)))) ?_
    all_goals
      simp only [List.length_append, be4_len, lx, lf, List.length_cons, List.length_nil]
      omega
  -- behind it
  have hh := headR_len (kd := kd) (y := y) ok
  refine Evl.q_asgL (xs := nv (bodyR p kd y)) ?_ fun pb H4 _ e4 h4 => ?_
  · unfold bodyR
    refine el_catKN T (EvL.s (el_catN (EvL.s (el_catN (EvL.s (el_catN (EvL.s (el_catN (Ev.s (Evl.ev_var rfl) h3) (EvL.s (el_ro (n := 0) Evl.ev_c)) ?_)) (EvL.s (el_ro (ek _ rfl H3 e3 T.a_Packet_relay (pkF_relay _ _ _ _ _)))) ?_)) (Ev.s (ek _ rfl H3 e3 T.a_Packet_machine (pkF_machine _ _ _ _ _)) (e3 _ _ (e12 _ _ g4))) ?_)) (EvL.s (el_zeros (n := 192) Evl.ev_c (by decide))) ?_)) ?_
    all_goals
      simp only [List.length_append, be4_len, hh, lm, List.length_cons, List.length_nil, List.length_replicate]
      omega
  have e14 := (e12.trans e3).trans e4
  have hb := bodyR_len (kd := kd) (y := y) ok
  have ho := optRows_len (s := s) (kd := kd) (y := y) ok
  -- the options
  refine Evl.q_asgL (el_catN (Ev.s (Evl.ev_var rfl) h4) (EvL.s (el_callS (ys := nv (optRows s p kd y)) (ss := [.val (.ref a), .val (.ref k), .val (.ref r)]) (as_val (Evl.ev_var rfl) (as_val (Evl.ev_var rfl) (as_val (Evl.ev_var rfl) as_nil))) ?_)) (by rw [hb]; omega)) fun po H5 _ e5 h5 => ?_
  · rintro H6 e6 xs ⟨_, _, rfl, rfl, _, _, rfl, rfl, _, _, rfl, rfl, rfl⟩ Q E q
    exact ⟨fl, a, s, pl, as, k, r, p, kd, y, rfl, N.mono (e14.trans e6), Pk0.mono (Kp.of (e14.trans e6)), Rp.mono (e14.trans e6), q⟩
  -- zeros
  have hl : (bodyR p kd y ++ optRows s p kd y).length ≤ 640 := by rw [List.length_append, hb]; omega
  refine Evl.s_retL (el_catN (Ev.s (Evl.ev_var rfl) h5) (EvL.s (el_zeros (n := 300 - (bodyR p kd y ++ optRows s p kd y).length) (Evl.ev_is (ev_max (i := 0) (j := 300 - ((nv (bodyR p kd y ++ optRows s p kd y)).length : Int)) Evl.ev_c (Evl.ev_op Evl.ev_c (ev_lenS (Ev.s (Evl.ev_var rfl) h5)) Evl.rv_I0)) ?_) (by omega))) (by rw [List.length_replicate]; omega)) fun t H6 ht e6 h6 => q t H6 (Evl.fresh_back (e14.trans e5) ht) ((e14.trans e5).trans e6) h6
  rw [nv_len]
  congr 1
  split <;> omega
theorem pure_target_of (T : Txt K mg A) (vs : List V) (H : Hp) (Q : VK) (E : XK) (h : sp_target_of K A vs H Q E) : t_target_of K A (endOf Q) (start N_target_of vs) H := by
  obtain ⟨k, r, p, kd, y, rfl, Pk, Rp, q⟩ := h
  obtain ⟨⟨dx, nq, fq, mq, od, kvs, g1, g2, g3, g4, g5, g6⟩, ok⟩ := Pk
  have ek : ∀ H1, Ex H H1 → ∀ {f : Str} {v : V}, NoAttr K A.k f → (pkF nq fq mq od p).lookup f = some v → Ev (tFld K (tVar 0) f) (start N_target_of [.ref k, .ref r]) H1 v := fun H1 e1 f v n l => ev_fld (Evl.ev_var rfl) (e1 _ _ g1) T.cl_Packet n l
  have fin : ∀ H1, Ex H H1 → ∀ {ta tb : TE} {x z : Nat}, Ev ta (start N_target_of [.ref k, .ref r]) H1 (.int (x : Int)) → Ev tb (start N_target_of [.ref k, .ref r]) H1 (.int (z : Int)) → [x, z] = [(Sd22.aim p kd y).1, (Sd22.aim p kd y).2] →
      ∀ D : Ends, D.rt = Q → (tRet (tLst (tCons ta (tCons tb tNil)))) D (start N_target_of [.ref k, .ref r]) H1 := fun H1 e1 {ta tb x z} ha hb e D hD => by
    refine Evl.s_retL (Evl.el_lst (Evl.ea_cons ha (Evl.ea_cons hb Evl.ea_nil)) (by show 2 ≤ 100000; decide)) fun t H2 ht e2 h2 => ?_
    rw [hD]
    refine q t H2 (Evl.fresh_back e1 ht) (e1.trans e2) ?_
    rw [h2, ← e]
    rfl
  refine Evl.q_when (b := decide ((0 : Int) < (p.relay : Int))) (ev_gt (ek H (Ex.refl H) T.a_Packet_relay (pkF_relay _ _ _ _ _)) Evl.ev_c) ?_ ?_
  · intro hc H1 e1
    have h1 : p.relay ≠ 0 := by have := of_decide_eq_true hc; omega
    refine fin H1 e1 (x := p.relay) (z := 67) (ek H1 e1 T.a_Packet_relay (pkF_relay _ _ _ _ _)) Evl.ev_c ?_ _ rfl
    unfold Sd22.aim
    rw [if_pos h1]
  intro hc H1 e1
  have h1 : ¬ p.relay ≠ 0 := by have := of_decide_eq_false hc; omega
  refine Evl.q_when (b := (kd : Int) == 6) (ev_eqI (ev_rp (Evl.ev_var rfl) (Rp.mono e1) T.cl_Reply T.a_Reply_kind (rpF_kind _ _)) Evl.ev_c) ?_ ?_
  · intro hc H2 e2
    have h2 : kd = 6 := by have := beq_iff_eq.mp hc; omega
    refine fin H2 (e1.trans e2) (x := 4294967295) (z := 68) Evl.ev_c Evl.ev_c ?_ _ rfl
    unfold Sd22.aim
    rw [if_neg h1, if_pos h2]
    rfl
  intro hc H2 e2
  have h2 : ¬ kd = 6 := by have := beq_eq_false_iff_ne.mp hc; omega
  have e12 := e1.trans e2
  refine Evl.q_when (b := decide ((0 : Int) < (p.client : Int))) (ev_gt (ek H2 e12 T.a_Packet_client (pkF_client _ _ _ _ _)) Evl.ev_c) ?_ ?_
  · intro hc H3 e3
    have h3 : p.client ≠ 0 := by have := of_decide_eq_true hc; omega
    refine fin H3 (e12.trans e3) (x := p.client) (z := 68) (ek H3 (e12.trans e3) T.a_Packet_client (pkF_client _ _ _ _ _)) Evl.ev_c ?_ _ rfl
    unfold Sd22.aim
    rw [if_neg h1, if_neg h2, if_pos h3]
  intro hc H3 e3
  have h3 : ¬ p.client ≠ 0 := by have := of_decide_eq_false hc; omega
  have e13 := e12.trans e3
  have hf := ok.flags
  refine Evl.q_when (b := decide ((128 : Int) ≤ ((p.flags / 256 % 256 : Nat) : Int))) (Evl.et_test (Evl.ev_op (ev_ixS (v := .int ((p.flags / 256 % 256 : Nat) : Int)) (i := ((0 : Nat) : Int)) (Ev.s (ek H3 e13 T.a_Packet_flags (pkF_flags _ _ _ _ _)) (e13 _ _ g3)) Evl.ev_c (atI_nat (by rw [be2]; rfl))) Evl.ev_c Evl.rv_I0)) ?_ ?_
  · intro hc H4 e4
    have h4 : 32768 ≤ p.flags := by have := of_decide_eq_true hc; omega
    refine fin H4 (e13.trans e4) (x := 4294967295) (z := 68) Evl.ev_c Evl.ev_c ?_ _ rfl
    unfold Sd22.aim
    rw [if_neg h1, if_neg h2, if_neg h3, if_pos h4]
    rfl
  intro hc H4 e4
  have h4 : ¬ 32768 ≤ p.flags := by have := of_decide_eq_false hc; omega
  refine fin H4 (e13.trans e4) (x := y) (z := 68) (ev_rp (Evl.ev_var rfl) (Rp.mono (e13.trans e4)) T.cl_Reply T.a_Reply_yours (rpF_yours _ _)) Evl.ev_c ?_ _ rfl
  unfold Sd22.aim
  rw [if_neg h1, if_neg h2, if_neg h3, if_neg h4]
theorem pure_told (T : Txt K mg A) (vs : List V) (H : Hp) (Q : VK) (E : XK) (h : sp_told K A vs H Q E) : t_told K A (endOf Q) (start N_told vs) H := by
  obtain ⟨fl, a, s, pl, as, k, r, p, kd, y, rfl, N, Pk, Rp, q⟩ := h
  refine Evl.q_asgL (el_callS (ys := nv (Sd22.reply s p kd y (decide (0 < y)))) (ss := [.val (.ref a), .val (.ref k), .val (.ref r)]) (as_val (Evl.ev_var rfl) (as_val (Evl.ev_var rfl) (as_val (Evl.ev_var rfl) as_nil))) ?_) fun pr H1 _ e1 h1 => ?_
  · rintro H6 e6 xs ⟨_, _, rfl, rfl, _, _, rfl, rfl, _, _, rfl, rfl, rfl⟩ Q E q
    exact ⟨fl, a, s, pl, as, k, r, p, kd, y, rfl, N.mono e6, Pk.mono (Kp.of e6), Rp.mono e6, q⟩
  have hl : (Sd22.reply s p kd y (decide (0 < y))).length ≤ 1000 := by
    rw [reply_eq, List.length_append, List.length_replicate, List.length_append, bodyR_len Pk.ok]
    have := optRows_len (s := s) (kd := kd) (y := y) Pk.ok
    omega
  have e1l : Ev (tCB (rLenQ K) (tCons (tVar 3) tNil)) [some (.ref a), some (.ref k), some (.ref r), some (.ref pr)] H1 (.int ((Sd22.reply s p kd y (decide (0 < y))).length : Int)) :=
    Evl.ev_is (ev_lenS (Ev.s (Evl.ev_var rfl) h1)) (by rw [nv_len])
  refine Evl.s_retL (el_catN (EvL.s (el_catN (EvL.s (el_one e1l)) (EvL.s (el_callS (ys := nv [(Sd22.aim p kd y).1, (Sd22.aim p kd y).2]) (ss := [.val (.ref k), .val (.ref r)]) (as_val (Evl.ev_var rfl) (as_val (Evl.ev_var rfl) as_nil)) ?_)) (by show 1 + 2 ≤ 100000; decide))) (Ev.s (Evl.ev_var rfl) h1) (by show 3 + _ ≤ 100000; omega)) fun t H2 ht e2 h2 => q t H2 (Evl.fresh_back e1 ht) (e1.trans e2) h2
  rintro H6 e6 xs ⟨_, _, rfl, rfl, _, _, rfl, rfl, rfl⟩ Q E q
  exact ⟨k, r, p, kd, y, rfl, Pk.mono (Kp.of (e1.trans e6)), Rp.mono (e1.trans e6), q⟩
theorem ok_reply_row {f : Addr} {fd : FuncData} (F : Fun K "reply_row" "reply_row" s_reply_row f fd) (T : Txt K mg A)
    (c1 : Cal P w K mg base CX0 1 "row_of" ["number", "many"] (sp_row_of K A))
    (c2 : Cal P w K mg base CX0 3 "option_rows" ["net", "packet", "reply"] (sp_option_rows K A)) :
    FnOk P w K mg base CX0 4 f fd ["net", "packet", "reply"] (sp_reply_row K A) := by
  obtain ⟨f1, d1, F1, g1, m1, b1⟩ := c1
  obtain ⟨f2, d2, F2, g2, m2, b2⟩ := c2
  refine F.ok sc_reply_row (fun vs H Q E h => len_reply_row h) (fun cdv A0 outer s H vs Q E hr h => ⟨t_reply_row K A, ?_, pure_reply_row T vs H Q E h⟩)
  have hr1 : Room 1 _ := hr.mono (by decide)
  have hr2 : Room 3 _ := hr.mono (by decide)
  exact pss_cons (ps_set (i := 3) sc_reply_row.nd rfl (Or.inl rfl) pe_int)
      (pss_cons (ps_if (pt_cmpR op_eq (pe_fld (pv 2) rfl) (pe_gc (by rfl) T.c_ACK) (nomark _)) (pss_one (ps_set (i := 3) sc_reply_row.nd rfl (Or.inl rfl) (pe_fld (pv 1) rfl))) pss_nil)
      (pss_cons (ps_set (i := 4) sc_reply_row.nd rfl (Or.inl rfl) (pe_op op_catS (pe_op op_catS (pe_op op_catS (pe_op op_catS (pe_op op_catS (pe_lst (pa_cons pe_int (pa_cons pe_int (pa_cons pe_int (pa_cons pe_int pa_nil))))) (pe_fld (pv 1) rfl)) (pe_lst (pa_cons pe_int (pa_cons pe_int pa_nil)))) (pe_fld (pv 1) rfl)) (pe_call F1 hr1 (by rfl) g1 m1 b1 .nil pass0 (pa_cons (pv 3) (pa_cons pe_int pa_nil)))) (pe_call F1 hr1 (by rfl) g1 m1 b1 .nil pass0 (pa_cons (pe_fld (pv 2) rfl) (pa_cons pe_int pa_nil)))))
      (pss_cons (ps_set (i := 4) sc_reply_row.nd rfl (Or.inl rfl) (pe_op op_catS (pe_op op_catS (pe_op op_catS (pe_op op_catS (pe_op op_catS (pv 4) (pe_call F1 hr1 (by rfl) g1 m1 b1 .nil pass0 (pa_cons pe_int (pa_cons pe_int pa_nil)))) (pe_call F1 hr1 (by rfl) g1 m1 b1 .nil pass0 (pa_cons (pe_fld (pv 1) rfl) (pa_cons pe_int pa_nil)))) (pe_fld (pv 1) rfl)) (pe_op op_rep (pe_lst (pa_cons pe_int pa_nil)) (pe_gc (by rfl) T.c_MIDDLE_ZEROS))) (pe_gc (by rfl) T.c_MAGIC)))
      (pss_cons (ps_set (i := 4) sc_reply_row.nd rfl (Or.inl rfl) (pe_op op_catS (pv 4) (pe_call F2 hr2 (by rfl) g2 m2 b2 .nil pass0 (pa_cons (pv 0) (pa_cons (pv 1) (pa_cons (pv 2) pa_nil))))))
      (pss_one (ps_ret (pe_op op_catS (pv 4) (pe_op op_rep (pe_lst (pa_cons pe_int pa_nil)) (pe_callB (call_max2 rfl) (by rfl) T.n_max (by decide +kernel) (pa_cons pe_int (pa_cons (pe_op op_sub (pe_gc (by rfl) T.c_LEAST_BYTES) (pe_callB call_len_seq (by rfl) T.n_len PySem.boot_len (pa_cons (pv 4) pa_nil))) pa_nil)))))))))))
theorem ok_target_of {f : Addr} {fd : FuncData} (F : Fun K "target_of" "target_of" s_target_of f fd) (T : Txt K mg A) :
    FnOk P w K mg base CX0 1 f fd ["packet", "reply"] (sp_target_of K A) := by
  refine F.ok sc_target_of (fun vs H Q E h => len_target_of h) (fun cdv A0 outer s H vs Q E hr h => ⟨t_target_of K A, ?_, pure_target_of T vs H Q E h⟩)
  exact pss_cons (ps_if (pt_cmpR op_gt (pe_fld (pv 0) rfl) pe_int (nomark _)) (pss_one (ps_ret (pe_lst (pa_cons (pe_fld (pv 0) rfl) (pa_cons (pe_gc (by rfl) T.c_RELAY_PORT) pa_nil))))) pss_nil)
      (pss_cons (ps_if (pt_cmpR op_eq (pe_fld (pv 1) rfl) (pe_gc (by rfl) T.c_NAK) (nomark _)) (pss_one (ps_ret (pe_lst (pa_cons (pe_gc (by rfl) T.c_EVERYBODY) (pa_cons (pe_gc (by rfl) T.c_CLIENT_PORT) pa_nil))))) pss_nil)
      (pss_cons (ps_if (pt_cmpR op_gt (pe_fld (pv 0) rfl) pe_int (nomark _)) (pss_one (ps_ret (pe_lst (pa_cons (pe_fld (pv 0) rfl) (pa_cons (pe_gc (by rfl) T.c_CLIENT_PORT) pa_nil))))) pss_nil)
      (pss_cons (ps_if (pt_cmpR op_ge (pe_ix ix_list (pe_fld (pv 0) rfl) pe_int (fun _ _ => rfl)) (pe_gc (by rfl) T.c_BROADCAST_FLAG) (nomark _)) (pss_one (ps_ret (pe_lst (pa_cons (pe_gc (by rfl) T.c_EVERYBODY) (pa_cons (pe_gc (by rfl) T.c_CLIENT_PORT) pa_nil))))) pss_nil)
      (pss_one (ps_ret (pe_lst (pa_cons (pe_fld (pv 1) rfl) (pa_cons (pe_gc (by rfl) T.c_CLIENT_PORT) pa_nil))))))))
theorem ok_told {f : Addr} {fd : FuncData} (F : Fun K "told" "told" s_told f fd) (T : Txt K mg A)
    (c1 : Cal P w K mg base CX0 4 "reply_row" ["net", "packet", "reply"] (sp_reply_row K A))
    (c2 : Cal P w K mg base CX0 1 "target_of" ["packet", "reply"] (sp_target_of K A)) :
    FnOk P w K mg base CX0 5 f fd ["net", "packet", "reply"] (sp_told K A) := by
  obtain ⟨f1, d1, F1, g1, m1, b1⟩ := c1
  obtain ⟨f2, d2, F2, g2, m2, b2⟩ := c2
  refine F.ok sc_told (fun vs H Q E h => len_told h) (fun cdv A0 outer s H vs Q E hr h => ⟨t_told K A, ?_, pure_told T vs H Q E h⟩)
  have hr1 : Room 4 _ := hr.mono (by decide)
  have hr2 : Room 1 _ := hr.mono (by decide)
  exact pss_cons (ps_set (i := 3) sc_told.nd rfl (Or.inl rfl) (pe_call F1 hr1 (by rfl) g1 m1 b1 .nil pass0 (pa_cons (pv 0) (pa_cons (pv 1) (pa_cons (pv 2) pa_nil)))))
      (pss_one (ps_ret (pe_op op_catS (pe_op op_catS (pe_lst (pa_cons (pe_callB call_len_seq (by rfl) T.n_len PySem.boot_len (pa_cons (pv 3) pa_nil)) pa_nil)) (pe_call F2 hr2 (by rfl) g2 m2 b2 .nil pass0 (pa_cons (pv 1) (pa_cons (pv 2) pa_nil)))) (pv 3))))
end
end Lp
namespace Lp
open PySem PySem.Spec PyProof.Rows L2
open Evl (Ex Ev EvT EvA EvO EvL RetL)
section
variable {P : Program} {w : World} {K : PySem.W.Frag} {mg : Str → Option Value} {base : Heap} {A : Ad}
theorem len_discover {vs : List V} {H : Hp} {Q : VK} {E : XK} (h : sp_discover K A vs H Q E) : vs.length = 2 := by
  obtain ⟨_, _, _, _, _, _, _, rfl, _⟩ := h
  rfl
theorem len_lent {vs : List V} {H : Hp} {Q : VK} {E : XK} (h : sp_lent K A vs H Q E) : vs.length = 2 := by
  obtain ⟨_, _, _, _, _, _, _, rfl, _⟩ := h
  rfl
theorem len_request_here {vs : List V} {H : Hp} {Q : VK} {E : XK} (h : sp_request_here K A vs H Q E) : vs.length = 3 := by
  obtain ⟨_, _, _, _, _, _, _, _, rfl, _⟩ := h
  rfl
theorem len_request_again {vs : List V} {H : Hp} {Q : VK} {E : XK} (h : sp_request_again K A vs H Q E) : vs.length = 3 := by
  obtain ⟨_, _, _, _, _, _, _, _, rfl, _⟩ := h
  rfl
theorem len_request_longer {vs : List V} {H : Hp} {Q : VK} {E : XK} (h : sp_request_longer K A vs H Q E) : vs.length = 2 := by
  obtain ⟨_, _, _, _, _, _, _, rfl, _⟩ := h
  rfl
theorem len_request {vs : List V} {H : Hp} {Q : VK} {E : XK} (h : sp_request K A vs H Q E) : vs.length = 2 := by
  obtain ⟨_, _, _, _, _, _, _, rfl, _⟩ := h
  rfl
theorem len_decline {vs : List V} {H : Hp} {Q : VK} {E : XK} (h : sp_decline K A vs H Q E) : vs.length = 2 := by
  obtain ⟨_, _, _, _, _, _, _, rfl, _⟩ := h
  rfl
theorem len_release {vs : List V} {H : Hp} {Q : VK} {E : XK} (h : sp_release K A vs H Q E) : vs.length = 2 := by
  obtain ⟨_, _, _, _, _, _, _, rfl, _⟩ := h
  rfl
theorem len_reply_to {vs : List V} {H : Hp} {Q : VK} {E : XK} (h : sp_reply_to K A vs H Q E) : vs.length = 2 := by
  obtain ⟨_, _, _, _, _, _, _, rfl, _⟩ := h
  rfl
theorem who_ne {p : Sd22.Packet} (ok : PkOk p) : p.who ≠ [] := by
  unfold Sd22.Packet.who
  cases c : p.opt 61 with
  | none => exact List.cons_ne_nil _ _
  | some b => exact ok.w61 b c
section
variable {σ : L2.St} {H : Hp} {fl a pl k : Addr} {s : Sd22.Abs} {as : List Addr} {p : Sd22.Packet} {te ta tb : TE}
theorem ev_addr (c : Nat) (h : Ev te σ H (.ref k)) (hc : Ev ta σ H (.int (c : Int))) (Pk : PkAt A H k p) : Ev (tMeth A.k "address_in" (sp_Packet_address_in K A) [] E0 te (tCons ta tNil)) σ H (numV ((p.opt c).map Sd22.high)) := by
  obtain ⟨⟨dx, nq, fq, mq, od, kvs, g1, _⟩, ok⟩ := id Pk
  refine ev_methS (ss := [.val (.int (c : Int))]) h g1 (pkF_no_address_in _ _ _ _ _) (as_val hc as_nil) ?_
  rintro H1 e xs ⟨_, _, rfl, rfl, _, _, rfl, rfl, rfl⟩ Q E q
  exact ⟨k, p, c, rfl, Pk.mono (Kp.of e), q H1 (Ex.refl H1)⟩
theorem el_who (h : Ev te σ H (.ref k)) (Pk : PkAt A H k p) : EvL (tMeth A.k "who" (sp_Packet_who K A) [] E0 te tNil) σ H (nv p.who) := by
  obtain ⟨⟨dx, nq, fq, mq, od, kvs, g1, _⟩, ok⟩ := id Pk
  refine el_methS (ss := []) h g1 (pkF_no_who _ _ _ _ _) as_nil ?_
  rintro H1 e xs ⟨_, _, rfl, rfl, rfl⟩ Q E q
  exact ⟨k, p, rfl, Pk.mono (Kp.of e), q⟩
theorem ev_place {o : Option Nat} (h : Ev te σ H (.ref a)) (ho : Ev ta σ H (numV o)) (N : NetAt A fl H a s pl as) : Ev (tMeth A.n "place_of" (sp_Net_place_of K A) [] E0 te (tCons ta tNil)) σ H (plV as (o.bind s.place)) := by
  obtain ⟨dn, hn⟩ := N.obj
  refine ev_methS (ss := [.val (numV o)]) h hn (netF_no_place_of _ _ _) (as_val ho as_nil) ?_
  rintro H1 e xs ⟨_, _, rfl, rfl, _, _, rfl, rfl, rfl⟩ Q E q
  exact ⟨fl, a, s, pl, as, o, rfl, N.mono e, q H1 (Ex.refl H1)⟩
theorem ev_own {i : Nat} {x : Addr} {w : List Nat} (h : Ev te σ H (.ref x)) (hi : as[i]? = some x) (hw : EvS ta σ H (nv w)) (wn : w ≠ []) (N : NetAt A fl H a s pl as) : Ev (tMeth A.p "is_own" (sp_Place_is_own K A) [] E0 te (tCons ta tNil)) σ H (.bl (s.holds i w)) := by
  obtain ⟨dx, o, h1, h2⟩ := N.at_ i x hi
  refine ev_methS (ss := [.lst (nv w)]) h h1 (plF_no_is_own _ _ _ _) (as_lst hw as_nil) ?_
  rintro H1 e xs ⟨_, _, rfl, rfl, _, _, rfl, ⟨q, rfl, hq⟩, rfl⟩ Q E k
  exact ⟨fl, x, q, _, _, w, rfl, (N.mono e).at_ i x hi, hq, wn, k H1 (Ex.refl H1)⟩
theorem ev_near {x : Nat} (h : Ev te σ H (.ref a)) (hx : Ev ta σ H (.int (x : Int))) (N : NetAt A fl H a s pl as) : Ev (tMeth A.n "is_near" (sp_Net_is_near K A) [] E0 te (tCons ta tNil)) σ H (.bl (Sd22.sameNet s x)) := by
  obtain ⟨dn, hn⟩ := N.obj
  refine ev_methS (ss := [.val (.int (x : Int))]) h hn (netF_no_is_near _ _ _) (as_val hx as_nil) ?_
  rintro H1 e xs ⟨_, _, rfl, rfl, _, _, rfl, rfl, rfl⟩ Q E q
  exact ⟨fl, a, s, pl, as, x, rfl, N.mono e, q H1 (Ex.refl H1)⟩
theorem ev_mine {w : List Nat} (h : Ev te σ H (.ref a)) (hw : EvS ta σ H (nv w)) (wn : w ≠ []) (N : NetAt A fl H a s pl as) : Ev (tMeth A.n "own_place" (sp_Net_own_place K A) [] E0 te (tCons ta tNil)) σ H (plV as (s.mine w)) := by
  obtain ⟨dn, hn⟩ := N.obj
  refine ev_methS (ss := [.lst (nv w)]) h hn (netF_no_own_place _ _ _) (as_lst hw as_nil) ?_
  rintro H1 e xs ⟨_, _, rfl, rfl, _, _, rfl, ⟨q, rfl, hq⟩, rfl⟩ Q E k
  exact ⟨fl, a, s, pl, as, q, w, rfl, N.mono e, hq, wn, k H1 (Ex.refl H1)⟩
theorem ev_pk {f : Str} {v : V} (h : Ev te σ H (.ref k)) (Pk : PkAt A H k p) (c : Cls K A.k) (n : NoAttr K A.k f) (l : ∀ nq fq mq od, (pkF nq fq mq od p).lookup f = some v) : Ev (tFld K te f) σ H v := by
  obtain ⟨⟨dx, nq, fq, mq, od, kvs, g1, _⟩, ok⟩ := Pk
  exact ev_fld h g1 c n (l _ _ _ _)
theorem ev_isN {x : V} (h : Ev te σ H x) : EvT (tTest (tOp oIsN te (tC .non))) σ H (decide (x = .non)) := Evl.et_test (Evl.ev_op h Evl.ev_c rv_isN)
theorem ev_notN {x : V} (h : Ev te σ H x) : EvT (tTest (tOp oNotN te (tC .non))) σ H (!decide (x = .non)) := Evl.et_test (Evl.ev_op h Evl.ev_c rv_notN)
theorem ev_neI {i j : Int} (ha : Ev ta σ H (.int i)) (hb : Ev tb σ H (.int j)) : EvT (tTest (tOp rNe ta tb)) σ H (!(i == j)) := Evl.et_test (Evl.ev_is (Evl.ev_op ha hb (Evl.rv_ne rfl)) (by rw [dec_int]))
/-- return Reply(..) -/
theorem s_ret_rp {D : Ends} {kd y : Nat} (ha : Ev ta σ H (.int (kd : Int))) (hb : Ev tb σ H (.int (y : Int))) (q : ∀ H' r, Ex H H' → RpAt A H' r kd y → D.rt (.ref r) H') : tRet (tMake A.r (sp_initR K A) [] E0 (tCons ta (tCons tb tNil))) D σ H := by
  refine ha H (Ex.refl H) _ fun H1 e1 => hb H1 e1 _ fun H2 e2 => fun x dx nx nd ne => ?_
  refine ⟨x, dx, kd, y, rfl, upd_same, rfl, ?_⟩
  refine q _ x (fun b o h => ?_) ⟨dx, upd_same⟩
  have h2 := e2 _ _ (e1 _ _ h)
  rw [upd_ne (ne_of_none h2 nx), upd_ne (ne_of_none h2 nx), upd_ne (ne_of_none h2 nd)]
  exact h2
end
theorem plV_none {as : List Addr} : decide (plV as none = .non) = true := rfl
theorem plV_no {as : List Addr} {i : Nat} {p : Addr} (h : as[i]? = some p) : decide (plV as (some i) = .non) = false := by
  rw [plV_some h]
  rfl
/-- nothing is said -/
theorem Done.quiet {fl : Addr} {H H1 : Hp} {a pl : Addr} {as : List Addr} {s : Sd22.Abs} {x : Rr} {Q : VK} (q : Done A fl H a pl as x Q) (e : x = (s, none)) (N : NetAt A fl H a s pl as) (e1 : Ex H H1) : Q .non H1 := by
  subst e
  exact q H1 .non rfl (N.mono e1) (Kp.of e1)
/-- an answer is said, all as it was -/
theorem Done.says {fl : Addr} {H H1 H2 : Hp} {a pl r : Addr} {as : List Addr} {s : Sd22.Abs} {x : Rr} {Q : VK} {kd y : Nat} (q : Done A fl H a pl as x Q) (e : x = (s, some (kd, y))) (N : NetAt A fl H a s pl as) (e1 : Ex H H1) (e2 : Ex H1 H2) (hr : RpAt A H2 r kd y) : Q (.ref r) H2 := by
  subst e
  exact q H2 (.ref r) ⟨r, rfl, hr⟩ (N.mono (e1.trans e2)) (Kp.of (e1.trans e2))
theorem pure_lent (T : Txt K mg A) (vs : List V) (H : Hp) (Q : VK) (E : XK) (h : sp_lent K A vs H Q E) : t_lent K A (endOf Q) (start N_lent vs) H := by
  obtain ⟨fl, a, s, pl, as, i, p, rfl, N, hi, q⟩ := h
  obtain ⟨dn, hn⟩ := N.obj
  obtain ⟨dx, o, h1, h2⟩ := N.at_ i p hi
  refine ⟨_, rfl, a, dn, _, rfl, hn, netF_no_lend _ _ _, _, rfl, fl, a, s, pl, as, p, dx, _, _, _, o, rfl, N, h1, ?_⟩
  have N2 := N.put (l := ⟨2, s.now + s.net.time, (s.at_ i).who⟩) hi h1 h2
  refine s_ret_rp Evl.ev_c (ev_fld (Evl.ev_var rfl) upd_same T.cl_Place T.a_Place_address (plF_address _ _ _ _)) fun H' r e hr => ?_
  exact q H' (.ref r) ⟨r, rfl, hr⟩ (N2.mono e) ((Kp.put h1).trans (Kp.of e))
/-- return lent(net, place) -/
theorem s_ret_lent {D : Ends} {σ : L2.St} {H H0 : Hp} {fl a pl x : Addr} {s : Sd22.Abs} {as : List Addr} {i : Nat} {te ta : TE} {Q : VK} {y : Rr} (h1 : Ev te σ H (.ref a)) (h2 : Ev ta σ H (.ref x)) (N : NetAt A fl H0 a s pl as) (hi : as[i]? = some x) (hD : D.rt = Q) (e0 : Ex H0 H) (q : Done A fl H0 a pl as y Q) (ey : y = lentR s i) :
    tRet (tCall (sp_lent K A) [] E0 (tCons te (tCons ta tNil))) D σ H := by
  refine h1 H (Ex.refl H) _ fun H1 e1 => h2 H1 e1 _ fun H2 e2 => ?_
  refine ⟨fl, a, s, pl, as, i, x, rfl, N.mono ((e0.trans e1).trans e2), hi, fun H' v hv hN hk => ?_⟩
  rw [hD]
  refine q H' v ?_ ?_ ((Kp.of ((e0.trans e1).trans e2)).trans hk)
  · rw [ey]; exact hv
  · rw [ey]; exact hN
theorem pure_request_here (T : Txt K mg A) (vs : List V) (H : Hp) (Q : VK) (E : XK) (h : sp_request_here K A vs H Q E) : t_request_here K A (endOf Q) (start N_request_here vs) H := by
  obtain ⟨fl, a, s, pl, as, k, p, o, rfl, N, Pk, q⟩ := h
  refine Evl.q_when (b := decide (numV o = .non) || decide ((0 : Int) < (p.client : Int))) (Evl.et_or (ev_isN (Evl.ev_var rfl)) fun _ => ev_gt (ev_pk (Evl.ev_var rfl) Pk T.cl_Packet T.a_Packet_client fun _ _ _ _ => pkF_client _ _ _ _ _) Evl.ev_c) ?_ ?_
  · intro hc H1 e1
    refine Evl.s_ret Evl.ev_c fun H2 e2 => q.quiet ?_ N (e1.trans e2)
    unfold hereR
    cases o with
    | none => rfl
    | some x =>
      have : p.client ≠ 0 := by
        rw [Bool.or_eq_true, decide_eq_true_iff, decide_eq_true_iff] at hc
        rcases hc with hc | hc
        · cases hc
        · omega
      exact if_pos this
  · intro hc H1 e1
    rw [Bool.or_eq_false_iff, decide_eq_false_iff_not, decide_eq_false_iff_not] at hc
    cases o with
    | none => exact absurd rfl hc.1
    | some x =>
      have hcl : ¬ p.client ≠ 0 := by have := hc.2; omega
      have hR : hereR s p (some x) = match s.place x with
          | none => (s, some (6, 0))
          | some i => if s.holds i p.who = true then lentR s i else (s, some (6, 0)) := if_neg hcl
      refine Evl.q_asg (ev_place (Evl.ev_var rfl) (Evl.ev_var rfl) (N.mono e1)) fun H2 e2 => ?_
      have e12 := e1.trans e2
      cases hp : s.place x with
      | none =>
        rw [show (some x).bind s.place = s.place x from rfl, hp]
        rw [hp] at hR
        refine Evl.q_when (b := false) (Evl.et_is (Evl.et_and (a := false) (b := false) (ev_notN (x := .non) (Evl.ev_var rfl)) fun z => by cases z) rfl) (fun z => by cases z) fun _ H3 e3 => ?_
        exact s_ret_rp (kd := 6) (y := 0) Evl.ev_c Evl.ev_c fun H' r e hr => q.says hR N (e12.trans e3) e hr
      | some i =>
        rw [show (some x).bind s.place = s.place x from rfl, hp]
        rw [hp] at hR
        dsimp only at hR
        obtain ⟨y, hy⟩ := N.get (i := i) (by obtain ⟨z1, z2, z3⟩ := place_some hp; omega)
        rw [plV_some hy]
        refine Evl.q_when (b := s.holds i p.who) (Evl.et_is (Evl.et_and (a := true) (b := s.holds i p.who) (ev_notN (x := .ref y) (Evl.ev_var rfl)) fun _ => Evl.et_B (ev_own (Evl.ev_var rfl) hy (EvL.s (el_who (Evl.ev_var rfl) (Pk.mono (Kp.of e12)))) (who_ne Pk.ok) (N.mono e12))) rfl) ?_ ?_
        · intro hh H3 e3
          exact s_ret_lent (Evl.ev_var rfl) (Evl.ev_var rfl) N hy rfl (e12.trans e3) q (by rw [hR, if_pos hh])
        · intro hh H3 e3
          exact s_ret_rp (kd := 6) (y := 0) Evl.ev_c Evl.ev_c fun H' r e hr => q.says (by rw [hR, if_neg (by rw [hh]; exact Bool.false_ne_true)]) N (e12.trans e3) e hr
theorem pure_request_again (T : Txt K mg A) (vs : List V) (H : Hp) (Q : VK) (E : XK) (h : sp_request_again K A vs H Q E) : t_request_again K A (endOf Q) (start N_request_again vs) H := by
  obtain ⟨fl, a, s, pl, as, k, p, x, rfl, N, Pk, q⟩ := h
  refine Evl.q_when (b := decide ((0 : Int) < (p.client : Int))) (ev_gt (ev_pk (Evl.ev_var rfl) Pk T.cl_Packet T.a_Packet_client fun _ _ _ _ => pkF_client _ _ _ _ _) Evl.ev_c) ?_ ?_
  · intro hc H1 e1
    refine Evl.s_ret Evl.ev_c fun H2 e2 => q.quiet (if_pos ?_) N (e1.trans e2)
    have := of_decide_eq_true hc
    omega
  intro hc H1 e1
  have hcl : ¬ p.client ≠ 0 := by have := of_decide_eq_false hc; omega
  have hR := show againR s p x = _ from if_neg hcl
  refine Evl.q_when (b := ((p.relay : Int) == 0) && !(Sd22.sameNet s x)) (Evl.et_and (ev_eqI (ev_pk (Evl.ev_var rfl) (Pk.mono (Kp.of e1)) T.cl_Packet T.a_Packet_relay fun _ _ _ _ => pkF_relay _ _ _ _ _) Evl.ev_c) fun _ => Evl.et_not (Evl.et_B (ev_near (Evl.ev_var rfl) (Evl.ev_var rfl) (N.mono e1)))) ?_ ?_
  · intro hc H2 e2
    refine s_ret_rp (kd := 6) (y := 0) Evl.ev_c Evl.ev_c fun H' r e hr => q.says (hR.trans (if_pos ?_)) N (e1.trans e2) e hr
    rw [Bool.and_eq_true, beq_iff_eq, Bool.not_eq_true'] at hc
    exact ⟨by omega, hc.2⟩
  intro hc2 H2 e2
  have hne : ¬ (p.relay = 0 ∧ Sd22.sameNet s x = false) := fun z => by
    rw [z.1, z.2] at hc2
    cases hc2
  have hR2 := hR.trans (if_neg hne)
  have e12 := e1.trans e2
  refine Evl.q_asg (ev_place (o := some x) (Evl.ev_var rfl) (Evl.ev_var rfl) (N.mono e12)) fun H3 e3 => ?_
  have e13 := e12.trans e3
  rw [show (some x).bind s.place = s.place x from rfl]
  cases hp : s.place x with
  | none =>
    rw [hp] at hR2
    refine Evl.q_when (b := true) (ev_isN (x := .non) (Evl.ev_var rfl)) (fun _ H4 e4 => ?_) fun z => by cases z
    exact Evl.s_ret Evl.ev_c fun H5 e5 => q.quiet hR2 N ((e13.trans e4).trans e5)
  | some i =>
    rw [hp] at hR2
    dsimp only at hR2
    obtain ⟨y, hy⟩ := N.get (i := i) (by obtain ⟨z1, z2, z3⟩ := place_some hp; omega)
    rw [plV_some hy]
    refine Evl.q_when (b := false) (ev_isN (x := .ref y) (Evl.ev_var rfl)) (fun z => by cases z) fun _ H4 e4 => ?_
    have e14 := e13.trans e4
    refine Evl.q_when (b := s.holds i p.who) (Evl.et_B (ev_own (Evl.ev_var rfl) hy (EvL.s (el_who (Evl.ev_var rfl) (Pk.mono (Kp.of e14)))) (who_ne Pk.ok) (N.mono e14))) ?_ ?_
    · intro hh H5 e5
      exact s_ret_lent (Evl.ev_var rfl) (Evl.ev_var rfl) N hy rfl (e14.trans e5) q (by rw [hR2, if_pos hh])
    intro hh H5 e5
    have e15 := e14.trans e5
    rw [if_neg (by rw [hh]; exact Bool.false_ne_true)] at hR2
    have em := ev_mine (K := K) (σ := [some (.ref a), some (.ref k), some (.int (x : Int)), some (.ref y)]) (te := tVar 0) (ta := tMeth A.k "who" (sp_Packet_who K A) [] E0 (tVar 1) tNil) (Evl.ev_var rfl) (EvL.s (el_who (Evl.ev_var rfl) (Pk.mono (Kp.of e15)))) (who_ne Pk.ok) (N.mono e15)
    cases hm : s.mine p.who with
    | none =>
      rw [hm] at em hR2
      refine Evl.q_when (b := false) (ev_notN (x := .non) em) (fun z => by cases z) fun _ H6 e6 => ?_
      exact Evl.s_ret Evl.ev_c fun H7 e7 => q.quiet hR2 N ((e15.trans e6).trans e7)
    | some j =>
      obtain ⟨z, hz⟩ := N.get (mine_lt hm)
      rw [hm] at em hR2
      rw [plV_some hz] at em
      refine Evl.q_when (b := true) (ev_notN (x := .ref z) em) (fun _ H6 e6 => ?_) fun z => by cases z
      exact s_ret_rp (kd := 6) (y := 0) Evl.ev_c Evl.ev_c fun H' r e hr => q.says hR2 N (e15.trans e6) e hr
theorem pure_request_longer (T : Txt K mg A) (vs : List V) (H : Hp) (Q : VK) (E : XK) (h : sp_request_longer K A vs H Q E) : t_request_longer K A (endOf Q) (start N_request_longer vs) H := by
  obtain ⟨fl, a, s, pl, as, k, p, rfl, N, Pk, q⟩ := h
  refine Evl.q_asg (ev_place (o := some p.client) (Evl.ev_var rfl) (ev_pk (Evl.ev_var rfl) Pk T.cl_Packet T.a_Packet_client fun _ _ _ _ => pkF_client _ _ _ _ _) N) fun H1 e1 => ?_
  rw [show (some p.client).bind s.place = s.place p.client from rfl]
  have ecl : EvT (tTest (tOp rEq (tFld K (tVar 1) "client") (tC (.int 0)))) [some (.ref a), some (.ref k), some (plV as (s.place p.client))] H1 ((p.client : Int) == 0) := ev_eqI (ev_pk (Evl.ev_var rfl) (Pk.mono (Kp.of e1)) T.cl_Packet T.a_Packet_client fun _ _ _ _ => pkF_client _ _ _ _ _) Evl.ev_c
  refine Evl.q_when (b := ((p.client : Int) == 0) || decide (plV as (s.place p.client) = .non)) (Evl.et_or ecl fun _ => ev_isN (Evl.ev_var rfl)) ?_ ?_
  · intro hc H2 e2
    refine Evl.s_ret Evl.ev_c fun H3 e3 => q.quiet ?_ N ((e1.trans e2).trans e3)
    unfold longerR
    by_cases h0 : p.client = 0
    · exact if_pos h0
    · rw [if_neg h0]
      cases hp : s.place p.client with
      | none => rfl
      | some i =>
        obtain ⟨y, hy⟩ := N.get (i := i) (by obtain ⟨z1, z2, z3⟩ := place_some hp; omega)
        rw [hp, plV_no hy, Bool.or_false, beq_iff_eq] at hc
        omega
  intro hc H2 e2
  rw [Bool.or_eq_false_iff, beq_eq_false_iff_ne] at hc
  have h0 : ¬ p.client = 0 := by have := hc.1; omega
  have hR := show longerR s p = _ from if_neg h0
  have e12 := e1.trans e2
  cases hp : s.place p.client with
  | none => rw [hp] at hc; cases hc.2
  | some i =>
    obtain ⟨y, hy⟩ := N.get (i := i) (by obtain ⟨z1, z2, z3⟩ := place_some hp; omega)
    rw [hp] at hR
    dsimp only at hR
    rw [plV_some hy]
    obtain ⟨dx, o, g1, g2⟩ := (N.mono e12).at_ i y hy
    refine Evl.q_when (b := s.holds i p.who && (((s.at_ i).state : Int) == 2)) (Evl.et_and (Evl.et_B (ev_own (Evl.ev_var rfl) hy (EvL.s (el_who (Evl.ev_var rfl) (Pk.mono (Kp.of e12)))) (who_ne Pk.ok) (N.mono e12))) fun _ => ev_eqI (ev_fld (Evl.ev_var rfl) g1 T.cl_Place T.a_Place_state (plF_state _ _ _ _)) Evl.ev_c) ?_ ?_
    · intro hh H3 e3
      rw [Bool.and_eq_true, beq_iff_eq] at hh
      exact s_ret_lent (Evl.ev_var rfl) (Evl.ev_var rfl) N hy rfl (e12.trans e3) q (by rw [hR, if_pos ⟨hh.1, by have := hh.2; omega⟩])
    · intro hh H3 e3
      refine s_ret_rp (kd := 6) (y := 0) Evl.ev_c Evl.ev_c fun H' r e hr => q.says (by rw [hR, if_neg]; rintro ⟨z1, z2⟩; rw [z1, z2] at hh; cases hh) N (e12.trans e3) e hr
theorem ok_lent {f : Addr} {fd : FuncData} (F : Fun K "lent" "lent" s_lent f fd) (T : Txt K mg A)
    (c1 : CalM P w K mg base CX0 2 A.n "lend" ["self", "place"] (sp_Net_lend K A))
    (c2 : CalC P w K mg base CX0 1 A.r "Reply" ["self", "kind", "yours"] (sp_initR K A)) :
    FnOk P w K mg base CX0 3 f fd ["net", "place"] (sp_lent K A) := by
  obtain ⟨f1, d1, F1, m1, b1⟩ := c1
  obtain ⟨f2, d2, F2, m2, g2, b2⟩ := c2
  refine F.ok sc_lent (fun vs H Q E h => len_lent h) (fun cdv A0 outer s H vs Q E hr h => ⟨t_lent K A, ?_, pure_lent T vs H Q E h⟩)
  have hr1 : Room 2 _ := hr.mono (by decide)
  have hr2 : Room (1 + 1) _ := hr.mono (by decide)
  exact pss_cons (ps_expr (pe_meth (pv 0) T.cl_Net m1 F1 hr1 b1 .nil pass0 (pa_cons (pv 1) pa_nil)))
      (pss_one (ps_ret (pe_make m2 F2 hr2 (by rfl) g2 b2 .nil pass0 (pa_cons (pe_gc (by rfl) T.c_ACK) (pa_cons (pe_fld (pv 1) rfl) pa_nil)))))
theorem ok_request_here {f : Addr} {fd : FuncData} (F : Fun K "request_here" "request_here" s_request_here f fd) (T : Txt K mg A)
    (c1 : CalM P w K mg base CX0 1 A.n "place_of" ["self", "address"] (sp_Net_place_of K A))
    (c2 : CalM P w K mg base CX0 1 A.p "is_own" ["self", "who"] (sp_Place_is_own K A))
    (c3 : CalM P w K mg base CX0 1 A.k "who" ["self"] (sp_Packet_who K A))
    (c4 : Cal P w K mg base CX0 3 "lent" ["net", "place"] (sp_lent K A))
    (c5 : CalC P w K mg base CX0 1 A.r "Reply" ["self", "kind", "yours"] (sp_initR K A)) :
    FnOk P w K mg base CX0 4 f fd ["net", "packet", "wanted"] (sp_request_here K A) := by
  obtain ⟨f1, d1, F1, m1, b1⟩ := c1
  obtain ⟨f2, d2, F2, m2, b2⟩ := c2
  obtain ⟨f3, d3, F3, m3, b3⟩ := c3
  obtain ⟨f4, d4, F4, g4, m4, b4⟩ := c4
  obtain ⟨f5, d5, F5, m5, g5, b5⟩ := c5
  refine F.ok sc_request_here (fun vs H Q E h => len_request_here h) (fun cdv A0 outer s H vs Q E hr h => ⟨t_request_here K A, ?_, pure_request_here T vs H Q E h⟩)
  have hr1 : Room 1 _ := hr.mono (by decide)
  have hr2 : Room 1 _ := hr.mono (by decide)
  have hr3 : Room 1 _ := hr.mono (by decide)
  have hr4 : Room 3 _ := hr.mono (by decide)
  have hr5 : Room (1 + 1) _ := hr.mono (by decide)
  exact pss_cons (ps_if (PW.pt (pw_or (pt_cmpR op_isN (pv 2) pe_non (nomark _)) (pw_or1 (pt_cmpR op_gt (pe_fld (pv 1) rfl) pe_int (nomark _))))) (pss_one (ps_ret pe_non)) pss_nil)
      (pss_cons (ps_set (i := 3) sc_request_here.nd rfl (Or.inl rfl) (pe_meth (pv 0) T.cl_Net m1 F1 hr1 b1 .nil pass0 (pa_cons (pv 2) pa_nil)))
      (pss_cons (ps_if (PW.pt (pw_and (pt_cmpR op_notN (pv 3) pe_non (nomark _)) (pw_and1 (pt_val (pe_meth (pv 3) T.cl_Place m2 F2 hr2 b2 .nil pass0 (pa_cons (pe_meth0 (pv 1) T.cl_Packet m3 F3 hr3 b3 .nil pass0) pa_nil)))))) (pss_one (ps_ret (pe_call F4 hr4 (by rfl) g4 m4 b4 .nil pass0 (pa_cons (pv 0) (pa_cons (pv 3) pa_nil))))) pss_nil)
      (pss_one (ps_ret (pe_make m5 F5 hr5 (by rfl) g5 b5 .nil pass0 (pa_cons (pe_gc (by rfl) T.c_NAK) (pa_cons pe_int pa_nil)))))))
theorem ok_request_again {f : Addr} {fd : FuncData} (F : Fun K "request_again" "request_again" s_request_again f fd) (T : Txt K mg A)
    (c1 : CalM P w K mg base CX0 1 A.n "is_near" ["self", "address"] (sp_Net_is_near K A))
    (c2 : CalC P w K mg base CX0 1 A.r "Reply" ["self", "kind", "yours"] (sp_initR K A))
    (c3 : CalM P w K mg base CX0 1 A.n "place_of" ["self", "address"] (sp_Net_place_of K A))
    (c4 : CalM P w K mg base CX0 1 A.p "is_own" ["self", "who"] (sp_Place_is_own K A))
    (c5 : CalM P w K mg base CX0 1 A.k "who" ["self"] (sp_Packet_who K A))
    (c6 : Cal P w K mg base CX0 3 "lent" ["net", "place"] (sp_lent K A))
    (c7 : CalM P w K mg base CX0 2 A.n "own_place" ["self", "who"] (sp_Net_own_place K A)) :
    FnOk P w K mg base CX0 4 f fd ["net", "packet", "wanted"] (sp_request_again K A) := by
  obtain ⟨f1, d1, F1, m1, b1⟩ := c1
  obtain ⟨f2, d2, F2, m2, g2, b2⟩ := c2
  obtain ⟨f3, d3, F3, m3, b3⟩ := c3
  obtain ⟨f4, d4, F4, m4, b4⟩ := c4
  obtain ⟨f5, d5, F5, m5, b5⟩ := c5
  obtain ⟨f6, d6, F6, g6, m6, b6⟩ := c6
  obtain ⟨f7, d7, F7, m7, b7⟩ := c7
  refine F.ok sc_request_again (fun vs H Q E h => len_request_again h) (fun cdv A0 outer s H vs Q E hr h => ⟨t_request_again K A, ?_, pure_request_again T vs H Q E h⟩)
  have hr1 : Room 1 _ := hr.mono (by decide)
  have hr2 : Room (1 + 1) _ := hr.mono (by decide)
  have hr3 : Room 1 _ := hr.mono (by decide)
  have hr4 : Room 1 _ := hr.mono (by decide)
  have hr5 : Room 1 _ := hr.mono (by decide)
  have hr6 : Room 3 _ := hr.mono (by decide)
  have hr7 : Room 2 _ := hr.mono (by decide)
  exact pss_cons (ps_if (pt_cmpR op_gt (pe_fld (pv 1) rfl) pe_int (nomark _)) (pss_one (ps_ret pe_non)) pss_nil)
      (pss_cons (ps_if (PW.pt (pw_and (pt_cmpR op_eq (pe_fld (pv 1) rfl) pe_int (nomark _)) (pw_and1 (pt_not (pt_val (pe_meth (pv 0) T.cl_Net m1 F1 hr1 b1 .nil pass0 (pa_cons (pv 2) pa_nil))))))) (pss_one (ps_ret (pe_make m2 F2 hr2 (by rfl) g2 b2 .nil pass0 (pa_cons (pe_gc (by rfl) T.c_NAK) (pa_cons pe_int pa_nil))))) pss_nil)
      (pss_cons (ps_set (i := 3) sc_request_again.nd rfl (Or.inl rfl) (pe_meth (pv 0) T.cl_Net m3 F3 hr3 b3 .nil pass0 (pa_cons (pv 2) pa_nil)))
      (pss_cons (ps_if (pt_cmpR op_isN (pv 3) pe_non (nomark _)) (pss_one (ps_ret pe_non)) pss_nil)
      (pss_cons (ps_if (pt_val (pe_meth (pv 3) T.cl_Place m4 F4 hr4 b4 .nil pass0 (pa_cons (pe_meth0 (pv 1) T.cl_Packet m5 F5 hr5 b5 .nil pass0) pa_nil))) (pss_one (ps_ret (pe_call F6 hr6 (by rfl) g6 m6 b6 .nil pass0 (pa_cons (pv 0) (pa_cons (pv 3) pa_nil))))) pss_nil)
      (pss_cons (ps_if (pt_cmpR op_notN (pe_meth (pv 0) T.cl_Net m7 F7 hr7 b7 .nil pass0 (pa_cons (pe_meth0 (pv 1) T.cl_Packet m5 F5 hr5 b5 .nil pass0) pa_nil)) pe_non (nomark _)) (pss_one (ps_ret (pe_make m2 F2 hr2 (by rfl) g2 b2 .nil pass0 (pa_cons (pe_gc (by rfl) T.c_NAK) (pa_cons pe_int pa_nil))))) pss_nil)
      (pss_one (ps_ret pe_non)))))))
theorem ok_request_longer {f : Addr} {fd : FuncData} (F : Fun K "request_longer" "request_longer" s_request_longer f fd) (T : Txt K mg A)
    (c1 : CalM P w K mg base CX0 1 A.n "place_of" ["self", "address"] (sp_Net_place_of K A))
    (c2 : CalM P w K mg base CX0 1 A.p "is_own" ["self", "who"] (sp_Place_is_own K A))
    (c3 : CalM P w K mg base CX0 1 A.k "who" ["self"] (sp_Packet_who K A))
    (c4 : Cal P w K mg base CX0 3 "lent" ["net", "place"] (sp_lent K A))
    (c5 : CalC P w K mg base CX0 1 A.r "Reply" ["self", "kind", "yours"] (sp_initR K A)) :
    FnOk P w K mg base CX0 4 f fd ["net", "packet"] (sp_request_longer K A) := by
  obtain ⟨f1, d1, F1, m1, b1⟩ := c1
  obtain ⟨f2, d2, F2, m2, b2⟩ := c2
  obtain ⟨f3, d3, F3, m3, b3⟩ := c3
  obtain ⟨f4, d4, F4, g4, m4, b4⟩ := c4
  obtain ⟨f5, d5, F5, m5, g5, b5⟩ := c5
  refine F.ok sc_request_longer (fun vs H Q E h => len_request_longer h) (fun cdv A0 outer s H vs Q E hr h => ⟨t_request_longer K A, ?_, pure_request_longer T vs H Q E h⟩)
  have hr1 : Room 1 _ := hr.mono (by decide)
  have hr2 : Room 1 _ := hr.mono (by decide)
  have hr3 : Room 1 _ := hr.mono (by decide)
  have hr4 : Room 3 _ := hr.mono (by decide)
  have hr5 : Room (1 + 1) _ := hr.mono (by decide)
  exact pss_cons (ps_set (i := 2) sc_request_longer.nd rfl (Or.inl rfl) (pe_meth (pv 0) T.cl_Net m1 F1 hr1 b1 .nil pass0 (pa_cons (pe_fld (pv 1) rfl) pa_nil)))
      (pss_cons (ps_if (PW.pt (pw_or (pt_cmpR op_eq (pe_fld (pv 1) rfl) pe_int (nomark _)) (pw_or1 (pt_cmpR op_isN (pv 2) pe_non (nomark _))))) (pss_one (ps_ret pe_non)) pss_nil)
      (pss_cons (ps_if (PW.pt (pw_and (pt_val (pe_meth (pv 2) T.cl_Place m2 F2 hr2 b2 .nil pass0 (pa_cons (pe_meth0 (pv 1) T.cl_Packet m3 F3 hr3 b3 .nil pass0) pa_nil))) (pw_and1 (pt_cmpR op_eq (pe_fld (pv 2) rfl) (pe_gc (by rfl) T.c_LENT) (nomark _))))) (pss_one (ps_ret (pe_call F4 hr4 (by rfl) g4 m4 b4 .nil pass0 (pa_cons (pv 0) (pa_cons (pv 2) pa_nil))))) pss_nil)
      (pss_one (ps_ret (pe_make m5 F5 hr5 (by rfl) g5 b5 .nil pass0 (pa_cons (pe_gc (by rfl) T.c_NAK) (pa_cons pe_int pa_nil)))))))
end
end Lp
namespace Lp
open PySem PySem.Spec PyProof.Rows L2
open Evl (Ex Ev EvT EvA EvO EvL RetL)
section
variable {P : Program} {w : World} {K : PySem.W.Frag} {mg : Str → Option Value} {base : Heap} {A : Ad}
theorem numV_none {o : Option Nat} : decide (numV o = .non) = o.isNone := by
  cases o <;> rfl
theorem Done.of {fl : Addr} {H H1 : Hp} {a pl : Addr} {as : List Addr} {x y : Rr} {Q : VK} (q : Done A fl H a pl as x Q) (e : Kp H H1) (ey : x = y) : Done A fl H1 a pl as y Q := fun H' v h1 h2 h3 => by
  subst ey
  exact q H' v h1 h2 (e.trans h3)
/-- return f(net, packet) -/
theorem s_ret_c2 {sp : Sp} {D : Ends} {σ : L2.St} {H : Hp} {a k : Addr} {te ta : TE} {E : XK} (h1 : Ev te σ H (.ref a)) (h2 : Ev ta σ H (.ref k)) (q : ∀ H1, Ex H H1 → sp [.ref a, .ref k] H1 D.rt E) : tRet (tCall sp [] E (tCons te (tCons ta tNil))) D σ H :=
  h1 H (Ex.refl H) _ fun H1 e1 => h2 H1 e1 _ fun H2 e2 => q H2 (e1.trans e2)
theorem s_ret_c3 {sp : Sp} {D : Ends} {σ : L2.St} {H : Hp} {a k : Addr} {v : V} {te ta tb : TE} {E : XK} (h1 : Ev te σ H (.ref a)) (h2 : Ev ta σ H (.ref k)) (h3 : Ev tb σ H v) (q : ∀ H1, Ex H H1 → sp [.ref a, .ref k, v] H1 D.rt E) : tRet (tCall sp [] E (tCons te (tCons ta (tCons tb tNil)))) D σ H :=
  h1 H (Ex.refl H) _ fun H1 e1 => h2 H1 e1 _ fun H2 e2 => h3 H2 (e1.trans e2) _ fun H3 e3 => q H3 ((e1.trans e2).trans e3)
theorem pure_request (T : Txt K mg A) (vs : List V) (H : Hp) (Q : VK) (E : XK) (h : sp_request K A vs H Q E) : t_request K A (endOf Q) (start N_request vs) H := by
  obtain ⟨fl, a, s, pl, as, k, p, rfl, N, Pk, q⟩ := h
  refine Evl.q_asg (ev_addr 50 (Evl.ev_var rfl) Evl.ev_c Pk) fun H1 e1 => ?_
  refine Evl.q_asg (ev_addr 54 (Evl.ev_var rfl) Evl.ev_c (Pk.mono (Kp.of e1))) fun H2 e2 => ?_
  have e12 := e1.trans e2
  have ew : (p.opt 50).map Sd22.high = p.wanted := rfl
  have es : (p.opt 54).map Sd22.high = p.server := rfl
  rw [ew, es]
  have esl : EvT (tTest (tOp oNotN (tVar 3) (tC .non))) [some (.ref a), some (.ref k), some (numV p.wanted), some (numV p.server)] H2 (!decide (numV p.server = .non)) := ev_notN (Evl.ev_var rfl)
  rw [numV_none] at esl
  refine Evl.q_when esl ?_ ?_
  · intro hc H3 e3
    cases hs : p.server with
    | none => rw [hs] at hc; cases hc
    | some v =>
      have e13 := e12.trans e3
      have N3 := N.mono e13
      have hR : requestR s p = if v ≠ s.net.server then (unofferR s p.who, none) else hereR s p p.wanted := by
        unfold requestR
        rw [hs]
      refine Evl.q_when (b := !((v : Int) == (s.net.server : Int))) (ev_neI (Evl.ev_var rfl) (ev_net T (Evl.ev_var rfl) N3 T.a_Net_server (netF_server _ _ _))) ?_ ?_
      · intro hn H4 e4
        have hv : v ≠ s.net.server := by
          rw [Bool.not_eq_true', beq_eq_false_iff_ne] at hn
          omega
        have e14 := e13.trans e4
        have N4 := N.mono e14
        obtain ⟨dn, hn4⟩ := N4.obj
        refine ⟨_, rfl, a, dn, _, rfl, hn4, netF_no_unoffer _ _ _, ?_⟩
        refine el_who (K := K) (Evl.ev_var rfl) (Pk.mono (Kp.of e14)) H4 (Ex.refl H4) _ fun pw H5 _ e5 h5 => ?_
        refine ⟨fl, a, s, pl, as, pw, p.who, rfl, N4.mono e5, h5, who_ne Pk.ok, fun H6 N6 k6 => ?_⟩
        refine q H6 .non ?_ ?_ ((Kp.of (e14.trans e5)).trans k6)
        · rw [hR, if_pos hv]
          rfl
        · rw [hR, if_pos hv]
          exact N6
      · intro hn H4 e4
        have hv : ¬ v ≠ s.net.server := by
          rw [Bool.not_eq_false', beq_iff_eq] at hn
          omega
        have e14 := e13.trans e4
        refine s_ret_c3 (Evl.ev_var rfl) (Evl.ev_var rfl) (Evl.ev_var (v := numV p.wanted) rfl) fun H5 e5 => ?_
        exact ⟨fl, a, s, pl, as, k, p, p.wanted, rfl, N.mono (e14.trans e5), Pk.mono (Kp.of (e14.trans e5)), q.of (Kp.of (e14.trans e5)) (by rw [hR, if_neg hv])⟩
  · intro hc H3 e3
    have e13 := e12.trans e3
    cases hs : p.server with
    | some v => rw [hs] at hc; cases hc
    | none =>
      have ewl : EvT (tTest (tOp oNotN (tVar 2) (tC .non))) [some (.ref a), some (.ref k), some (numV p.wanted), some (numV none)] H3 (!decide (numV p.wanted = .non)) := ev_notN (Evl.ev_var rfl)
      rw [numV_none] at ewl
      refine Evl.q_when ewl ?_ ?_
      · intro hw H4 e4
        cases hp : p.wanted with
        | none => rw [hp] at hw; cases hw
        | some x =>
          have e14 := e13.trans e4
          refine s_ret_c3 (Evl.ev_var rfl) (Evl.ev_var rfl) (Evl.ev_var (v := .int (x : Int)) rfl) fun H5 e5 => ?_
          refine ⟨fl, a, s, pl, as, k, p, x, rfl, N.mono (e14.trans e5), Pk.mono (Kp.of (e14.trans e5)), q.of (Kp.of (e14.trans e5)) ?_⟩
          unfold requestR
          rw [hs, hp]
      · intro hw H4 e4
        cases hp : p.wanted with
        | some x => rw [hp] at hw; cases hw
        | none =>
          have e14 := e13.trans e4
          refine s_ret_c2 (Evl.ev_var rfl) (Evl.ev_var rfl) fun H5 e5 => ?_
          refine ⟨fl, a, s, pl, as, k, p, rfl, N.mono (e14.trans e5), Pk.mono (Kp.of (e14.trans e5)), q.of (Kp.of (e14.trans e5)) ?_⟩
          unfold requestR
          rw [hs, hp]
/-- a number or None against the server -/
theorem ev_neS {o : Option Nat} {v : Nat} {ta tb : TE} {σ : L2.St} {H : Hp} (ha : Ev ta σ H (numV o)) (hb : Ev tb σ H (.int (v : Int))) : EvT (tTest (tOp rNe ta tb)) σ H (!decide (o = some v)) := by
  refine Evl.et_test (Evl.ev_is (Evl.ev_op ha hb (Evl.rv_ne (by cases o <;> rfl))) ?_)
  cases o with
  | none => rfl
  | some x =>
    show V.bl (!decide (V.int (x : Int) = V.int (v : Int))) = _
    congr 2
    rw [decide_eq_decide]
    constructor
    · intro z
      injection z with z
      rw [Int.ofNat_inj.mp z]
    · intro z
      injection z with z
      rw [z]
theorem pure_decline (T : Txt K mg A) (vs : List V) (H : Hp) (Q : VK) (E : XK) (h : sp_decline K A vs H Q E) : t_decline K A (endOf Q) (start N_decline vs) H := by
  obtain ⟨fl, a, s, pl, as, k, p, rfl, N, Pk, q⟩ := h
  refine Evl.q_asg (ev_place (Evl.ev_var rfl) (ev_addr 50 (Evl.ev_var rfl) Evl.ev_c Pk) N) fun H1 e1 => ?_
  rw [show ((p.opt 50).map Sd22.high).bind s.place = p.wanted.bind s.place from rfl]
  have Pk1 := Pk.mono (Kp.of e1)
  have N1 := N.mono e1
  refine Evl.q_when (b := decide (plV as (p.wanted.bind s.place) = .non) || !decide (p.server = some s.net.server)) (Evl.et_or (ev_isN (Evl.ev_var rfl)) fun _ => ev_neS (ev_addr 54 (Evl.ev_var rfl) Evl.ev_c Pk1) (ev_net T (Evl.ev_var rfl) N1 T.a_Net_server (netF_server _ _ _))) ?_ ?_
  · intro hc H2 e2
    refine q.quiet ?_ N (e1.trans e2)
    unfold declineR
    cases hp : p.wanted.bind s.place with
    | none => rfl
    | some i =>
      have hi : i < s.net.count := by
        cases hw : p.wanted with
        | none => rw [hw] at hp; cases hp
        | some x =>
          rw [hw] at hp
          obtain ⟨z1, z2, z3⟩ := place_some (show s.place x = some i from hp)
          omega
      obtain ⟨y, hy⟩ := N.get hi
      rw [hp, plV_no hy, Bool.false_or, Bool.not_eq_true', decide_eq_false_iff_not] at hc
      dsimp only
      rw [if_neg fun z => hc z.2.2]
  · intro hc H2 e2
    rw [Bool.or_eq_false_iff, Bool.not_eq_false', decide_eq_true_iff] at hc
    have e12 := e1.trans e2
    cases hp : p.wanted.bind s.place with
    | none => rw [hp] at hc; cases hc.1
    | some i =>
      have hi : i < s.net.count := by
        cases hw : p.wanted with
        | none => rw [hw] at hp; cases hp
        | some x =>
          rw [hw] at hp
          obtain ⟨z1, z2, z3⟩ := place_some (show s.place x = some i from hp)
          omega
      obtain ⟨y, hy⟩ := N.get hi
      rw [plV_some hy]
      obtain ⟨dx, o, g1, g2⟩ := (N.mono e12).at_ i y hy
      refine Evl.s_if (b := s.holds i p.who && !(((s.at_ i).state : Int) == 0)) (Evl.et_and (Evl.et_B (ev_own (Evl.ev_var rfl) hy (EvL.s (el_who (Evl.ev_var rfl) (Pk.mono (Kp.of e12)))) (who_ne Pk.ok) (N.mono e12))) fun _ => ev_neI (ev_fld (Evl.ev_var rfl) g1 T.cl_Place T.a_Place_state (plF_state _ _ _ _)) Evl.ev_c) ?_ ?_
      · intro hh H3 e3
        rw [Bool.and_eq_true, Bool.not_eq_true', beq_eq_false_iff_ne] at hh
        have hR : declineR s p = s.set i ⟨3, s.now + 600, []⟩ := by
          unfold declineR
          rw [hp]
          exact if_pos ⟨hh.1, by have := hh.2; omega, hc.2⟩
        have e13 := e12.trans e3
        have N3 := N.mono e13
        have g3 := e3 _ _ g1
        obtain ⟨dn, hn⟩ := N3.obj
        refine ⟨_, rfl, y, dx, _, rfl, g3, plF_no_become _ _ _ _, _, rfl, a, _, dn, _, _, rfl, hn, T.cl_Net, T.a_Net_now, netF_now _ _ _, _, _, rfl, rfl, y, dx, _, _, _, o, 3, s.now + 600, rfl, g3, ?_⟩
        refine ⟨_, rfl, y, _, dx, _, rfl, upd_same, T.cl_Place, T.a_Place_owner, (by show 4 < 1000; decide), ?_⟩
        show Q .non (upd (upd H3 y _) y _)
        rw [upd_upd, plF_put_owner]
        refine q _ .non rfl ?_ ((Kp.of e13).trans (Kp.put g3))
        show NetAt A fl _ a (declineR s p) pl as
        rw [hR]
        exact N3.put (l := ⟨3, s.now + 600, []⟩) hy g3 (.inl ⟨rfl, rfl⟩)
      · intro hh H3 e3
        refine q.quiet ?_ N (e12.trans e3)
        unfold declineR
        rw [hp]
        dsimp only
        rw [if_neg]
        rintro ⟨z1, z2, z3⟩
        have z4 : (((s.at_ i).state : Int) == 0) = false := by rw [beq_eq_false_iff_ne]; omega
        rw [z1, z4] at hh
        cases hh
theorem pure_release (T : Txt K mg A) (vs : List V) (H : Hp) (Q : VK) (E : XK) (h : sp_release K A vs H Q E) : t_release K A (endOf Q) (start N_release vs) H := by
  obtain ⟨fl, a, s, pl, as, k, p, rfl, N, Pk, q⟩ := h
  refine Evl.q_asg (ev_place (o := some p.client) (Evl.ev_var rfl) (ev_pk (Evl.ev_var rfl) Pk T.cl_Packet T.a_Packet_client fun _ _ _ _ => pkF_client _ _ _ _ _) N) fun H1 e1 => ?_
  rw [show (some p.client).bind s.place = s.place p.client from rfl]
  have Pk1 := Pk.mono (Kp.of e1)
  have N1 := N.mono e1
  refine Evl.q_when (b := decide (plV as (s.place p.client) = .non) || !decide (p.server = some s.net.server)) (Evl.et_or (ev_isN (Evl.ev_var rfl)) fun _ => ev_neS (ev_addr 54 (Evl.ev_var rfl) Evl.ev_c Pk1) (ev_net T (Evl.ev_var rfl) N1 T.a_Net_server (netF_server _ _ _))) ?_ ?_
  · intro hc H2 e2
    refine q.quiet ?_ N (e1.trans e2)
    unfold releaseR
    cases hp : s.place p.client with
    | none => rfl
    | some i =>
      obtain ⟨y, hy⟩ := N.get (i := i) (by obtain ⟨z1, z2, z3⟩ := place_some hp; omega)
      rw [hp, plV_no hy, Bool.false_or, Bool.not_eq_true', decide_eq_false_iff_not] at hc
      dsimp only
      rw [if_neg fun z => hc z.2.2]
  · intro hc H2 e2
    rw [Bool.or_eq_false_iff, Bool.not_eq_false', decide_eq_true_iff] at hc
    have e12 := e1.trans e2
    cases hp : s.place p.client with
    | none => rw [hp] at hc; cases hc.1
    | some i =>
      obtain ⟨y, hy⟩ := N.get (i := i) (by obtain ⟨z1, z2, z3⟩ := place_some hp; omega)
      rw [plV_some hy]
      obtain ⟨dx, o, g1, g2⟩ := (N.mono e12).at_ i y hy
      refine Evl.s_when (b := s.holds i p.who && (((s.at_ i).state : Int) == 2)) (Evl.et_and (Evl.et_B (ev_own (Evl.ev_var rfl) hy (EvL.s (el_who (Evl.ev_var rfl) (Pk.mono (Kp.of e12)))) (who_ne Pk.ok) (N.mono e12))) fun _ => ev_eqI (ev_fld (Evl.ev_var rfl) g1 T.cl_Place T.a_Place_state (plF_state _ _ _ _)) Evl.ev_c) ?_ ?_
      · intro hh H3 e3
        rw [Bool.and_eq_true, beq_iff_eq] at hh
        have hw : (s.at_ i).who = p.who := by
          have z := hh.1
          unfold Sd22.Abs.holds at z
          rw [Bool.and_eq_true, beq_iff_eq] at z
          exact z.1
        have hR : releaseR s p = s.set i ⟨0, s.now, p.who⟩ := by
          unfold releaseR
          rw [hp]
          exact if_pos ⟨hh.1, by have := hh.2; omega, hc.2⟩
        have e13 := e12.trans e3
        have N3 := N.mono e13
        have g3 := e3 _ _ g1
        have g4 := g2.up fun b xs z => e3 _ _ z
        obtain ⟨dn, hn⟩ := N3.obj
        refine ⟨_, rfl, y, dx, _, rfl, g3, plF_no_become _ _ _ _, _, rfl, a, _, dn, _, _, rfl, hn, T.cl_Net, T.a_Net_now, netF_now _ _ _, y, dx, _, _, _, o, 0, s.now, rfl, g3, ?_⟩
        refine q _ .non rfl ?_ ((Kp.of e13).trans (Kp.put g3))
        show NetAt A fl _ a (releaseR s p) pl as
        rw [hR]
        exact N3.put (l := ⟨0, s.now, p.who⟩) hy g3 (by show OwnV fl H3 o p.who; rw [← hw]; exact g4)
      · intro hh H3 e3
        refine q.quiet ?_ N (e12.trans e3)
        unfold releaseR
        rw [hp]
        dsimp only
        rw [if_neg]
        rintro ⟨z1, z2, z3⟩
        have z4 : (((s.at_ i).state : Int) == 2) = true := by rw [beq_iff_eq]; omega
        rw [z1, z4] at hh
        cases hh
theorem choose_lt {s : Sd22.Abs} {w : List Nat} {o : Option Nat} {i : Nat} (h : s.choose w o = some i) : i < s.net.count := by
  cases c1 : s.mine w with
  | some j =>
    unfold Sd22.Abs.choose at h
    rw [c1] at h
    cases h
    exact mine_lt c1
  | none =>
    cases c2 : (o.bind s.place).filter (fun i => s.free i) with
    | some j =>
      have h2 : s.choose w o = some j := by
        unfold Sd22.Abs.choose
        rw [c1]
        dsimp only
        rw [c2]
      rw [h2] at h
      cases h
      rw [Option.filter_eq_some_iff] at c2
      obtain ⟨c3, _⟩ := c2
      cases o with
      | none => cases c3
      | some x =>
        obtain ⟨z1, z2, z3⟩ := place_some (show s.place x = some i from c3)
        omega
    | none =>
      rw [choose_none s w o c1 c2] at h
      cases c3 : (frees s).find? (fun i => (s.at_ i).who == []) with
      | some j =>
        rw [c3] at h
        cases h
        exact frees_lt (List.mem_of_find?_eq_some c3)
      | none =>
        rw [c3] at h
        have gen : ∀ (l : List Nat) (m : Option Nat), (∀ j ∈ l, j < s.net.count) → (∀ j, m = some j → j < s.net.count) → ∀ j, l.foldl (older s) m = some j → j < s.net.count := by
          intro l
          induction l with
          | nil => intro m _ hm j hj; exact hm j hj
          | cons x r ih =>
            intro m hl hm j hj
            rw [List.foldl_cons] at hj
            refine ih _ (fun j hj => hl j (List.mem_cons_of_mem _ hj)) (fun j hj => ?_) j hj
            rcases older_some s m x with z | ⟨j', z1, z2⟩
            · rw [z] at hj
              cases hj
              exact hl _ List.mem_cons_self
            · rw [z2] at hj
              cases hj
              exact hm _ z1
        exact gen _ _ (fun j hj => frees_lt hj) (fun j hj => by cases hj) i h
theorem pure_discover (T : Txt K mg A) (vs : List V) (H : Hp) (Q : VK) (E : XK) (h : sp_discover K A vs H Q E) : t_discover K A (endOf Q) (start N_discover vs) H := by
  obtain ⟨fl, a, s, pl, as, k, p, rfl, N, Pk, hfl, q⟩ := h
  refine Evl.q_asgL (el_who (Evl.ev_var rfl) Pk) fun pw H1 nw e1 h1 => ?_
  have hpw : pw ≠ fl := fun z => by rw [z] at nw; exact hfl nw
  have ew : (p.opt 50).map Sd22.high = p.wanted := rfl
  refine Evl.q_asg (v := plV as (s.choose p.who p.wanted)) (ev_callS (ss := [.val (.ref a), .lst (nv p.who), .val (numV p.wanted)]) (as_val (Evl.ev_var rfl) (as_lst (Ev.s (Evl.ev_var rfl) h1) (as_val (by rw [← ew]; exact ev_addr 50 (Evl.ev_var rfl) Evl.ev_c (Pk.mono (Kp.of e1))) as_nil))) ?_) fun H2 e2 => ?_
  · rintro H3 e3 xs ⟨_, _, rfl, rfl, _, _, rfl, ⟨q', rfl, hq'⟩, _, _, rfl, rfl, rfl⟩ Q E kk
    exact ⟨fl, a, s, pl, as, q', p.who, p.wanted, rfl, N.mono (e1.trans e3), hq', who_ne Pk.ok, kk⟩
  have e12 := e1.trans e2
  cases hch : s.choose p.who p.wanted with
  | none =>
    refine Evl.q_when (b := true) (ev_isN (x := .non) (Evl.ev_var rfl)) (fun _ H3 e3 => ?_) fun z => by cases z
    refine Evl.s_ret Evl.ev_c fun H4 e4 => q.quiet ?_ N ((e12.trans e3).trans e4)
    unfold discoverR
    rw [hch]
  | some i =>
    obtain ⟨y, hy⟩ := N.get (choose_lt hch)
    rw [plV_some hy]
    refine Evl.q_when (b := false) (ev_isN (x := .ref y) (Evl.ev_var rfl)) (fun z => by cases z) fun _ H3 e3 => ?_
    have e13 := e12.trans e3
    have N3 := N.mono e13
    obtain ⟨dx, o, g1, g2⟩ := N3.at_ i y hy
    have hR : discoverR s p = (if (s.at_ i).state = 2 ∧ s.now < (s.at_ i).until_ then s else s.set i ⟨1, s.now + 60, p.who⟩, some (2, s.net.first + i)) := by
      unfold discoverR
      rw [hch]
    have efree : Ev (tMeth A.p "is_free_at" (sp_Place_is_free_at K A) [] E0 (tVar 3) (tCons (tFld K (tVar 0) "now") tNil)) [some (.ref a), some (.ref k), some (.ref pw), some (.ref y)] H3 (.bl ((s.at_ i).state == 0 || decide ((s.at_ i).until_ ≤ s.now))) := by
      refine ev_methS (ss := [.val (.int (s.now : Int))]) (Evl.ev_var rfl) g1 (plF_no_is_free_at _ _ _ _) (as_val (ev_net T (Evl.ev_var rfl) N3 T.a_Net_now (netF_now _ _ _)) as_nil) ?_
      rintro H4 e4 xs ⟨_, _, rfl, rfl, _, _, rfl, rfl, rfl⟩ Q E kk
      exact ⟨fl, y, _, _, s.now, rfl, (N3.mono e4).at_ i y hy, kk H4 (Ex.refl H4)⟩
    refine Evl.q_when (b := !(((s.at_ i).state : Int) == 2) || ((s.at_ i).state == 0 || decide ((s.at_ i).until_ ≤ s.now))) (Evl.et_or (ev_neI (ev_fld (Evl.ev_var rfl) g1 T.cl_Place T.a_Place_state (plF_state _ _ _ _)) Evl.ev_c) fun _ => Evl.et_B efree) ?_ ?_
    · intro hc H4 e4
      have hn : ¬ ((s.at_ i).state = 2 ∧ s.now < (s.at_ i).until_) := by
        rintro ⟨z1, z2⟩
        have z3 : decide ((s.at_ i).until_ ≤ s.now) = false := decide_eq_false (by omega)
        rw [z1, z3] at hc
        cases hc
      have e14 := e13.trans e4
      have N4 := N.mono e14
      have g4 := e4 _ _ g1
      obtain ⟨dn, hn4⟩ := N4.obj
      refine ⟨_, rfl, y, dx, _, rfl, g4, plF_no_become _ _ _ _, _, rfl, a, _, dn, _, _, rfl, hn4, T.cl_Net, T.a_Net_now, netF_now _ _ _, _, _, rfl, rfl, y, dx, _, _, _, o, 1, s.now + 60, rfl, g4, ?_⟩
      refine ⟨_, rfl, _, rfl, y, _, dx, _, rfl, upd_same, T.cl_Place, T.a_Place_owner, (by show 4 < 1000; decide), ?_⟩
      rw [upd_upd, plF_put_owner]
      have hw4 : H4 pw = some (.lst (nv p.who)) := e4 _ _ (e3 _ _ (e2 _ _ h1))
      have N5 := N4.put (l := ⟨1, s.now + 60, p.who⟩) (o := .ref pw) hy g4 (.inr ⟨pw, rfl, who_ne Pk.ok, hpw, hw4⟩)
      refine s_ret_rp (kd := 2) (y := s.net.first + i) Evl.ev_c (ev_fld (Evl.ev_var rfl) upd_same T.cl_Place T.a_Place_address (plF_address _ _ _ _)) fun H' r e hr => ?_
      refine q H' (.ref r) ?_ ?_ (((Kp.of e14).trans (Kp.put g4)).trans (Kp.of e))
      · rw [hR]
        exact ⟨r, rfl, hr⟩
      · rw [hR, if_neg hn]
        exact N5.mono e
    · intro hc H4 e4
      rw [Bool.or_eq_false_iff, Bool.not_eq_false', beq_iff_eq, Bool.or_eq_false_iff, decide_eq_false_iff_not] at hc
      have hy2 : (s.at_ i).state = 2 ∧ s.now < (s.at_ i).until_ := ⟨by have := hc.1; omega, by have := hc.2.2; omega⟩
      refine s_ret_rp (kd := 2) (y := s.net.first + i) Evl.ev_c (ev_fld (Evl.ev_var rfl) (e4 _ _ g1) T.cl_Place T.a_Place_address (plF_address _ _ _ _)) fun H' r e hr => ?_
      exact q.says (by rw [hR, if_pos hy2]) N (e13.trans e4) e hr
theorem pure_reply_to (T : Txt K mg A) (vs : List V) (H : Hp) (Q : VK) (E : XK) (h : sp_reply_to K A vs H Q E) : t_reply_to K A (endOf Q) (start N_reply_to vs) H := by
  obtain ⟨fl, a, s, pl, as, k, p, rfl, N, Pk, hfl, q⟩ := h
  have ekind : ∀ H1 (j : Int), Ex H H1 → EvT (tTest (tOp rEq (tFld K (tVar 1) "kind") (tC (.int j)))) (start N_reply_to [.ref a, .ref k]) H1 ((p.kind : Int) == j) := fun H1 j e1 => ev_eqI (ev_pk (Evl.ev_var rfl) (Pk.mono (Kp.of e1)) T.cl_Packet T.a_Packet_kind fun _ _ _ _ => pkF_kind _ _ _ _ _) Evl.ev_c
  have up : ∀ H1, Ex H H1 → H1 fl ≠ none := fun H1 e1 z => by
    cases c : H fl with
    | none => exact hfl c
    | some o =>
      rw [e1 _ _ c] at z
      cases z
  refine Evl.q_when (ekind H 1 (Ex.refl H)) ?_ ?_
  · intro hc H1 e1
    have hk : p.kind = 1 := by have := beq_iff_eq.mp hc; omega
    refine s_ret_c2 (Evl.ev_var rfl) (Evl.ev_var rfl) fun H2 e2 => ?_
    exact ⟨fl, a, s, pl, as, k, p, rfl, N.mono (e1.trans e2), Pk.mono (Kp.of (e1.trans e2)), up _ (e1.trans e2), q.of (Kp.of (e1.trans e2)) (if_pos hk)⟩
  intro hc H1 e1
  have h1 : ¬ p.kind = 1 := by have := beq_eq_false_iff_ne.mp hc; omega
  refine Evl.q_when (ekind H1 3 e1) ?_ ?_
  · intro hc H2 e2
    have hk : p.kind = 3 := by have := beq_iff_eq.mp hc; omega
    have e12 := e1.trans e2
    refine s_ret_c2 (Evl.ev_var rfl) (Evl.ev_var rfl) fun H3 e3 => ?_
    exact ⟨fl, a, s, pl, as, k, p, rfl, N.mono (e12.trans e3), Pk.mono (Kp.of (e12.trans e3)), q.of (Kp.of (e12.trans e3)) (by unfold handleR; rw [if_neg h1, if_pos hk])⟩
  intro hc H2 e2
  have h3 : ¬ p.kind = 3 := by have := beq_eq_false_iff_ne.mp hc; omega
  have e12 := e1.trans e2
  refine Evl.q_when (b := ((p.kind : Int) == 8) && decide ((0 : Int) < (p.client : Int))) (Evl.et_and (ekind H2 8 e12) fun _ => ev_gt (ev_pk (Evl.ev_var rfl) (Pk.mono (Kp.of e12)) T.cl_Packet T.a_Packet_client fun _ _ _ _ => pkF_client _ _ _ _ _) Evl.ev_c) ?_ ?_
  · intro hc H3 e3
    rw [Bool.and_eq_true, beq_iff_eq, decide_eq_true_iff] at hc
    refine s_ret_rp (kd := 5) (y := 0) Evl.ev_c Evl.ev_c fun H' r e hr => q.says ?_ N (e12.trans e3) e hr
    unfold handleR
    rw [if_neg h1, if_neg h3, if_pos ⟨by have := hc.1; omega, by have := hc.2; omega⟩]
  intro hc H3 e3
  have h8 : ¬ (p.kind = 8 ∧ p.client ≠ 0) := by
    rintro ⟨z1, z2⟩
    have z3 : decide ((0 : Int) < (p.client : Int)) = true := decide_eq_true (by omega)
    rw [z1, z3] at hc
    cases hc
  have e13 := e12.trans e3
  refine Evl.q_if (ekind H3 4 e13) ?_ ?_
  · intro hc H4 e4
    have hk : p.kind = 4 := by have := beq_iff_eq.mp hc; omega
    have e14 := e13.trans e4
    refine ⟨_, rfl, _, rfl, fl, a, s, pl, as, k, p, rfl, N.mono e14, Pk.mono (Kp.of e14), fun H' v hv hN hK => ?_⟩
    refine q H' .non ?_ ?_ ((Kp.of e14).trans hK)
    · unfold handleR; rw [if_neg h1, if_neg h3, if_neg h8, if_pos hk]; rfl
    · unfold handleR; rw [if_neg h1, if_neg h3, if_neg h8, if_pos hk]; exact hN
  intro hc H4 e4
  have h4 : ¬ p.kind = 4 := by have := beq_eq_false_iff_ne.mp hc; omega
  have e14 := e13.trans e4
  refine Evl.s_when (ekind H4 7 e14) ?_ ?_
  · intro hc H5 e5
    have hk : p.kind = 7 := by have := beq_iff_eq.mp hc; omega
    have e15 := e14.trans e5
    refine ⟨_, rfl, _, rfl, fl, a, s, pl, as, k, p, rfl, N.mono e15, Pk.mono (Kp.of e15), fun H' v hv hN hK => ?_⟩
    refine q H' .non ?_ ?_ ((Kp.of e15).trans hK)
    · unfold handleR; rw [if_neg h1, if_neg h3, if_neg h8, if_neg h4, if_pos hk]; rfl
    · unfold handleR; rw [if_neg h1, if_neg h3, if_neg h8, if_neg h4, if_pos hk]; exact hN
  intro hc H5 e5
  have h7 : ¬ p.kind = 7 := by have := beq_eq_false_iff_ne.mp hc; omega
  refine q.quiet ?_ N (e14.trans e5)
  unfold handleR
  rw [if_neg h1, if_neg h3, if_neg h8, if_neg h4, if_neg h7]
theorem ok_discover {f : Addr} {fd : FuncData} (F : Fun K "discover" "discover" s_discover f fd) (T : Txt K mg A)
    (c1 : CalM P w K mg base CX0 1 A.k "who" ["self"] (sp_Packet_who K A))
    (c2 : Cal P w K mg base CX0 3 "chosen" ["net", "who", "wanted"] (sp_chosen K A))
    (c3 : CalM P w K mg base CX0 2 A.k "address_in" ["self", "option"] (sp_Packet_address_in K A))
    (c4 : CalM P w K mg base CX0 1 A.p "is_free_at" ["self", "now"] (sp_Place_is_free_at K A))
    (c5 : CalM P w K mg base CX0 1 A.p "become" ["self", "state", "till"] (sp_Place_become K A))
    (c6 : CalC P w K mg base CX0 1 A.r "Reply" ["self", "kind", "yours"] (sp_initR K A)) :
    FnOk P w K mg base CX0 4 f fd ["net", "packet"] (sp_discover K A) := by
  obtain ⟨f1, d1, F1, m1, b1⟩ := c1
  obtain ⟨f2, d2, F2, g2, m2, b2⟩ := c2
  obtain ⟨f3, d3, F3, m3, b3⟩ := c3
  obtain ⟨f4, d4, F4, m4, b4⟩ := c4
  obtain ⟨f5, d5, F5, m5, b5⟩ := c5
  obtain ⟨f6, d6, F6, m6, g6, b6⟩ := c6
  refine F.ok sc_discover (fun vs H Q E h => len_discover h) (fun cdv A0 outer s H vs Q E hr h => ⟨t_discover K A, ?_, pure_discover T vs H Q E h⟩)
  have hr1 : Room 1 _ := hr.mono (by decide)
  have hr2 : Room 3 _ := hr.mono (by decide)
  have hr3 : Room 2 _ := hr.mono (by decide)
  have hr4 : Room 1 _ := hr.mono (by decide)
  have hr5 : Room 1 _ := hr.mono (by decide)
  have hr6 : Room (1 + 1) _ := hr.mono (by decide)
  exact pss_cons (ps_set (i := 2) sc_discover.nd rfl (Or.inl rfl) (pe_meth0 (pv 1) T.cl_Packet m1 F1 hr1 b1 .nil pass0))
      (pss_cons (ps_set (i := 3) sc_discover.nd rfl (Or.inl rfl) (pe_call F2 hr2 (by rfl) g2 m2 b2 .nil pass0 (pa_cons (pv 0) (pa_cons (pv 2) (pa_cons (pe_meth (pv 1) T.cl_Packet m3 F3 hr3 b3 .nil pass0 (pa_cons (pe_gc (by rfl) T.c_WANTED) pa_nil)) pa_nil)))))
      (pss_cons (ps_if (pt_cmpR op_isN (pv 3) pe_non (nomark _)) (pss_one (ps_ret pe_non)) pss_nil)
      (pss_cons (ps_if (PW.pt (pw_or (pt_cmpR op_ne (pe_fld (pv 3) rfl) (pe_gc (by rfl) T.c_LENT) (nomark _)) (pw_or1 (pt_val (pe_meth (pv 3) T.cl_Place m4 F4 hr4 b4 .nil pass0 (pa_cons (pe_fld (pv 0) rfl) pa_nil)))))) (pss_cons (ps_expr (pe_meth (pv 3) T.cl_Place m5 F5 hr5 b5 .nil pass0 (pa_cons (pe_gc (by rfl) T.c_OFFERED) (pa_cons (pe_op op_add (pe_fld (pv 0) rfl) (pe_gc (by rfl) T.c_OFFER_TIME)) pa_nil))))
      (pss_one (ps_fld (pv 3) (pv 2) rfl))) pss_nil)
      (pss_one (ps_ret (pe_make m6 F6 hr6 (by rfl) g6 b6 .nil pass0 (pa_cons (pe_gc (by rfl) T.c_OFFER) (pa_cons (pe_fld (pv 3) rfl) pa_nil))))))))
theorem ok_request {f : Addr} {fd : FuncData} (F : Fun K "request" "request" s_request f fd) (T : Txt K mg A)
    (c1 : CalM P w K mg base CX0 2 A.k "address_in" ["self", "option"] (sp_Packet_address_in K A))
    (c2 : CalM P w K mg base CX0 2 A.n "unoffer" ["self", "who"] (sp_Net_unoffer K A))
    (c3 : CalM P w K mg base CX0 1 A.k "who" ["self"] (sp_Packet_who K A))
    (c4 : Cal P w K mg base CX0 4 "request_here" ["net", "packet", "wanted"] (sp_request_here K A))
    (c5 : Cal P w K mg base CX0 4 "request_again" ["net", "packet", "wanted"] (sp_request_again K A))
    (c6 : Cal P w K mg base CX0 4 "request_longer" ["net", "packet"] (sp_request_longer K A)) :
    FnOk P w K mg base CX0 5 f fd ["net", "packet"] (sp_request K A) := by
  obtain ⟨f1, d1, F1, m1, b1⟩ := c1
  obtain ⟨f2, d2, F2, m2, b2⟩ := c2
  obtain ⟨f3, d3, F3, m3, b3⟩ := c3
  obtain ⟨f4, d4, F4, g4, m4, b4⟩ := c4
  obtain ⟨f5, d5, F5, g5, m5, b5⟩ := c5
  obtain ⟨f6, d6, F6, g6, m6, b6⟩ := c6
  refine F.ok sc_request (fun vs H Q E h => len_request h) (fun cdv A0 outer s H vs Q E hr h => ⟨t_request K A, ?_, pure_request T vs H Q E h⟩)
  have hr1 : Room 2 _ := hr.mono (by decide)
  have hr2 : Room 2 _ := hr.mono (by decide)
  have hr3 : Room 1 _ := hr.mono (by decide)
  have hr4 : Room 4 _ := hr.mono (by decide)
  have hr5 : Room 4 _ := hr.mono (by decide)
  have hr6 : Room 4 _ := hr.mono (by decide)
  exact pss_cons (ps_set (i := 2) sc_request.nd rfl (Or.inl rfl) (pe_meth (pv 1) T.cl_Packet m1 F1 hr1 b1 .nil pass0 (pa_cons (pe_gc (by rfl) T.c_WANTED) pa_nil)))
      (pss_cons (ps_set (i := 3) sc_request.nd rfl (Or.inl rfl) (pe_meth (pv 1) T.cl_Packet m1 F1 hr1 b1 .nil pass0 (pa_cons (pe_gc (by rfl) T.c_SERVER) pa_nil)))
      (pss_cons (ps_if (pt_cmpR op_notN (pv 3) pe_non (nomark _)) (pss_cons (ps_if (pt_cmpR op_ne (pv 3) (pe_fld (pv 0) rfl) (nomark _)) (pss_cons (ps_expr (pe_meth (pv 0) T.cl_Net m2 F2 hr2 b2 .nil pass0 (pa_cons (pe_meth0 (pv 1) T.cl_Packet m3 F3 hr3 b3 .nil pass0) pa_nil)))
      (pss_one (ps_ret pe_non))) pss_nil)
      (pss_one (ps_ret (pe_call F4 hr4 (by rfl) g4 m4 b4 .nil pass0 (pa_cons (pv 0) (pa_cons (pv 1) (pa_cons (pv 2) pa_nil))))))) pss_nil)
      (pss_cons (ps_if (pt_cmpR op_notN (pv 2) pe_non (nomark _)) (pss_one (ps_ret (pe_call F5 hr5 (by rfl) g5 m5 b5 .nil pass0 (pa_cons (pv 0) (pa_cons (pv 1) (pa_cons (pv 2) pa_nil)))))) pss_nil)
      (pss_one (ps_ret (pe_call F6 hr6 (by rfl) g6 m6 b6 .nil pass0 (pa_cons (pv 0) (pa_cons (pv 1) pa_nil))))))))
theorem ok_decline {f : Addr} {fd : FuncData} (F : Fun K "decline" "decline" s_decline f fd) (T : Txt K mg A)
    (c1 : CalM P w K mg base CX0 1 A.n "place_of" ["self", "address"] (sp_Net_place_of K A))
    (c2 : CalM P w K mg base CX0 2 A.k "address_in" ["self", "option"] (sp_Packet_address_in K A))
    (c3 : CalM P w K mg base CX0 1 A.p "is_own" ["self", "who"] (sp_Place_is_own K A))
    (c4 : CalM P w K mg base CX0 1 A.k "who" ["self"] (sp_Packet_who K A))
    (c5 : CalM P w K mg base CX0 1 A.p "become" ["self", "state", "till"] (sp_Place_become K A)) :
    FnOk P w K mg base CX0 3 f fd ["net", "packet"] (sp_decline K A) := by
  obtain ⟨f1, d1, F1, m1, b1⟩ := c1
  obtain ⟨f2, d2, F2, m2, b2⟩ := c2
  obtain ⟨f3, d3, F3, m3, b3⟩ := c3
  obtain ⟨f4, d4, F4, m4, b4⟩ := c4
  obtain ⟨f5, d5, F5, m5, b5⟩ := c5
  refine F.ok sc_decline (fun vs H Q E h => len_decline h) (fun cdv A0 outer s H vs Q E hr h => ⟨t_decline K A, ?_, pure_decline T vs H Q E h⟩)
  have hr1 : Room 1 _ := hr.mono (by decide)
  have hr2 : Room 2 _ := hr.mono (by decide)
  have hr3 : Room 1 _ := hr.mono (by decide)
  have hr4 : Room 1 _ := hr.mono (by decide)
  have hr5 : Room 1 _ := hr.mono (by decide)
  exact pss_cons (ps_set (i := 2) sc_decline.nd rfl (Or.inl rfl) (pe_meth (pv 0) T.cl_Net m1 F1 hr1 b1 .nil pass0 (pa_cons (pe_meth (pv 1) T.cl_Packet m2 F2 hr2 b2 .nil pass0 (pa_cons (pe_gc (by rfl) T.c_WANTED) pa_nil)) pa_nil)))
      (pss_cons (ps_if (PW.pt (pw_or (pt_cmpR op_isN (pv 2) pe_non (nomark _)) (pw_or1 (pt_cmpR op_ne (pe_meth (pv 1) T.cl_Packet m2 F2 hr2 b2 .nil pass0 (pa_cons (pe_gc (by rfl) T.c_SERVER) pa_nil)) (pe_fld (pv 0) rfl) (nomark _))))) (pss_one ps_retN) pss_nil)
      (pss_one (ps_if (PW.pt (pw_and (pt_val (pe_meth (pv 2) T.cl_Place m3 F3 hr3 b3 .nil pass0 (pa_cons (pe_meth0 (pv 1) T.cl_Packet m4 F4 hr4 b4 .nil pass0) pa_nil))) (pw_and1 (pt_cmpR op_ne (pe_fld (pv 2) rfl) (pe_gc (by rfl) T.c_FREE) (nomark _))))) (pss_cons (ps_expr (pe_meth (pv 2) T.cl_Place m5 F5 hr5 b5 .nil pass0 (pa_cons (pe_gc (by rfl) T.c_REFUSED) (pa_cons (pe_op op_add (pe_fld (pv 0) rfl) (pe_gc (by rfl) T.c_REFUSE_TIME)) pa_nil))))
      (pss_one (ps_fld (pv 2) pe_non rfl))) pss_nil)))
theorem ok_release {f : Addr} {fd : FuncData} (F : Fun K "release" "release" s_release f fd) (T : Txt K mg A)
    (c1 : CalM P w K mg base CX0 1 A.n "place_of" ["self", "address"] (sp_Net_place_of K A))
    (c2 : CalM P w K mg base CX0 2 A.k "address_in" ["self", "option"] (sp_Packet_address_in K A))
    (c3 : CalM P w K mg base CX0 1 A.p "is_own" ["self", "who"] (sp_Place_is_own K A))
    (c4 : CalM P w K mg base CX0 1 A.k "who" ["self"] (sp_Packet_who K A))
    (c5 : CalM P w K mg base CX0 1 A.p "become" ["self", "state", "till"] (sp_Place_become K A)) :
    FnOk P w K mg base CX0 3 f fd ["net", "packet"] (sp_release K A) := by
  obtain ⟨f1, d1, F1, m1, b1⟩ := c1
  obtain ⟨f2, d2, F2, m2, b2⟩ := c2
  obtain ⟨f3, d3, F3, m3, b3⟩ := c3
  obtain ⟨f4, d4, F4, m4, b4⟩ := c4
  obtain ⟨f5, d5, F5, m5, b5⟩ := c5
  refine F.ok sc_release (fun vs H Q E h => len_release h) (fun cdv A0 outer s H vs Q E hr h => ⟨t_release K A, ?_, pure_release T vs H Q E h⟩)
  have hr1 : Room 1 _ := hr.mono (by decide)
  have hr2 : Room 2 _ := hr.mono (by decide)
  have hr3 : Room 1 _ := hr.mono (by decide)
  have hr4 : Room 1 _ := hr.mono (by decide)
  have hr5 : Room 1 _ := hr.mono (by decide)
  exact pss_cons (ps_set (i := 2) sc_release.nd rfl (Or.inl rfl) (pe_meth (pv 0) T.cl_Net m1 F1 hr1 b1 .nil pass0 (pa_cons (pe_fld (pv 1) rfl) pa_nil)))
      (pss_cons (ps_if (PW.pt (pw_or (pt_cmpR op_isN (pv 2) pe_non (nomark _)) (pw_or1 (pt_cmpR op_ne (pe_meth (pv 1) T.cl_Packet m2 F2 hr2 b2 .nil pass0 (pa_cons (pe_gc (by rfl) T.c_SERVER) pa_nil)) (pe_fld (pv 0) rfl) (nomark _))))) (pss_one ps_retN) pss_nil)
      (pss_one (ps_if (PW.pt (pw_and (pt_val (pe_meth (pv 2) T.cl_Place m3 F3 hr3 b3 .nil pass0 (pa_cons (pe_meth0 (pv 1) T.cl_Packet m4 F4 hr4 b4 .nil pass0) pa_nil))) (pw_and1 (pt_cmpR op_eq (pe_fld (pv 2) rfl) (pe_gc (by rfl) T.c_LENT) (nomark _))))) (pss_one (ps_expr (pe_meth (pv 2) T.cl_Place m5 F5 hr5 b5 .nil pass0 (pa_cons (pe_gc (by rfl) T.c_FREE) (pa_cons (pe_fld (pv 0) rfl) pa_nil))))) pss_nil)))
theorem ok_reply_to {f : Addr} {fd : FuncData} (F : Fun K "reply_to" "reply_to" s_reply_to f fd) (T : Txt K mg A)
    (c1 : Cal P w K mg base CX0 4 "discover" ["net", "packet"] (sp_discover K A))
    (c2 : Cal P w K mg base CX0 5 "request" ["net", "packet"] (sp_request K A))
    (c3 : CalC P w K mg base CX0 1 A.r "Reply" ["self", "kind", "yours"] (sp_initR K A))
    (c4 : Cal P w K mg base CX0 3 "decline" ["net", "packet"] (sp_decline K A))
    (c5 : Cal P w K mg base CX0 3 "release" ["net", "packet"] (sp_release K A)) :
    FnOk P w K mg base CX0 6 f fd ["net", "packet"] (sp_reply_to K A) := by
  obtain ⟨f1, d1, F1, g1, m1, b1⟩ := c1
  obtain ⟨f2, d2, F2, g2, m2, b2⟩ := c2
  obtain ⟨f3, d3, F3, m3, g3, b3⟩ := c3
  obtain ⟨f4, d4, F4, g4, m4, b4⟩ := c4
  obtain ⟨f5, d5, F5, g5, m5, b5⟩ := c5
  refine F.ok sc_reply_to (fun vs H Q E h => len_reply_to h) (fun cdv A0 outer s H vs Q E hr h => ⟨t_reply_to K A, ?_, pure_reply_to T vs H Q E h⟩)
  have hr1 : Room 4 _ := hr.mono (by decide)
  have hr2 : Room 5 _ := hr.mono (by decide)
  have hr3 : Room (1 + 1) _ := hr.mono (by decide)
  have hr4 : Room 3 _ := hr.mono (by decide)
  have hr5 : Room 3 _ := hr.mono (by decide)
  exact pss_cons (ps_if (pt_cmpR op_eq (pe_fld (pv 1) rfl) (pe_gc (by rfl) T.c_DISCOVER) (nomark _)) (pss_one (ps_ret (pe_call F1 hr1 (by rfl) g1 m1 b1 .nil pass0 (pa_cons (pv 0) (pa_cons (pv 1) pa_nil))))) pss_nil)
      (pss_cons (ps_if (pt_cmpR op_eq (pe_fld (pv 1) rfl) (pe_gc (by rfl) T.c_REQUEST) (nomark _)) (pss_one (ps_ret (pe_call F2 hr2 (by rfl) g2 m2 b2 .nil pass0 (pa_cons (pv 0) (pa_cons (pv 1) pa_nil))))) pss_nil)
      (pss_cons (ps_if (PW.pt (pw_and (pt_cmpR op_eq (pe_fld (pv 1) rfl) (pe_gc (by rfl) T.c_INFORM) (nomark _)) (pw_and1 (pt_cmpR op_gt (pe_fld (pv 1) rfl) pe_int (nomark _))))) (pss_one (ps_ret (pe_make m3 F3 hr3 (by rfl) g3 b3 .nil pass0 (pa_cons (pe_gc (by rfl) T.c_ACK) (pa_cons pe_int pa_nil))))) pss_nil)
      (pss_cons (ps_if (pt_cmpR op_eq (pe_fld (pv 1) rfl) (pe_gc (by rfl) T.c_DECLINE) (nomark _)) (pss_one (ps_expr (pe_call F4 hr4 (by rfl) g4 m4 b4 .nil pass0 (pa_cons (pv 0) (pa_cons (pv 1) pa_nil))))) (pss_one (ps_if (pt_cmpR op_eq (pe_fld (pv 1) rfl) (pe_gc (by rfl) T.c_RELEASE) (nomark _)) (pss_one (ps_expr (pe_call F5 hr5 (by rfl) g5 m5 b5 .nil pass0 (pa_cons (pv 0) (pa_cons (pv 1) pa_nil))))) pss_nil)))
      (pss_one (ps_ret pe_non)))))
end
end Lp
namespace Lp
open PySem PySem.Spec PyProof.Rows L2
open Evl (Ex Ev EvT EvA EvO EvL RetL)
section
variable {P : Program} {w : World} {K : PySem.W.Frag} {mg : Str → Option Value} {base : Heap} {A : Ad}
theorem len_Desk_start {vs : List V} {H : Hp} {Q : VK} {E : XK} (h : sp_Desk_start K A vs H Q E) : vs.length = 2 := by
  obtain ⟨_, _, _, _, _, rfl, _⟩ := h
  rfl
theorem len_Desk_packet {vs : List V} {H : Hp} {Q : VK} {E : XK} (h : sp_Desk_packet K A vs H Q E) : vs.length = 2 := by
  obtain ⟨_, _, _, _, _, rfl, _⟩ := h
  rfl
theorem len_Desk_tick {vs : List V} {H : Hp} {Q : VK} {E : XK} (h : sp_Desk_tick K A vs H Q E) : vs.length = 2 := by
  obtain ⟨_, _, _, _, rfl, _⟩ := h
  rfl
theorem len_Desk_look {vs : List V} {H : Hp} {Q : VK} {E : XK} (h : sp_Desk_look K A vs H Q E) : vs.length = 2 := by
  obtain ⟨_, _, _, _, rfl, _⟩ := h
  rfl
theorem len_set_time {vs : List V} {H : Hp} {Q : VK} {E : XK} (h : sp_set_time K A vs H Q E) : vs.length = 2 := by
  obtain ⟨_, _, _, _, _, _, rfl, _⟩ := h
  rfl
/-! ## what handle says -/
theorem reply_net {s b : Sd22.Abs} (h : b.net = s.net) (p : Sd22.Packet) (kd y : Nat) (l : Bool) : Sd22.reply b p kd y l = Sd22.reply s p kd y l := by
  unfold Sd22.reply
  rw [h]
def sayR (s : Sd22.Abs) (p : Sd22.Packet) (x : Rr) : Sd22.Abs × Sd22.Said := (x.1, x.2.map fun z => (Sd22.reply s p z.1 z.2 (decide (0 < z.2)), (Sd22.aim p z.1 z.2).1, (Sd22.aim p z.1 z.2).2))
theorem say_t {s b : Sd22.Abs} {p : Sd22.Packet} {kd y : Nat} (h : b.net = s.net) (hy : 0 < y) : (b, Sd22.say b p kd y true) = sayR s p (b, some (kd, y)) := by
  unfold Sd22.say sayR
  rw [reply_net h]
  show _ = (b, some (Sd22.reply s p kd y (decide (0 < y)), _, _))
  rw [decide_eq_true hy]
theorem say_f {s : Sd22.Abs} {p : Sd22.Packet} {kd : Nat} : (s, Sd22.say s p kd 0 false) = sayR s p (s, some (kd, 0)) := rfl
theorem lend_eq {s : Sd22.Abs} {p : Sd22.Packet} {i : Nat} (ok : NetOk s.net) (h : s.holds i p.who = true) : Sd22.lend s p i = sayR s p (lentR s i) := by
  have hw : (s.at_ i).who = p.who := by
    unfold Sd22.Abs.holds at h
    rw [Bool.and_eq_true, beq_iff_eq] at h
    exact h.1
  have := ok.first
  unfold Sd22.lend lentR
  rw [hw]
  exact say_t (s := s) (b := s.set i ⟨2, s.now + s.net.time, p.who⟩) rfl (by omega)
theorem handle_eq {s : Sd22.Abs} {p : Sd22.Packet} (ok : NetOk s.net) : Sd22.handle s p = sayR s p (handleR s p) := by
  have hf := ok.first
  unfold Sd22.handle handleR
  dsimp only
  by_cases k1 : p.kind = 1
  · rw [if_pos k1, if_pos k1]
    unfold discoverR
    cases s.choose p.who p.wanted with
    | none => rfl
    | some i =>
      dsimp only
      refine say_t ?_ (by omega)
      split <;> rfl
  rw [if_neg k1, if_neg k1]
  by_cases k3 : p.kind = 3
  · rw [if_pos k3, if_pos k3]
    unfold requestR
    cases hs : p.server with
    | some v =>
      dsimp only
      by_cases hv : v ≠ s.net.server
      · rw [if_pos hv, if_pos hv]
        rfl
      · rw [if_neg hv, if_neg hv]
        unfold hereR
        cases p.wanted with
        | none => rfl
        | some x =>
          dsimp only
          by_cases hc : p.client ≠ 0
          · rw [if_pos hc, if_pos hc]
            rfl
          · rw [if_neg hc, if_neg hc]
            cases s.place x with
            | none => rfl
            | some i =>
              dsimp only
              by_cases hh : s.holds i p.who = true
              · rw [if_pos hh, if_pos hh]
                exact lend_eq ok hh
              · rw [if_neg hh, if_neg hh]
                rfl
    | none =>
      cases hw : p.wanted with
      | some x =>
        dsimp only
        unfold againR
        by_cases hc : p.client ≠ 0
        · rw [if_pos hc, if_pos hc]
          rfl
        rw [if_neg hc, if_neg hc]
        by_cases hn : p.relay = 0 ∧ Sd22.sameNet s x = false
        · rw [if_pos hn, if_pos hn]
          rfl
        rw [if_neg hn, if_neg hn]
        cases s.place x with
        | none => rfl
        | some i =>
          dsimp only
          by_cases hh : s.holds i p.who = true
          · rw [if_pos hh, if_pos hh]
            exact lend_eq ok hh
          · rw [if_neg hh, if_neg hh]
            by_cases hm : (s.mine p.who).isSome = true
            · rw [if_pos hm, if_pos hm]
              rfl
            · rw [if_neg hm, if_neg hm]
              rfl
      | none =>
        dsimp only
        unfold longerR
        by_cases hc : p.client = 0
        · rw [if_pos hc, if_pos hc]
          rfl
        rw [if_neg hc, if_neg hc]
        cases s.place p.client with
        | none => rfl
        | some i =>
          dsimp only
          by_cases hh : s.holds i p.who = true ∧ (s.at_ i).state = 2
          · rw [if_pos hh, if_pos hh]
            exact lend_eq ok hh.1
          · rw [if_neg hh, if_neg hh]
            rfl
  rw [if_neg k3, if_neg k3]
  by_cases k4 : p.kind = 4
  · have h8 : ¬ (p.kind = 8 ∧ p.client ≠ 0) := by omega
    rw [if_pos k4, if_neg h8, if_pos k4]
    unfold declineR
    cases p.wanted.bind s.place with
    | none => rfl
    | some i => rfl
  rw [if_neg k4]
  by_cases k7 : p.kind = 7
  · have h8 : ¬ (p.kind = 8 ∧ p.client ≠ 0) := by omega
    rw [if_pos k7, if_neg h8, if_neg k4, if_pos k7]
    unfold releaseR
    cases s.place p.client with
    | none => rfl
    | some i => rfl
  rw [if_neg k7]
  by_cases k8 : p.kind = 8
  · rw [if_pos k8]
    by_cases hc : p.client = 0
    · rw [if_pos hc, if_neg (by omega), if_neg k4, if_neg k7]
      rfl
    · rw [if_neg hc, if_pos ⟨k8, hc⟩]
      rfl
  · rw [if_neg k8, if_neg (by omega), if_neg k4, if_neg k7]
    rfl
/-! ## the desk -/
theorem iv_nv (l : List Nat) : iv (Sd22Neutral.ints l) = nv l := (nv_ints l).symm
theorem net_dk_ne {n : Sd22.Net} {now : Nat} {pl : Addr} {v : V} {C D dx dy : Addr} : HO.ins C dx (netF n now pl) ≠ HO.ins D dy (dkF v) := fun z => by injection z with _ _ z; exact net_dk _ _ _ _ z
theorem pl_dk_ne {ad s t : Nat} {o v : V} {C D dx dy : Addr} : HO.ins C dx (plF ad s t o) ≠ HO.ins D dy (dkF v) := fun z => by injection z with _ _ z; exact pl_dk _ _ _ _ _ z
theorem pl_net_ne {ad s t : Nat} {o : V} {n : Sd22.Net} {now : Nat} {pl : Addr} {C D dx dy : Addr} : HO.ins C dx (plF ad s t o) ≠ HO.ins D dy (netF n now pl) := fun z => by injection z with _ _ z; exact pl_net _ _ _ _ _ _ _ z
/-- another object than the net's is written -/
theorem NetAt.other {fl : Addr} {H H' : Hp} {a : Addr} {s : Sd22.Abs} {pl : Addr} {as : List Addr} (N : NetAt A fl H a s pl as) (hn : ∀ dx, H a = some (.ins A.n dx (netF s.net s.now pl)) → H' a = some (.ins A.n dx (netF s.net s.now pl)))
    (hl : ∀ b xs, b ≠ fl → H b = some (.lst xs) → H' b = some (.lst xs)) (hp : ∀ b dx ad st t o, H b = some (.ins A.p dx (plF ad st t o)) → H' b = some (.ins A.p dx (plF ad st t o))) : NetAt A fl H' a s pl as where
  obj := by
    obtain ⟨dx, h⟩ := N.obj
    exact ⟨dx, hn dx h⟩
  lst := hl _ _ N.plf N.lst
  plf := N.plf
  nd := N.nd
  len := N.len
  lenL := N.lenL
  at_ := fun i p hi => by
    obtain ⟨dx, o, h1, h2⟩ := N.at_ i p hi
    refine ⟨dx, o, hp _ _ _ _ _ _ h1, ?_⟩
    rcases h2 with h2 | ⟨q, h3, h4, h5, h6⟩
    · exact .inl h2
    · exact .inr ⟨q, h3, h4, h5, hl _ _ h5 h6⟩
  ok := N.ok
theorem NetAt.dk {fl : Addr} {H : Hp} {a d C dx : Addr} {v : V} {o : HO} {s : Sd22.Abs} {pl : Addr} {as : List Addr} (N : NetAt A fl H a s pl as) (hd : H d = some (.ins C dx (dkF v))) : NetAt A fl (upd H d o) a s pl as :=
  N.other (fun dy h => by rw [upd_ne (ne_of h hd net_dk_ne)]; exact h) (fun b xs _ h => by rw [upd_ne (ne_of h hd (by intro z; cases z))]; exact h) (fun b dy ad st t o' h => by rw [upd_ne (ne_of h hd pl_dk_ne)]; exact h)
theorem DkAt.mono {fl : Addr} {H H' : Hp} {d : Addr} {o : Option Sd22.Abs} (h : DkAt A fl H d o) (e : Ex H H') : DkAt A fl H' d o := by
  obtain ⟨dx, v, h1, h2⟩ := h
  refine ⟨dx, v, e _ _ h1, ?_⟩
  rcases h2 with h2 | ⟨s, a, pl, as, h3, h4, N⟩
  · exact .inl h2
  · exact .inr ⟨s, a, pl, as, h3, h4, N.mono e⟩
theorem pure_set_time (T : Txt K mg A) (vs : List V) (H : Hp) (Q : VK) (E : XK) (h : sp_set_time K A vs H Q E) : t_set_time K A (endOf Q) (start N_set_time vs) H := by
  obtain ⟨fl, a, s, pl, as, t, rfl, N, ⟨xs, hfl⟩, q⟩ := h
  obtain ⟨dn, hn⟩ := N.obj
  refine ⟨_, rfl, _, rfl, a, _, dn, _, _, rfl, hn, T.cl_Net, T.a_Net_now, netF_now _ _ _, _, _, rfl, rfl, _, rfl, ?_⟩
  by_cases c : t < s.now
  · refine ite_t (decide_eq_true (by omega)) ?_
    refine ⟨_, rfl, (by show 1 ≤ sizeLine; decide), fun p hp => ?_⟩
    rw [if_pos c, if_pos c] at q
    refine q _ p (fun z => ?_) upd_same (N.mono (Ex.new hp)) fun b o hb _ => Ex.new hp _ _ hb
    rw [z, hfl] at hp
    cases hp
  · refine ite_f (decide_eq_false (by omega)) ?_
    refine ⟨_, rfl, _, rfl, a, _, dn, _, rfl, hn, T.cl_Net, T.a_Net_now, (by show 8 < 1000; decide), ?_⟩
    have hu : upd H a (.ins A.n dn (putF "now" (.int (t : Int)) (netF s.net s.now pl))) = upd H a (.ins A.n dn (netF s.net t pl)) := by rw [netF_put_now]
    rw [hu]
    refine ⟨(by show 1 ≤ sizeLine; decide), fun p hp => ?_⟩
    rw [if_neg c, if_neg c] at q
    have N1 : NetAt A fl (upd H a (.ins A.n dn (netF s.net t pl))) a { s with now := t } pl as := by
      refine ⟨⟨dn, upd_same⟩, ?_, N.plf, N.nd, N.len, N.lenL, fun i p hi => ?_, N.ok⟩
      · rw [upd_ne (ne_of N.lst hn (by intro z; cases z))]
        exact N.lst
      · obtain ⟨dx, o, h1, h2⟩ := N.at_ i p hi
        refine ⟨dx, o, ?_, h2.up fun b xs z => ?_⟩
        · rw [upd_ne (ne_of h1 hn pl_net_ne)]
          exact h1
        · rw [upd_ne (ne_of z hn (by intro z; cases z))]
          exact z
    refine q _ p (fun z => ?_) upd_same (N1.mono (Ex.new hp)) fun b o hb nb => Ex.new hp _ _ (by rw [upd_ne nb]; exact hb)
    rw [z, upd_ne (ne_of hfl hn (by intro z; cases z)), hfl] at hp
    cases hp
/-- a row of one number is told -/
theorem s_ret_1 {fl d : Addr} {H H1 : Hp} {x : Option Sd22.Abs × Sd22.Ans} {Q : VK} {D : Ends} {σ : L2.St} {te : TE} {n : Int} (q : DoneD A fl H d x Q) (hD : D.rt = Q) (hv : Ev te σ H1 (.int n)) (ha : ansI x.2 = [n]) (hfl : ∃ xs, H fl = some (.lst xs)) (k : Kn H H1) (dk : DkAt A fl H1 d x.1) : tRet (tLst (tCons te tNil)) D σ H1 := by
  refine Evl.s_retL (Evl.el_lst (Evl.ea_cons hv Evl.ea_nil) (by show 1 ≤ 100000; decide)) fun t H2 ht e2 h2 => ?_
  rw [hD]
  obtain ⟨xs, hfl⟩ := hfl
  refine q H2 t (fun z => ?_) (by rw [ha]; exact h2) (dk.mono e2) (k.trans (Kn.of (Kp.of e2)))
  rw [z, k.lst hfl] at ht
  cases ht
/-- return f(e, e') -/
theorem s_ret_c2V {sp : Sp} {D : Ends} {σ : L2.St} {H : Hp} {x y : V} {te ta : TE} {E : XK} (h1 : Ev te σ H x) (h2 : Ev ta σ H y) (q : ∀ H1, Ex H H1 → sp [x, y] H1 D.rt E) : tRet (tCall sp [] E (tCons te (tCons ta tNil))) D σ H :=
  h1 H (Ex.refl H) _ fun H1 e1 => h2 H1 e1 _ fun H2 e2 => q H2 (e1.trans e2)
theorem Kn.refl (H : Hp) : Kn H H := fun _ _ h _ => h
theorem Kn.ex {H H' : Hp} (e : Ex H H') : Kn H H' := Kn.of (Kp.of e)
theorem pure_Desk_tick (T : Txt K mg A) (vs : List V) (H : Hp) (Q : VK) (E : XK) (h : sp_Desk_tick K A vs H Q E) : t_Desk_tick K A (endOf Q) (start N_Desk_tick vs) H := by
  obtain ⟨fl, d, o, t, rfl, ⟨dx, v, hd, hv⟩, hfl, q⟩ := h
  have dk : DkAt A fl H d o := ⟨dx, v, hd, hv⟩
  have en : Ev (tFld K (tVar 0) "net") (start N_Desk_tick [.ref d, .int (t : Int)]) H v := ev_fld (Evl.ev_var rfl) hd T.cl_Desk T.a_Desk_net (dkF_net _)
  rcases hv with ⟨rfl, rfl⟩ | ⟨s, a, pl, as, rfl, rfl, N⟩
  · refine Evl.q_when (b := true) (ev_isN en) (fun _ H1 e1 => ?_) fun z => by cases z
    exact s_ret_1 q rfl Evl.ev_c rfl hfl (Kn.ex e1) (dk.mono e1)
  · refine Evl.q_when (b := false) (ev_isN en) (fun z => by cases z) fun _ H1 e1 => ?_
    obtain ⟨xs, hfl⟩ := hfl
    refine s_ret_c2V (Evl.Ev.mono e1 en) (Evl.ev_var (v := .int (t : Int)) rfl) fun H2 e2 => ?_
    have e12 := e1.trans e2
    refine ⟨fl, a, s, pl, as, t, rfl, N.mono e12, ⟨xs, e12 _ _ hfl⟩, fun H3 p hp h3 N3 k3 => ?_⟩
    have hd3 : H3 d = some (.ins A.d dx (dkF (.ref a))) := k3 _ _ (e12 _ _ hd) (fun z => by
      obtain ⟨dn, hn⟩ := N.obj
      rw [z, hn] at hd
      exact net_dk_ne (Option.some.inj hd))
    have kn : Kn H H3 := (Kn.ex e12).trans fun b o hb hi => k3 b o hb (fun z => by
      obtain ⟨dn, hn⟩ := (N.mono e12).obj
      rw [z, hn] at hb
      cases hb
      cases hi)
    have es : Sd22.step (some s) (.tick t) = (some (if t < s.now then s else { s with now := t }), Sd22.no (if t < s.now then -1 else 0)) := by
      show (if t < s.now then ((some s : Option Sd22.Abs), Sd22.no (-1)) else (some { s with now := t }, Sd22.no 0)) = _
      by_cases c : t < s.now
      · rw [if_pos c, if_pos c, if_pos c]
      · rw [if_neg c, if_neg c, if_neg c]
    refine q H3 p hp ?_ ?_ kn
    · rw [es, h3]
      rfl
    · rw [es]
      exact ⟨dx, _, hd3, .inr ⟨_, a, pl, as, rfl, rfl, N3⟩⟩
theorem ok_set_time {f : Addr} {fd : FuncData} (F : Fun K "set_time" "set_time" s_set_time f fd) (T : Txt K mg A) :
    FnOk P w K mg base CX0 1 f fd ["net", "t"] (sp_set_time K A) := by
  refine F.ok sc_set_time (fun vs H Q E h => len_set_time h) (fun cdv A0 outer s H vs Q E hr h => ⟨t_set_time K A, ?_, pure_set_time T vs H Q E h⟩)
  exact pss_cons (ps_if (pt_cmpR op_lt (pv 1) (pe_fld (pv 0) rfl) (nomark _)) (pss_one (ps_ret (pe_lst (pa_cons (pe_un un_neg pe_int) pa_nil)))) pss_nil)
      (pss_cons (ps_fld (pv 0) (pv 1) rfl)
      (pss_one (ps_ret (pe_lst (pa_cons pe_int pa_nil)))))
theorem ok_Desk_tick {f : Addr} {fd : FuncData} (F : Fun K "tick" "Desk.tick" s_Desk_tick f fd) (T : Txt K mg A)
    (c1 : Cal P w K mg base CX0 1 "set_time" ["net", "t"] (sp_set_time K A)) :
    FnOk P w K mg base CX0 2 f fd ["self", "t"] (sp_Desk_tick K A) := by
  obtain ⟨f1, d1, F1, g1, m1, b1⟩ := c1
  refine F.ok sc_Desk_tick (fun vs H Q E h => len_Desk_tick h) (fun cdv A0 outer s H vs Q E hr h => ⟨t_Desk_tick K A, ?_, pure_Desk_tick T vs H Q E h⟩)
  have hr1 : Room 1 _ := hr.mono (by decide)
  exact pss_cons (ps_if (pt_cmpR op_isN (pe_fld (pv 0) rfl) pe_non (nomark _)) (pss_one (ps_ret (pe_lst (pa_cons (pe_gc (by rfl) T.c_NOT_OPEN) pa_nil)))) pss_nil)
      (pss_one (ps_ret (pe_call F1 hr1 (by rfl) g1 m1 b1 .nil pass0 (pa_cons (pe_fld (pv 0) rfl) (pa_cons (pv 1) pa_nil)))))
end
end Lp
namespace Lp
open PySem PySem.Spec PyProof.Rows L2
open Evl (Ex Ev EvT EvA EvO EvL RetL)
section
variable {P : Program} {w : World} {K : PySem.W.Frag} {mg : Str → Option Value} {base : Heap} {A : Ad}
theorem len7 {l : List Nat} (h : l.length = 7) : ∃ a b c d e f g, l = [a, b, c, d, e, f, g] := by
  match l, h with
  | [a, b, c, d, e, f, g], _ => exact ⟨a, b, c, d, e, f, g, rfl⟩
theorem pure_Desk_start (T : Txt K mg A) (vs : List V) (H : Hp) (Q : VK) (E : XK) (h : sp_Desk_start K A vs H Q E) : t_Desk_start K A (endOf Q) (start N_Desk_start vs) H := by
  obtain ⟨fl, d, o, q, l, rfl, ⟨dx, v, hd, hv⟩, hq, hl, hx, hfl, k⟩ := h
  obtain ⟨a, b, c, e, f, g, i, rfl⟩ := len7 hl
  have ha : a < 4294967296 := hx a (by simp)
  have hb : b < 4294967296 := hx b (by simp)
  have hc : c < 4294967296 := hx c (by simp)
  have he : e < 4294967296 := hx e (by simp)
  have hfl2 := hfl
  obtain ⟨xs, hfl1⟩ := hfl2
  refine ⟨_, rfl, d, _, dx, _, rfl, hd, T.cl_Desk, T.a_Desk_net, (by show 1 < 1000; decide), ?_⟩
  have hu : upd H d (.ins A.d dx (putF "net" .non (dkF v))) = upd H d (.ins A.d dx (dkF .non)) := by rw [dkF_put]
  rw [hu]
  have lists : ∀ b xs, H b = some (.lst xs) → upd H d (.ins A.d dx (dkF .non)) b = some (.lst xs) := fun b xs z => lstU z hd
  have kn1 : Kn H (upd H d (.ins A.d dx (dkF .non))) := fun b u z hi => by
    rw [upd_ne (fun z2 => by rw [z2, hd] at z; cases z; cases hi)]
    exact z
  have hd1 : upd H d (.ins A.d dx (dkF .non)) d = some (.ins A.d dx (dkF .non)) := upd_same
  generalize upd H d (.ins A.d dx (dkF .non)) = H1 at lists kn1 hd1 ⊢
  have hq1 := lists _ _ hq
  have hf1 := lists _ _ hfl1
  refine Evl.q_when (b := !(Sd22.net [a, b, c, e, f, g, i]).isSome) (Evl.et_not (Evl.et_B (ev_callS (ss := [.lst (nv [a, b, c, e, f, g, i])]) (as_lst (Ev.s (Evl.ev_var rfl) hq1) as_nil) ?_))) ?_ ?_
  · rintro H2 e2 xs ⟨_, _, rfl, ⟨q', rfl, hq'⟩, rfl⟩ Q E kk
    exact ⟨q', a, b, c, e, f, g, i, rfl, hq', hb, kk⟩
  · intro hn H2 e2
    have hnet : Sd22.net [a, b, c, e, f, g, i] = none := by
      cases z : Sd22.net [a, b, c, e, f, g, i] with
      | none => rfl
      | some n => rw [z] at hn; cases hn
    have es : Sd22.step o (.open_ [a, b, c, e, f, g, i]) = (none, Sd22.no (-1)) := by
      show (match Sd22.net [a, b, c, e, f, g, i] with
        | none => ((none : Option Sd22.Abs), Sd22.no (-1))
        | some n => (some (Sd22.fresh n), Sd22.no 0)) = _
      rw [hnet]
    rw [es] at k
    exact s_ret_1 k rfl (ev_neg Evl.ev_c) rfl hfl (kn1.trans (Kn.ex e2)) ⟨dx, .non, e2 _ _ hd1, .inl ⟨rfl, rfl⟩⟩
  · intro hn H2 e2
    obtain ⟨n, hnet⟩ : ∃ n, Sd22.net [a, b, c, e, f, g, i] = some n := by
      cases z : Sd22.net [a, b, c, e, f, g, i] with
      | none => rw [z] at hn; cases hn
      | some n => exact ⟨n, rfl⟩
    have hC : NetC a b f g i := by
      by_cases z : NetC a b f g i
      · exact z
      · rw [net_no z] at hnet
        cases hnet
    have en : n = ⟨a, b, c, e, f, g, i⟩ := by
      rw [net_yes hC] at hnet
      exact (Option.some.inj hnet).symm
    subst en
    have es : Sd22.step o (.open_ [a, b, c, e, f, g, i]) = (some (Sd22.fresh ⟨a, b, c, e, f, g, i⟩), Sd22.no 0) := by
      show (match Sd22.net [a, b, c, e, f, g, i] with
        | none => ((none : Option Sd22.Abs), Sd22.no (-1))
        | some n => (some (Sd22.fresh n), Sd22.no 0)) = _
      rw [hnet]
    rw [es] at k
    obtain ⟨n1, n2, n3, n4, n5, n6, n7, n8, n9, n10, n11⟩ := hC
    refine ⟨_, rfl, fun x dy nx nd ne => ?_⟩
    have ex : Ex H2 (upd (upd H2 dy (.own x)) x (.ins A.n dy [])) := (Ex.new nd).trans (Ex.new (by rw [upd_ne (Ne.symm ne)]; exact nx))
    have hf2 := ex _ _ (e2 _ _ hf1)
    refine ⟨fl, x, dy, q, ⟨a, b, c, e, f, g, i⟩, rfl, upd_same, ex _ _ (e2 _ _ hq1), ⟨n2, n3, (by show f + g ≤ 4294967296; omega), n10, n11, ha, hb, hc, he, n9⟩, (by rw [hf2]; intro z; cases z), fun H3 pl as N kx => ⟨rfl, ?_⟩⟩
    have hd2 := e2 _ _ hd1
    have hd3 : H3 d = some (.ins A.d dx (dkF .non)) := kx _ _ (ex _ _ hd2) (ne_of_none hd2 nx)
    refine ⟨_, rfl, d, _, dx, _, rfl, hd3, T.cl_Desk, T.a_Desk_net, (by show 1 < 1000; decide), ?_⟩
    have kn2 : Kn H2 H3 := fun b u z hi => kx b u (ex _ _ z) (ne_of_none z nx)
    have kn3 : Kn H3 (upd H3 d (.ins A.d dx (putF "net" (.ref x) (dkF .non)))) := fun b u z hi => by
      rw [upd_ne (fun z2 => by rw [z2, hd3] at z; cases z; cases hi)]
      exact z
    refine s_ret_1 (σ := [some (.ref d), some (.ref q)]) k rfl Evl.ev_c rfl hfl (((kn1.trans (Kn.ex e2)).trans kn2).trans kn3) ⟨dx, .ref x, ?_, .inr ⟨_, x, pl, as, rfl, rfl, N.dk hd3⟩⟩
    show upd H3 d _ d = _
    rw [upd_same, dkF_put]
theorem lentR_net (s : Sd22.Abs) (i : Nat) : (lentR s i).1.net = s.net := rfl
theorem handleR_net (s : Sd22.Abs) (p : Sd22.Packet) : (handleR s p).1.net = s.net := by
  unfold handleR
  split
  · unfold discoverR
    split
    · rfl
    · dsimp only
      split <;> rfl
  split
  · unfold requestR
    split
    · split
      · rfl
      · unfold hereR
        split
        · rfl
        · split
          · rfl
          · split
            · rfl
            · split <;> rfl
    · unfold againR
      split
      · rfl
      · split
        · rfl
        · split
          · rfl
          · split
            · rfl
            · split <;> rfl
    · unfold longerR
      split
      · rfl
      · split
        · rfl
        · split <;> rfl
  split
  · rfl
  split
  · unfold declineR
    dsimp only
    split
    · rfl
    · split <;> rfl
  split
  · unfold releaseR
    dsimp only
    split
    · rfl
    · split <;> rfl
  · rfl
theorem pure_Desk_packet (T : Txt K mg A) (vs : List V) (H : Hp) (Q : VK) (E : XK) (h : sp_Desk_packet K A vs H Q E) : t_Desk_packet K A (endOf Q) (start N_Desk_packet vs) H := by
  obtain ⟨fl, d, o, q, l, rfl, ⟨dx, v, hd, hv⟩, hq, hl, hb, hfl, k⟩ := h
  have dk : DkAt A fl H d o := ⟨dx, v, hd, hv⟩
  have en : ∀ (σ : L2.St) H1, σ[0]? = some (some (.ref d)) → Ex H H1 → Ev (tFld K (tVar 0) "net") σ H1 v := fun σ H1 hσ e1 => ev_fld (Evl.ev_var hσ) (e1 _ _ hd) T.cl_Desk T.a_Desk_net (dkF_net _)
  rcases hv with ⟨rfl, rfl⟩ | ⟨s, a, pl, as, rfl, rfl, N⟩
  · refine Evl.q_when (b := true) (ev_isN (en _ H rfl (Ex.refl H))) (fun _ H1 e1 => ?_) fun z => by cases z
    exact s_ret_1 k rfl Evl.ev_c rfl hfl (Kn.ex e1) (dk.mono e1)
  refine Evl.q_when (b := false) (ev_isN (en _ H rfl (Ex.refl H))) (fun z => by cases z) fun _ H1 e1 => ?_
  refine Evl.q_when (b := decide ((1500 : Int) < ((nv l).length : Int))) (ev_gt (ev_lenS (Ev.s (Evl.ev_var rfl) (e1 _ _ hq))) Evl.ev_c) (fun z => ?_) fun _ H2 e2 => ?_
  · have := of_decide_eq_true z
    rw [nv_len] at this
    omega
  have e12 := e1.trans e2
  -- packet_or_none
  refine ⟨_, rfl, q, l, rfl, e12 _ _ hq, hb, hl, fun hr H3 e3 => ?_, fun p hr H3 pk e3 Pk => ?_⟩
  · have e13 := e12.trans e3
    have es : Sd22.step (some s) (.packet (some l)) = (some s, Sd22.no (-2)) := by
      show (match Sd22.read l with
        | none => ((some s : Option Sd22.Abs), Sd22.no (-2))
        | some p => _) = _
      rw [hr]
    rw [es] at k
    refine Evl.q_when (b := true) (ev_isN (x := .non) (Evl.ev_var rfl)) (fun _ H4 e4 => ?_) fun z => by cases z
    exact s_ret_1 k rfl (ev_neg Evl.ev_c) rfl hfl (Kn.ex (e13.trans e4)) (dk.mono (e13.trans e4))
  have e13 := e12.trans e3
  have es : Sd22.step (some s) (.packet (some l)) = (some (handleR s p).1, match (sayR s p (handleR s p)).2 with
      | none => Sd22.no 0
      | some r => ⟨r.1.length, r.1, [r.2.1, r.2.2]⟩) := by
    show (match Sd22.read l with
      | none => ((some s : Option Sd22.Abs), Sd22.no (-2))
      | some p => (some (Sd22.handle s p).1, match (Sd22.handle s p).2 with
        | none => Sd22.no 0
        | some r => ⟨r.1.length, r.1, [r.2.1, r.2.2]⟩)) = _
    rw [hr]
    dsimp only
    rw [handle_eq N.ok]
    rfl
  refine Evl.q_when (b := false) (ev_isN (x := .ref pk) (Evl.ev_var rfl)) (fun z => by cases z) fun _ H4 e4 => ?_
  have e14 := e13.trans e4
  obtain ⟨xs, hf⟩ := id hfl
  -- reply_to
  obtain ⟨dn, hn0⟩ := id N.obj
  refine ⟨_, rfl, d, _, dx, _, _, rfl, e14 _ _ hd, T.cl_Desk, T.a_Desk_net, dkF_net _, _, rfl, ?_⟩
  have e5 := Ex.refl H4
  have e15 := e14
  refine ⟨fl, a, s, pl, as, pk, p, rfl, N.mono e15, Pk.mono (Kp.of (e4.trans e5)), (by rw [e15 _ _ hf]; intro z; cases z), fun H6 v6 hv6 N6 k6 => ?_⟩
  have kp6 : Kp H H6 := (Kp.of e15).trans k6
  have hd6 : H6 d = some (.ins A.d dx (dkF (.ref a))) := kp6 _ _ hd (by rintro ⟨_, _, _, _, _, _, z⟩; exact pl_dk_ne z.symm)
  have Pk6 : PkAt A H6 pk p := (Pk.mono (Kp.of (e4.trans e5))).mono k6
  have dk6 : DkAt A fl H6 d (some (handleR s p).1) := ⟨dx, _, hd6, .inr ⟨_, a, pl, as, rfl, rfl, N6⟩⟩
  rw [es] at k
  cases hsay : (handleR s p).2 with
  | none =>
    rw [hsay] at hv6
    have hv7 : v6 = .non := hv6
    subst hv7
    refine Evl.q_when (b := true) (ev_isN (x := .non) (Evl.ev_var rfl)) (fun _ H7 e7 => ?_) fun z => by cases z
    refine s_ret_1 k rfl Evl.ev_c ?_ hfl ((Kn.of kp6).trans (Kn.ex e7)) (dk6.mono e7)
    show ansI (match (sayR s p (handleR s p)).2 with
      | none => Sd22.no 0
      | some r => ⟨r.1.length, r.1, [r.2.1, r.2.2]⟩) = _
    unfold sayR
    rw [hsay]
    rfl
  | some x =>
    rw [hsay] at hv6
    obtain ⟨r, rfl, hr6⟩ := hv6
    refine Evl.q_when (b := false) (ev_isN (x := .ref r) (Evl.ev_var rfl)) (fun z => by cases z) fun _ H7 e7 => ?_
    have hd7 := e7 _ _ hd6
    refine Evl.s_retL (el_callS (ys := nv (toldR (handleR s p).1 p x.1 x.2)) (ss := [.val (.ref a), .val (.ref pk), .val (.ref r)]) (as_val (ev_fld (Evl.ev_var rfl) hd7 T.cl_Desk T.a_Desk_net (dkF_net _)) (as_val (Evl.ev_var rfl) (as_val (Evl.ev_var rfl) as_nil))) ?_) fun t H8 ht e8 h8 => ?_
    · rintro H8 e8 xs ⟨_, _, rfl, rfl, _, _, rfl, rfl, _, _, rfl, rfl, rfl⟩ Q E kk
      exact ⟨fl, a, _, pl, as, pk, r, p, x.1, x.2, rfl, N6.mono (e7.trans e8), Pk6.mono (Kp.of (e7.trans e8)), RpAt.mono hr6 (e7.trans e8), kk⟩
    · refine k H8 t (fun z => ?_) ?_ (dk6.mono (e7.trans e8)) ((Kn.of kp6).trans (Kn.ex (e7.trans e8)))
      · rw [z, e7 _ _ (kp6.lst hf)] at ht
        cases ht
      · rw [h8]
        show some (HO.lst (nv (toldR (handleR s p).1 p x.1 x.2))) = some (HO.lst (iv (ansI (match (sayR s p (handleR s p)).2 with
          | none => Sd22.no 0
          | some r => ⟨r.1.length, r.1, [r.2.1, r.2.2]⟩))))
        unfold sayR
        rw [hsay]
        have hnet : (handleR s p).1.net = s.net := by
          exact handleR_net s p
        show some (HO.lst (nv (toldR (handleR s p).1 p x.1 x.2))) = some (HO.lst (iv (ansI ⟨(Sd22.reply s p x.1 x.2 (decide (0 < x.2))).length, Sd22.reply s p x.1 x.2 (decide (0 < x.2)), [(Sd22.aim p x.1 x.2).1, (Sd22.aim p x.1 x.2).2]⟩)))
        unfold toldR
        rw [reply_net hnet, nv_ints]
        rfl
theorem ok_Desk_start {f : Addr} {fd : FuncData} (F : Fun K "start" "Desk.start" s_Desk_start f fd) (T : Txt K mg A)
    (c1 : Cal P w K mg base CX0 2 "is_net" ["numbers"] (sp_is_net K A))
    (c2 : CalC P w K mg base CX0 3 A.n "Net" ["self", "numbers"] (sp_initN K A)) :
    FnOk P w K mg base CX0 5 f fd ["self", "numbers"] (sp_Desk_start K A) := by
  obtain ⟨f1, d1, F1, g1, m1, b1⟩ := c1
  obtain ⟨f2, d2, F2, m2, g2, b2⟩ := c2
  refine F.ok sc_Desk_start (fun vs H Q E h => len_Desk_start h) (fun cdv A0 outer s H vs Q E hr h => ⟨t_Desk_start K A, ?_, pure_Desk_start T vs H Q E h⟩)
  have hr1 : Room 2 _ := hr.mono (by decide)
  have hr2 : Room (3 + 1) _ := hr.mono (by decide)
  exact pss_cons (ps_fld (pv 0) pe_non rfl)
      (pss_cons (ps_if (pt_not (pt_val (pe_call F1 hr1 (by rfl) g1 m1 b1 .nil pass0 (pa_cons (pv 1) pa_nil)))) (pss_one (ps_ret (pe_lst (pa_cons (pe_un un_neg pe_int) pa_nil)))) pss_nil)
      (pss_cons (ps_fld (pv 0) (pe_make m2 F2 hr2 (by rfl) g2 b2 .nil pass0 (pa_cons (pv 1) pa_nil)) rfl)
      (pss_one (ps_ret (pe_lst (pa_cons pe_int pa_nil))))))
theorem ok_Desk_packet {f : Addr} {fd : FuncData} (F : Fun K "packet" "Desk.packet" s_Desk_packet f fd) (T : Txt K mg A)
    (c1 : Cal P w K mg base CX0 5 "packet_or_none" ["row"] (sp_packet_or_none K A))
    (c2 : Cal P w K mg base CX0 6 "reply_to" ["net", "packet"] (sp_reply_to K A))
    (c3 : Cal P w K mg base CX0 5 "told" ["net", "packet", "reply"] (sp_told K A)) :
    FnOk P w K mg base CX0 7 f fd ["self", "row"] (sp_Desk_packet K A) := by
  obtain ⟨f1, d1, F1, g1, m1, b1⟩ := c1
  obtain ⟨f2, d2, F2, g2, m2, b2⟩ := c2
  obtain ⟨f3, d3, F3, g3, m3, b3⟩ := c3
  refine F.ok sc_Desk_packet (fun vs H Q E h => len_Desk_packet h) (fun cdv A0 outer s H vs Q E hr h => ⟨t_Desk_packet K A, ?_, pure_Desk_packet T vs H Q E h⟩)
  have hr1 : Room 5 _ := hr.mono (by decide)
  have hr2 : Room 6 _ := hr.mono (by decide)
  have hr3 : Room 5 _ := hr.mono (by decide)
  exact pss_cons (ps_if (pt_cmpR op_isN (pe_fld (pv 0) rfl) pe_non (nomark _)) (pss_one (ps_ret (pe_lst (pa_cons (pe_gc (by rfl) T.c_NOT_OPEN) pa_nil)))) pss_nil)
      (pss_cons (ps_if (pt_cmpR op_gt (pe_callB call_len_seq (by rfl) T.n_len PySem.boot_len (pa_cons (pv 1) pa_nil)) (pe_gc (by rfl) T.c_MOST_BYTES) (nomark _)) (pss_one (ps_ret (pe_lst (pa_cons (pe_un un_neg pe_int) pa_nil)))) pss_nil)
      (pss_cons (ps_set (i := 2) sc_Desk_packet.nd rfl (Or.inl rfl) (pe_call F1 hr1 (by rfl) g1 m1 b1 .nil pass0 (pa_cons (pv 1) pa_nil)))
      (pss_cons (ps_if (pt_cmpR op_isN (pv 2) pe_non (nomark _)) (pss_one (ps_ret (pe_lst (pa_cons (pe_un un_neg pe_int) pa_nil)))) pss_nil)
      (pss_cons (ps_set (i := 3) sc_Desk_packet.nd rfl (Or.inl rfl) (pe_call F2 hr2 (by rfl) g2 m2 b2 .nil pass0 (pa_cons (pe_fld (pv 0) rfl) (pa_cons (pv 2) pa_nil))))
      (pss_cons (ps_if (pt_cmpR op_isN (pv 3) pe_non (nomark _)) (pss_one (ps_ret (pe_lst (pa_cons pe_int pa_nil)))) pss_nil)
      (pss_one (ps_ret (pe_call F3 hr3 (by rfl) g3 m3 b3 .nil pass0 (pa_cons (pe_fld (pv 0) rfl) (pa_cons (pv 2) (pa_cons (pv 3) pa_nil)))))))))))
end
end Lp
namespace Lp
open PySem PySem.Spec PyProof.Rows L2
open Evl (Ex Ev EvT EvA EvO EvL RetL)
section
variable {P : Program} {w : World} {K : PySem.W.Frag} {mg : Str → Option Value} {base : Heap} {A : Ad}
theorem el_catB {σ : L2.St} {H : Hp} {ta tb : TE} {xs ys : List V} (ha : EvS ta σ H xs) (hb : EvS tb σ H ys) (hz : xs.length + ys.length ≤ sizeLine) : EvL (tOp (oCat K) ta tb) σ H (xs ++ ys) := fun H1 e Q q =>
  ha H1 e _ fun p H2 e2 hp => hb H2 (e.trans e2) _ fun r H3 e3 hr => ⟨p, r, xs, ys, rfl, rfl, LO.of (e3 _ _ hp), LO.of hr, hz, fun l hl => q l _ (Evl.fresh_back (e2.trans e3) hl) ((e2.trans e3).trans (Ex.new hl)) upd_same⟩
theorem step_look_none {s : Sd22.Abs} {x : Nat} (h : s.place x = none) : Sd22.step (some s) (.look x) = (some s, Sd22.no (-1)) := by
  show (match s.place x with
    | none => ((some s : Option Sd22.Abs), Sd22.no (-1))
    | some i => _) = _
  rw [h]
theorem step_look_some {s : Sd22.Abs} {x i : Nat} (h : s.place x = some i) : Sd22.step (some s) (.look x) = (some s, ⟨if s.free i = true then 0 else (s.at_ i).state, (s.at_ i).who, [(s.at_ i).until_ - s.now, (s.at_ i).who.length]⟩) := by
  show (match s.place x with
    | none => ((some s : Option Sd22.Abs), Sd22.no (-1))
    | some i => (some s, ⟨if s.free i = true then 0 else (s.at_ i).state, (s.at_ i).who, [(s.at_ i).until_ - s.now, (s.at_ i).who.length]⟩)) = _
  rw [h]
theorem max_sub (a b : Nat) : (if (a : Int) - (b : Int) > 0 then (a : Int) - (b : Int) else 0) = ((a - b : Nat) : Int) := by
  split <;> omega
theorem pure_Desk_look (T : Txt K mg A) (vs : List V) (H : Hp) (Q : VK) (E : XK) (h : sp_Desk_look K A vs H Q E) : t_Desk_look K A (endOf Q) (start N_Desk_look vs) H := by
  obtain ⟨fl, d, o, t, rfl, ⟨dx, v, hd, hv⟩, hfl, hlen, k⟩ := h
  have dk : DkAt A fl H d o := ⟨dx, v, hd, hv⟩
  have en : ∀ (σ : L2.St) H1, σ[0]? = some (some (.ref d)) → Ex H H1 → Ev (tFld K (tVar 0) "net") σ H1 v := fun σ H1 hσ e1 => ev_fld (Evl.ev_var hσ) (e1 _ _ hd) T.cl_Desk T.a_Desk_net (dkF_net _)
  rcases hv with ⟨rfl, rfl⟩ | ⟨s, a, pl, as, rfl, rfl, N⟩
  · refine Evl.q_when (b := true) (ev_isN (en _ H rfl (Ex.refl H))) (fun _ H1 e1 => ?_) (by intro z; cases z)
    exact s_ret_1 k rfl Evl.ev_c rfl hfl (Kn.ex e1) (dk.mono e1)
  refine Evl.q_when (b := false) (ev_isN (en _ H rfl (Ex.refl H))) (by intro z; cases z) fun _ H1 e1 => ?_
  have N1 := N.mono e1
  obtain ⟨dn, hn1⟩ := id N1.obj
  refine Evl.q_asg (v := plV as (s.place t)) (ev_methS (ss := [.val (.int (t : Int))]) (en _ H1 rfl e1) hn1 (netF_no_place_of _ _ _) (as_val (Evl.ev_var rfl) as_nil) ?_) fun H2 e2 => ?_
  · rintro H2 e2 xs ⟨_, _, rfl, rfl, _, _, rfl, rfl, rfl⟩ Q' E' q
    exact ⟨fl, a, s, pl, as, some t, rfl, N1.mono e2, q H2 (Ex.refl H2)⟩
  have e12 := e1.trans e2
  cases hp : s.place t with
  | none =>
    rw [step_look_none hp] at k
    refine Evl.q_when (b := true) (ev_isN (x := .non) (Evl.ev_var rfl)) (fun _ H3 e3 => ?_) (by intro z; cases z)
    exact s_ret_1 k rfl (ev_neg Evl.ev_c) rfl hfl (Kn.ex (e12.trans e3)) (dk.mono (e12.trans e3))
  | some i =>
    obtain ⟨g1, g2, g3⟩ := place_some hp
    obtain ⟨p, hpi⟩ := N.get (i := i) (by omega)
    rw [step_look_some hp] at k hlen
    rw [plV_some hpi]
    refine Evl.q_when (b := false) (ev_isN (x := .ref p) (Evl.ev_var rfl)) (by intro z; cases z) fun _ H3 e3 => ?_
    have e13 := e12.trans e3
    have N3 := N.mono e13
    obtain ⟨dp, ow, hp3, how⟩ := N3.at_ i p hpi
    obtain ⟨dn3, hn3⟩ := id N3.obj
    refine Evl.q_asg (ev_fld (Evl.ev_var rfl) hp3 T.cl_Place T.a_Place_state (plF_state _ _ _ _)) fun H4 e4 => ?_
    have e34 := e4
    have enow : ∀ (σ : L2.St) Hx, σ[0]? = some (some (.ref d)) → Ex H3 Hx → Ev (tFld K (tFld K (tVar 0) "net") "now") σ Hx (.int (s.now : Int)) := fun σ Hx hσ ex => ev_fld (en σ Hx hσ (e13.trans ex)) (ex _ _ hn3) T.cl_Net T.a_Net_now (netF_now _ _ _)
    refine Evl.q_ifAsg (b := s.free i) (v := .int ((if s.free i = true then 0 else (s.at_ i).state : Nat) : Int)) (Evl.et_B (ev_methS (ss := [.val (.int (s.now : Int))]) (Evl.ev_var (v := .ref p) rfl) (e4 _ _ hp3) (plF_no_is_free_at _ _ _ _) (as_val (enow _ _ rfl e4) as_nil) ?_)) (fun hb => ?_) (fun hb => ?_) fun H5 e5 => ?_
    · rintro H5 e5 xs ⟨_, _, rfl, rfl, _, _, rfl, rfl, rfl⟩ Q' E' q
      exact ⟨fl, p, _, _, s.now, rfl, (N3.mono (e4.trans e5)).at_ i p hpi, q H5 (Ex.refl H5)⟩
    · rw [if_pos hb]
      exact Evl.ev_c
    · rw [if_neg (by rw [hb]; decide)]
      rfl
    have e35 := e4.trans e5
    refine Evl.q_asg (ev_fld (Evl.ev_var (v := .ref p) rfl) (e35 _ _ hp3) T.cl_Place T.a_Place_owner (plF_owner _ _ _ _)) fun H6 e6 => ?_
    have e36 := e35.trans e6
    -- the row that is told, of a list that is whose
    have fin : ∀ (v4 : V) Hx, Ex H3 Hx → (∃ q, v4 = .ref q ∧ Hx q = some (.lst (nv (s.at_ i).who))) →
        tRet (tOp (oCat K) (tLst (tCons (tVar 3) (tCons (tCB rMaxQ (tCons (tC (.int 0)) (tCons (tOp oSub (tFld K (tVar 2) "till") (tFld K (tFld K (tVar 0) "net") "now")) tNil))) (tCons (tCB (rLenQ K) (tCons (tVar 4) tNil)) tNil)))) (tVar 4)) (endOf Q)
          [some (.ref d), some (.int (t : Int)), some (.ref p), some (.int ((if s.free i = true then 0 else (s.at_ i).state : Nat) : Int)), some v4] Hx := by
      rintro v4 Hx ex ⟨q, rfl, hq⟩
      have hl0 : (s.at_ i).who.length + 3 ≤ 10000000 := by
        have := hlen
        unfold ansI Sd22Neutral.ints at this
        simp only [List.length_cons, List.length_append, List.length_map, List.length_nil] at this
        omega
      refine Evl.s_retL (xs := [.int ((if s.free i = true then 0 else (s.at_ i).state : Nat) : Int), .int (((s.at_ i).until_ - s.now : Nat) : Int), .int (((s.at_ i).who.length : Nat) : Int)] ++ nv (s.at_ i).who)
        (el_catB (EvL.s (Evl.el_lst (Evl.ea_cons (Evl.ev_var rfl) (Evl.ea_cons (x := .int (((s.at_ i).until_ - s.now : Nat) : Int)) ?_ (Evl.ea_cons (x := .int (((s.at_ i).who.length : Nat) : Int)) ?_ Evl.ea_nil))) (by show 3 ≤ 100000; decide))) (Ev.s (Evl.ev_var rfl) hq) ?_) fun t' H7 ht' e7 h7 => ?_
      · rw [← max_sub]
        exact ev_max Evl.ev_c (Evl.ev_op (ev_fld (Evl.ev_var (v := .ref p) rfl) (ex _ _ hp3) T.cl_Place T.a_Place_till (plF_till _ _ _ _)) (enow _ _ rfl ex) Evl.rv_I0)
      · have := ev_lenS (K := K) (σ := [some (.ref d), some (.int (t : Int)), some (.ref p), some (.int ((if s.free i = true then 0 else (s.at_ i).state : Nat) : Int)), some (.ref q)]) (Ev.s (Evl.ev_var (i := 4) rfl) hq)
        rw [nv_len] at this
        exact this
      · rw [nv_len]
        show 3 + (s.at_ i).who.length ≤ sizeLine
        exact Nat.le_trans (m := 10000000) (by omega) (by decide)
      · obtain ⟨xs, hf⟩ := hfl
        have e17 := (e13.trans ex).trans e7
        refine k H7 t' (fun z => ?_) ?_ (dk.mono e17) (Kn.ex e17)
        · rw [z, (e13.trans ex) _ _ hf] at ht'
          cases ht'
        · rw [h7]
          show _ = some (HO.lst (iv (ansI _)))
          unfold ansI
          have ev : ((if s.free i = true then 0 else (s.at_ i).state : Nat) : Int) = if s.free i = true then 0 else ((s.at_ i).state : Int) := by split <;> rfl
          rw [ev]
          show some (HO.lst ([.int (if s.free i = true then 0 else ((s.at_ i).state : Int)), .int (((s.at_ i).until_ - s.now : Nat) : Int), .int (((s.at_ i).who.length : Nat) : Int)] ++ nv (s.at_ i).who)) = some (HO.lst (.int (if s.free i = true then 0 else ((s.at_ i).state : Int)) :: .int (((s.at_ i).until_ - s.now : Nat) : Int) :: .int (((s.at_ i).who.length : Nat) : Int) :: iv (Sd22Neutral.ints (s.at_ i).who)))
          rw [iv_nv]
          rfl
    rcases how with ⟨rfl, hw⟩ | ⟨q, rfl, hw, hqf, hq⟩
    · refine Evl.q_when (b := true) (ev_isN (x := .non) (Evl.ev_var rfl)) (fun _ H7 e7 => ?_) (by intro z; cases z)
      refine Evl.s_asgL (Evl.el_lst Evl.ea_nil (by show 0 ≤ 100000; decide)) fun p' H8 hp' e8 h8 => ?_
      exact fin (.ref p') H8 ((e36.trans e7).trans e8) ⟨p', rfl, by rw [h8, hw]; rfl⟩
    · refine Evl.q_when (b := false) (ev_isN (x := .ref q) (Evl.ev_var rfl)) (by intro z; cases z) fun _ H7 e7 => ?_
      exact fin (.ref q) H7 (e36.trans e7) ⟨q, rfl, (e36.trans e7) _ _ hq⟩
theorem ok_Desk_look {f : Addr} {fd : FuncData} (F : Fun K "look" "Desk.look" s_Desk_look f fd) (T : Txt K mg A)
    (c1 : CalM P w K mg base CX0 1 A.n "place_of" ["self", "address"] (sp_Net_place_of K A))
    (c2 : CalM P w K mg base CX0 1 A.p "is_free_at" ["self", "now"] (sp_Place_is_free_at K A)) :
    FnOk P w K mg base CX0 2 f fd ["self", "address"] (sp_Desk_look K A) := by
  obtain ⟨f1, d1, F1, m1, b1⟩ := c1
  obtain ⟨f2, d2, F2, m2, b2⟩ := c2
  refine F.ok sc_Desk_look (fun vs H Q E h => len_Desk_look h) (fun cdv A0 outer s H vs Q E hr h => ⟨t_Desk_look K A, ?_, pure_Desk_look T vs H Q E h⟩)
  have hr1 : Room 1 _ := hr.mono (by decide)
  have hr2 : Room 1 _ := hr.mono (by decide)
  exact pss_cons (ps_if (pt_cmpR op_isN (pe_fld (pv 0) rfl) pe_non (nomark _)) (pss_one (ps_ret (pe_lst (pa_cons (pe_gc (by rfl) T.c_NOT_OPEN) pa_nil)))) pss_nil)
      (pss_cons (ps_set (i := 2) sc_Desk_look.nd rfl (Or.inl rfl) (pe_meth (pe_fld (pv 0) rfl) T.cl_Net m1 F1 hr1 b1 .nil pass0 (pa_cons (pv 1) pa_nil)))
      (pss_cons (ps_if (pt_cmpR op_isN (pv 2) pe_non (nomark _)) (pss_one (ps_ret (pe_lst (pa_cons (pe_un un_neg pe_int) pa_nil)))) pss_nil)
      (pss_cons (ps_set (i := 3) sc_Desk_look.nd rfl (Or.inl rfl) (pe_fld (pv 2) rfl))
      (pss_cons (ps_if (pt_val (pe_meth (pv 2) T.cl_Place m2 F2 hr2 b2 .nil pass0 (pa_cons (pe_fld (pe_fld (pv 0) rfl) rfl) pa_nil))) (pss_one (ps_set (i := 3) sc_Desk_look.nd rfl (Or.inl rfl) pe_int)) pss_nil)
      (pss_cons (ps_set (i := 4) sc_Desk_look.nd rfl (Or.inl rfl) (pe_fld (pv 2) rfl))
      (pss_cons (ps_if (pt_cmpR op_isN (pv 4) pe_non (nomark _)) (pss_one (ps_set (i := 4) sc_Desk_look.nd rfl (Or.inl rfl) (pe_lst pa_nil))) pss_nil)
      (pss_one (ps_ret (pe_op op_catS (pe_lst (pa_cons (pv 3) (pa_cons (pe_callB (call_max2 rfl) (by rfl) T.n_max (by decide +kernel) (pa_cons pe_int (pa_cons (pe_op op_sub (pe_fld (pv 2) rfl) (pe_fld (pe_fld (pv 0) rfl) rfl)) pa_nil))) (pa_cons (pe_callB call_len_seq (by rfl) T.n_len PySem.boot_len (pa_cons (pv 4) pa_nil)) pa_nil)))) (pv 4))))))))))
end
end Lp
namespace Lp
open PySem PySem.Spec PyProof.Rows L2
open Evl (Ex Ev EvT EvA EvO EvL RetL)
section
variable {P : Program} {w : World} {K : PySem.W.Frag} {mg : Str → Option Value} {base : Heap} {A : Ad}
theorem len_answers {vs : List V} {H : Hp} {Q : VK} {E : XK} (h : sp_answers K A vs H Q E) : vs.length = 1 := by
  obtain ⟨_, _, rfl, _⟩ := h
  rfl
/-! ## the flat list, parted -/
abbrev ci (l : List Nat) : List Int := l.map fun n : Nat => (n : Int)
theorem ci_len (l : List Nat) : (ci l).length = l.length := List.length_map ..
theorem ci_take (l : List Nat) (n : Nat) : (ci l).take n = ci (l.take n) := (List.map_take ..).symm
theorem ci_drop (l : List Nat) (n : Nat) : (ci l).drop n = ci (l.drop n) := (List.map_drop ..).symm
theorem nats_ci (l : List Nat) : Sd22Neutral.nats (ci l) = l := by
  unfold Sd22Neutral.nats ci
  rw [List.map_map]
  conv => rhs; rw [← List.map_id l]
  exact List.map_congr_left fun x _ => Int.toNat_natCast x
theorem row_cons (n : Nat) (r : List Nat) : PyFlat.row (ci (n :: r)) = if n ≤ r.length then some (ci (r.take n), ci (r.drop n)) else none := by
  show (if 0 ≤ (n : Int) ∧ (n : Int).toNat ≤ (ci r).length then some ((ci r).take (n : Int).toNat, (ci r).drop (n : Int).toNat) else none) = _
  rw [Int.toNat_natCast, ci_len, ci_take, ci_drop]
  by_cases h : n ≤ r.length
  · rw [if_pos ⟨Int.natCast_nonneg n, h⟩, if_pos h]
  · rw [if_neg (fun z => h z.2), if_neg h]
theorem call_row {p : Int} (h : PySd22.shape p = some (0, 1)) (l : List Int) : PyFlat.call PySd22.shape (p :: l) = (match PyFlat.row l with
    | none => none
    | some (x, s) => some ([[p], x], s)) := by
  unfold PyFlat.call
  dsimp only
  rw [h]
  dsimp only
  rw [if_neg (Nat.not_lt_zero _), List.drop_zero]
  unfold PyFlat.rows
  cases PyFlat.row l with
  | none => rfl
  | some x => rfl
theorem call_one {p : Int} (h : PySd22.shape p = some (1, 0)) (l : List Int) : PyFlat.call PySd22.shape (p :: l) = (match l with
    | [] => none
    | x :: s => some ([[p, x]], s)) := by
  unfold PyFlat.call
  dsimp only
  rw [h]
  dsimp only
  cases l with
  | nil => rfl
  | cons x s =>
    rw [if_neg (by rw [List.length_cons]; omega)]
    rfl
theorem calls_cons {f : Nat} {p : Int} {l : List Int} {raw : List (List (List Int))} (h : PyFlat.calls PySd22.shape f (p :: l) = some raw) : ∃ f' c t raw', PyFlat.call PySd22.shape (p :: l) = some (c, t) ∧ PyFlat.calls PySd22.shape f' t = some raw' ∧ raw = c :: raw' := by
  cases f with
  | zero => cases h
  | succ f =>
    unfold PyFlat.calls at h
    cases e : PyFlat.call PySd22.shape (p :: l) with
    | none => rw [e] at h; cases h
    | some x =>
      obtain ⟨c, t⟩ := x
      rw [e] at h
      dsimp only at h
      cases e2 : PyFlat.calls PySd22.shape f t with
      | none => rw [e2] at h; cases h
      | some raw' =>
        rw [e2] at h
        cases h
        exact ⟨f, c, t, raw', rfl, e2, rfl⟩
theorem in_all {hi : Int} {l : List Nat} (h : (ci l).all (PyInside.within 0 hi) = true) : ∀ x ∈ l, (x : Int) ≤ hi := fun x hx => by
  have := List.all_eq_true.mp h (x : Int) (List.mem_map.mpr ⟨x, hx, rfl⟩)
  unfold PyInside.within at this
  rw [Bool.and_eq_true, decide_eq_true_iff, decide_eq_true_iff] at this
  exact this.2
/-- one call off the list -/
theorem flat_in {f p : Nat} {r : List Nat} {raw : List (List (List Int))} (h : PyFlat.calls PySd22.shape f (ci (p :: r)) = some raw) (hb : PyInside.calls PySd22.bound raw = true) :
    ∃ f' c raw', raw = c :: raw' ∧ PyInside.calls PySd22.bound raw' = true ∧
      ((∃ n r', (p = 0 ∨ p = 1) ∧ r = n :: r' ∧ n ≤ r'.length ∧ PyFlat.calls PySd22.shape f' (ci (r'.drop n)) = some raw' ∧
          ((p = 0 ∧ (r'.take n).length = 7 ∧ (∀ x ∈ r'.take n, x < 4294967296) ∧ ∀ o, Sd22Neutral.step o (PySd22.whole c) = ((Sd22.step o (.open_ (r'.take n))).1, ansI (Sd22.step o (.open_ (r'.take n))).2)) ∨
           (p = 1 ∧ (r'.take n).length ≤ 1500 ∧ (∀ x ∈ r'.take n, x < 256) ∧ ∀ o, Sd22Neutral.step o (PySd22.whole c) = ((Sd22.step o (.packet (some (r'.take n)))).1, ansI (Sd22.step o (.packet (some (r'.take n)))).2)))) ∨
       (∃ x t, (p = 2 ∨ p = 3) ∧ r = x :: t ∧ PyFlat.calls PySd22.shape f' (ci t) = some raw' ∧
          ((p = 2 ∧ ∀ o, Sd22Neutral.step o (PySd22.whole c) = ((Sd22.step o (.tick x)).1, ansI (Sd22.step o (.tick x)).2)) ∨
           (p = 3 ∧ ∀ o, Sd22Neutral.step o (PySd22.whole c) = ((Sd22.step o (.look x)).1, ansI (Sd22.step o (.look x)).2))))) := by
  obtain ⟨f', c, t, raw', h1, h2, rfl⟩ := calls_cons h
  have hb2 : PyInside.call PySd22.bound c = true ∧ PyInside.calls PySd22.bound raw' = true := by
    unfold PyInside.calls at hb ⊢
    rw [List.all_cons, Bool.and_eq_true] at hb
    exact hb
  refine ⟨f', c, raw', rfl, hb2.2, ?_⟩
  have hc := hb2.1
  have two : (p = 0 ∨ p = 1) ∨ (p = 2 ∨ p = 3) := by
    by_cases g0 : p = 0
    · exact .inl (.inl g0)
    by_cases g1 : p = 1
    · exact .inl (.inr g1)
    by_cases g2 : p = 2
    · exact .inr (.inl g2)
    by_cases g3 : p = 3
    · exact .inr (.inr g3)
    have : PySd22.shape (p : Int) = none := by
      unfold PySd22.shape
      rw [if_neg (by omega), if_neg (by omega), if_neg (by omega), if_neg (by omega)]
    have e : PyFlat.call PySd22.shape (ci (p :: r)) = none := by
      show PyFlat.call PySd22.shape ((p : Int) :: ci r) = none
      unfold PyFlat.call
      dsimp only
      rw [this]
    rw [show ((p : Int) :: List.map (fun n : Nat => (n : Int)) r) = ci (p :: r) from rfl, e] at h1
    cases h1
  rcases two with hp | hp
  · refine .inl ?_
    have hs : PySd22.shape (p : Int) = some (0, 1) := by rcases hp with rfl | rfl <;> rfl
    rw [call_row hs] at h1
    cases r with
    | nil => cases h1
    | cons n r' =>
      rw [show List.map (fun n : Nat => (n : Int)) (n :: r') = ci (n :: r') from rfl, row_cons] at h1
      by_cases hn : n ≤ r'.length
      · rw [if_pos hn] at h1
        cases h1
        refine ⟨n, r', hp, rfl, hn, h2, ?_⟩
        generalize r'.take n = l at hc ⊢
        rcases hp with rfl | rfl
        · have hc2 : (decide (7 ≤ (ci l).length) && decide ((ci l).length ≤ 7) && (ci l).all (PyInside.within 0 4294967295) && true) = true := hc
          rw [Bool.and_true, Bool.and_eq_true, Bool.and_eq_true, decide_eq_true_iff, decide_eq_true_iff, ci_len] at hc2
          refine .inl ⟨rfl, by omega, fun x hx => ?_, fun o => ?_⟩
          · have := in_all hc2.2 x hx
            omega
          · show ((Sd22.step o (.open_ (Sd22Neutral.nats (ci l)))).1, ansI (Sd22.step o (.open_ (Sd22Neutral.nats (ci l)))).2) = _
            rw [nats_ci]
        · have hc2 : (decide (0 ≤ (ci l).length) && decide ((ci l).length ≤ 1500) && (ci l).all (PyInside.within 0 255) && true) = true := hc
          rw [Bool.and_true, Bool.and_eq_true, Bool.and_eq_true, decide_eq_true_iff, decide_eq_true_iff, ci_len] at hc2
          refine .inr ⟨rfl, by omega, fun x hx => ?_, fun o => ?_⟩
          · have := in_all hc2.2 x hx
            omega
          · have e : (if 0 ≤ ((ci l).length : Int) ∧ ((ci l).length : Int) ≤ 1500 then some (Sd22Neutral.nats (ci l)) else none) = some l := by
              rw [if_pos ⟨Int.natCast_nonneg _, by rw [ci_len]; omega⟩, nats_ci]
            show ((Sd22.step o (.packet (if 0 ≤ ((ci l).length : Int) ∧ ((ci l).length : Int) ≤ 1500 then some (Sd22Neutral.nats (ci l)) else none))).1, ansI (Sd22.step o (.packet (if 0 ≤ ((ci l).length : Int) ∧ ((ci l).length : Int) ≤ 1500 then some (Sd22Neutral.nats (ci l)) else none))).2) = _
            rw [e]
      · rw [if_neg hn] at h1
        cases h1
  · refine .inr ?_
    have hs : PySd22.shape (p : Int) = some (1, 0) := by rcases hp with rfl | rfl <;> rfl
    rw [call_one hs] at h1
    cases r with
    | nil => cases h1
    | cons x s =>
      cases h1
      refine ⟨x, s, hp, rfl, h2, ?_⟩
      rcases hp with rfl | rfl
      · exact .inl ⟨rfl, fun o => rfl⟩
      · exact .inr ⟨rfl, fun o => rfl⟩
end
end Lp
namespace Lp
open PySem PySem.Spec PyProof.Rows L2
open Evl (Ex Ev EvT EvA EvO EvL RetL)
section
variable {P : Program} {w : World} {K : PySem.W.Frag} {mg : Str → Option Value} {base : Heap} {A : Ad}
theorem SqL.kn {H H' : Hp} {q : Addr} {xs : List V} (h : SqL K H q xs) (k : Kn H H') : SqL K H' q xs := by
  rcases h with (h | ⟨o, h⟩) | h
  · exact .inl (.inl (k _ _ h rfl))
  · exact .inl (.inr ⟨o, k _ _ h rfl⟩)
  · exact .inr h
theorem ev_ixQ {σ : L2.St} {H : Hp} {ta tb : TE} {p : Addr} {xs : List V} {i : Int} {v : V} (ha : Ev ta σ H (.ref p)) (hp : SqL K H p xs) (hb : Ev tb σ H (.int i)) (hi : atI xs i = some v) : Ev (tOp (rIxL K) ta tb) σ H v := fun H1 e Q q =>
  ha H1 e _ fun H2 e2 => hb H2 (e.trans e2) _ fun H3 e3 => ⟨p, xs, i, v, rfl, rfl, Evl.ex_l ((e.trans e2).trans e3) hp, hi, q H3 (e2.trans e3)⟩
theorem el_slQ {σ : L2.St} {H : Hp} {te : TE} {a : Addr} {xs : List V} {tl th : TO} {lo hi : Option Int} (h : Ev te σ H (.ref a)) (ha : SqL K H a xs) (h1 : EvO tl σ H lo) (h2 : EvO th σ H hi) : EvL (tSl (rSlL K) te tl th) σ H (cutV xs lo hi) := fun H1 e _ q =>
  h H1 e _ fun H2 e2 => h1 H2 (e.trans e2) _ fun H3 e3 => h2 H3 ((e.trans e2).trans e3) _ fun H4 e4 =>
    ⟨a, xs, rfl, Evl.ex_l (((e.trans e2).trans e3).trans e4) ha, fun p hp => q p _ (Evl.fresh_back ((e2.trans e3).trans e4) hp) (((e2.trans e3).trans e4).trans (Ex.new hp)) upd_same⟩
/-- the list of answers is written: the desk stays -/
theorem DkAt.flu {fl d : Addr} {H : Hp} {o : Option Sd22.Abs} {xs ys : List V} (h : DkAt A fl H d o) (hf : H fl = some (.lst xs)) : DkAt A fl (upd H fl (.lst ys)) d o := by
  obtain ⟨dx, v, h1, h2⟩ := h
  have ins : ∀ b C dy fs, H b = some (.ins C dy fs) → upd H fl (.lst ys) b = some (.ins C dy fs) := fun b C dy fs z => by
    rw [upd_ne (ne_of z hf (by intro z; cases z))]
    exact z
  refine ⟨dx, v, ins _ _ _ _ h1, ?_⟩
  rcases h2 with h2 | ⟨s, a, pl, as, h3, h4, N⟩
  · exact .inl h2
  · exact .inr ⟨s, a, pl, as, h3, h4, N.other (fun _ z => ins _ _ _ _ z) (fun b xs nb z => by rw [upd_ne nb]; exact z) (fun _ _ _ _ _ _ z => ins _ _ _ _ z)⟩
theorem Kn.flu {fl : Addr} {H H' : Hp} {o : HO} (k : Kn H H') (hf : H fl = none) : Kn H (upd H' fl o) := fun b u h n => by
  rw [upd_ne (ne_of_none h hf)]
  exact k b u h n
/-- what stands behind each call -/
abbrev t_tail (K : PySem.W.Frag) : TS := (tSeq (tDrop (tBM K "list" rAppend (tVar 2) (tCons (tCB (rLenQ K) (tCons (tVar 8) tNil)) tNil)))
    (tSeq (tDrop (tBM K "list" rExtend (tVar 2) (tCons (tVar 8) tNil)))
    (tAsg (tVar 7) (gName 3))))
theorem ans_tail {D : Ends} {H : Hp} {fl t : Addr} {acc z : List Int} {v0 v1 v3 v4 v5 v6 : Option V} {e : Int} (hf : H fl = some (.lst (iv acc))) (ht : H t = some (.lst (iv z))) (htf : t ≠ fl) (hz : acc.length + (z.length + 1) ≤ 10000000)
    (k : D.nx [v0, v1, some (.ref fl), some (.int e), v4, v5, v6, some (.int e), some (.ref t)] (upd H fl (.lst (iv (acc ++ (z.length : Int) :: z))))) :
    t_tail K D [v0, v1, some (.ref fl), v3, v4, v5, v6, some (.int e), some (.ref t)] H := by
  have hb : (10000000 : Nat) < sizeLine := by decide
  have la : (iv acc).length = acc.length := List.length_map ..
  have lz : (iv z).length = z.length := List.length_map ..
  refine ⟨_, rfl, .inl ⟨rfl, _, SqL.of hf⟩, _, rfl, t, iv z, rfl, Or.inl (SqL.of ht), fl, iv acc, _, rfl, rfl, hf, by rw [la]; omega, ?_⟩
  refine ⟨_, rfl, .inl ⟨rfl, _, SqL.of upd_same⟩, _, rfl, fl, t, _, iv z, rfl, rfl, upd_same, by rw [upd_ne htf]; exact ht, ?_, ?_⟩
  · rw [List.length_append, la, lz]
    show acc.length + 1 + z.length ≤ sizeLine
    omega
  · refine ⟨_, rfl, ?_⟩
    rw [upd_upd]
    have e1 : iv acc ++ [V.int ((iv z).length : Int)] ++ iv z = iv (acc ++ (z.length : Int) :: z) := by
      rw [lz]
      unfold iv
      rw [List.map_append, List.map_cons, List.append_assoc]
      rfl
    rw [e1]
    exact k
theorem told_cons (x : List Int) (r : List (List Int)) : PyFlat.told (x :: r) = (x.length : Int) :: x ++ PyFlat.told r := rfl
theorem played_cons {S : Type} (step : S → List (List Int) → S × List Int) (s : S) (c : List (List Int)) (r : List (List (List Int))) : PyFlat.played step s (c :: r) = (step s c).2 :: PyFlat.played step (step s c).1 r := rfl
/-- where the walk over the calls stands -/
def Ans (K : PySem.W.Frag) (A : Ad) (H : Hp) (q d fl : Addr) (cs : List Nat) (total : List Int) (m : Nat) (σ : L2.St) (H' : Hp) : Prop :=
  ∃ (i f : Nat) (o : Option Sd22.Abs) (acc : List Int) (raw : List (List (List Int))) (v4 v5 v6 v7 v8 : Option V), σ = [some (.ref q), some (.ref d), some (.ref fl), some (.int (i : Int)), v4, v5, v6, v7, v8] ∧ m + i = cs.length ∧
    PyFlat.calls PySd22.shape f (ci (cs.drop i)) = some raw ∧ PyInside.calls PySd22.bound raw = true ∧ acc ++ PyFlat.told (PyFlat.played Sd22Neutral.step o (raw.map PySd22.whole)) = total ∧
    H' fl = some (.lst (iv acc)) ∧ DkAt A fl H' d o ∧ Kn H H'
/-- a call is told: the walk goes on -/
theorem ans_on {D : Ends} {H H' : Hp} {q d fl t : Addr} {cs : List Nat} {total : List Int} {m i i' f : Nat} {o o' : Option Sd22.Abs} {z acc : List Int} {c : List (List Int)} {raw : List (List (List Int))} {v3 v4 v5 v6 : Option V}
    (hD : D.nx = fun σ2 H2 => ∃ m', m' < m ∧ Ans K A H q d fl cs total m' σ2 H2) (hm : m + i = cs.length) (hi : i < i') (hi' : i' ≤ cs.length)
    (hr : PyFlat.calls PySd22.shape f (ci (cs.drop i')) = some raw) (hb : PyInside.calls PySd22.bound raw = true) (ht : acc ++ PyFlat.told (PyFlat.played Sd22Neutral.step o ((c :: raw).map PySd22.whole)) = total)
    (hs : Sd22Neutral.step o (PySd22.whole c) = (o', z)) (hlen : total.length ≤ 10000000) (hf0 : H fl = none)
    (hf : H' fl = some (.lst (iv acc))) (htt : H' t = some (.lst (iv z))) (htf : t ≠ fl) (dk : DkAt A fl H' d o') (kn : Kn H H') :
    t_tail K D [some (.ref q), some (.ref d), some (.ref fl), v3, v4, v5, v6, some (.int (i' : Int)), some (.ref t)] H' := by
  rw [List.map_cons, played_cons, hs, told_cons] at ht
  dsimp only at ht
  refine ans_tail hf htt htf ?_ ?_
  · rw [← ht] at hlen
    simp only [List.length_append, List.length_cons] at hlen
    omega
  · rw [hD]
    refine ⟨cs.length - i', by omega, i', f, o', acc ++ (z.length : Int) :: z, raw, v4, v5, v6, some (.int (i' : Int)), some (.ref t), rfl, by omega, hr, hb, ?_, upd_same, dk.flu hf, kn.flu hf0⟩
    rw [← ht]
    simp only [List.append_assoc, List.cons_append]
theorem cs_get {l : List Nat} {i x : Nat} {r : List Nat} (h : l.drop i = x :: r) : atI (nv l) (i : Int) = some (.int (x : Int)) := by
  refine at_of (j := i) rfl ?_
  have this : (l.drop i)[0]? = some x := by
    rw [h]
    rfl
  rw [List.getElem?_drop, Nat.add_zero] at this
  unfold nv
  rw [List.getElem?_map, this]
  rfl
theorem drop_next {l : List Nat} {i x : Nat} {r : List Nat} (h : l.drop i = x :: r) : l.drop (i + 1) = r := by
  rw [← List.drop_drop, h]
  rfl
theorem drop_lt {l : List Nat} {i x : Nat} {r : List Nat} (h : l.drop i = x :: r) : i + r.length + 1 = l.length := by
  have h1 : (l.drop i).length = l.length - i := List.length_drop
  rw [h, List.length_cons] at h1
  omega
theorem ev_eqn {σ : L2.St} {H : Hp} {te : TE} {p n : Nat} {b : Bool} (h : Ev te σ H (.int (p : Int))) (hb : decide (V.int (p : Int) = V.int (n : Int)) = b) : EvT (tTest (tOp rEq te (tC (.int (n : Int))))) σ H b := by
  rw [← hb]
  exact Evl.et_test (Evl.ev_op h Evl.ev_c (Evl.rv_eq rfl))
theorem pure_answers (T : Txt K mg A) (vs : List V) (H : Hp) (Q : VK) (E : XK) (h : sp_answers K A vs H Q E) : t_answers K A (endOf Q) (start N_answers vs) H := by
  obtain ⟨q, cs, rfl, sq, hask, k⟩ := h
  -- what is asked
  unfold PySd22.answers_asked at hask
  cases hraw : PyFlat.calls PySd22.shape (ci cs).length (ci cs) with
  | none => rw [hraw] at hask; cases hask
  | some raw =>
  rw [hraw] at hask
  have hask2 : (!raw.isEmpty && PyFlat.atMost 300 raw && PyInside.calls PySd22.bound raw && Sd22Neutral.asked (raw.map PySd22.whole) && PyFlat.short 10000000 (PySd22.answers (ci cs))) = true := hask
  rw [Bool.and_eq_true, Bool.and_eq_true, Bool.and_eq_true] at hask2
  have hbound := hask2.1.1.2
  have hshort : (PySd22.answers (ci cs)).length ≤ 10000000 := by
    have := hask2.2
    unfold PyFlat.short at this
    exact of_decide_eq_true this
  have htotal : PyFlat.told (PyFlat.played Sd22Neutral.step none (raw.map PySd22.whole)) = PySd22.answers (ci cs) := by
    unfold PySd22.answers PySd22.calls
    rw [hraw]
    rfl
  have k2 : ∀ H' p, H' p = some (.lst (iv (PySd22.answers (ci cs)))) → Q (.ref p) H' := k
  generalize PySd22.answers (ci cs) = total at hshort htotal k2
  -- the desk
  refine fun d dd nd ndd ne => ⟨d, dd, rfl, upd_same, rfl, ?_⟩
  rw [upd_upd]
  have ed : Ex H (upd (upd H dd (.own d)) d (.ins A.d dd (dkF .non))) := (Ex.new ndd).trans (Ex.new (by rw [upd_ne (Ne.symm ne)]; exact nd))
  have hd : upd (upd H dd (.own d)) d (.ins A.d dd (dkF .non)) d = some (.ins A.d dd (dkF .non)) := upd_same
  generalize upd (upd H dd (.own d)) d (.ins A.d dd (dkF .non)) = H1 at ed hd ⊢
  refine Evl.q_asgL (Evl.el_lst Evl.ea_nil (by show 0 ≤ 100000; decide)) fun fl H2 hf1 e2 hf2 => ?_
  have hf0 : H fl = none := Evl.fresh_back ed hf1
  refine Evl.q_asg Evl.ev_c fun H3 e3 => ?_
  have e13 := (ed.trans e2).trans e3
  refine Evl.q_while (Ans K A H q d fl cs total) cs.length ⟨0, _, none, [], raw, _, _, _, _, _, rfl, rfl, hraw, hbound, htotal, e3 _ _ hf2, ⟨dd, .non, (e2.trans e3) _ _ hd, .inl ⟨rfl, rfl⟩⟩, Kn.ex e13⟩ ?_
  rintro m σ' H' ⟨i, f, o, acc, raw, v4, v5, v6, v7, v8, rfl, hm, hr, hb, ht, hf, dk, kn⟩
  have sq1 := SqL.kn sq kn
  refine ⟨decide ((i : Int) < ((nv cs).length : Int)), Evl.et_test (Evl.ev_op (Evl.ev_var rfl) (ev_lenQ (Evl.ev_var rfl) sq1) Evl.rv_I0), fun hlt H4 e4 => ?_, fun hlt H4 e4 => ?_⟩
  · -- a call
    refine ⟨fun σ2 H2 => ∃ m', m' < m ∧ Ans K A H q d fl cs total m' σ2 H2, fun _ _ z => z, ?_⟩
    have hlt2 : i < cs.length := by
      have := of_decide_eq_true hlt
      rw [nv_len] at this
      omega
    obtain ⟨p, r, hpr⟩ : ∃ p r, cs.drop i = p :: r := ⟨_, _, List.drop_eq_getElem_cons hlt2⟩
    rw [hpr] at hr
    obtain ⟨f', c, raw', rfl, hb', cases4⟩ := flat_in hr hb
    obtain ⟨y, r', hy⟩ : ∃ y r', r = y :: r' := by
      rcases cases4 with ⟨n, r', _, h, _⟩ | ⟨x, t, _, h, _⟩
      · exact ⟨_, _, h⟩
      · exact ⟨_, _, h⟩
    have hd1 := drop_next hpr
    rw [hy] at hd1
    have hd2 := drop_next hd1
    have hl2 := drop_lt hd1
    refine Evl.q_asg (ev_ixQ (Evl.ev_var rfl) (Evl.ex_l e4 sq1) (Evl.ev_var rfl) (cs_get hpr)) fun H5 e5 => ?_
    refine Evl.q_asg (ev_ixQ (Evl.ev_var rfl) (Evl.ex_l (e4.trans e5) sq1) (Evl.ev_op (Evl.ev_var rfl) Evl.ev_c Evl.rv_I0) (cs_get (i := i + 1) hd1)) fun H6 e6 => ?_
    refine Evl.q_asgL (Evl.el_lst Evl.ea_nil (by show 0 ≤ 100000; decide)) fun rw0 H7 _ e7 _ => ?_
    refine Evl.q_asg (v := .int ((i + 2 : Nat) : Int)) (Evl.ev_op (Evl.ev_var rfl) Evl.ev_c Evl.rv_I0) fun H8 e8 => ?_
    have e48 := (((e4.trans e5).trans e6).trans e7).trans e8
    have dk8 := dk.mono e48
    have hf8 := e48 _ _ hf
    have sq8 := Evl.ex_l e48 sq1
    have kn8 := kn.trans (Kn.ex e48)
    have fin : ∀ {D : Ends} {He Hc : Hp} {t : Addr} {e : Nat} {v3 v4 v5 v6 : Option V} {o' : Option Sd22.Abs} {z : List Int}, D.nx = (fun σ2 H2 => ∃ m', m' < m ∧ Ans K A H q d fl cs total m' σ2 H2) → Ex H8 He → Kn He Hc → i < e → e ≤ cs.length →
        PyFlat.calls PySd22.shape f' (ci (cs.drop e)) = some raw' → Sd22Neutral.step o (PySd22.whole c) = (o', z) → Hc t = some (.lst (iv z)) → t ≠ fl → DkAt A fl Hc d o' →
        t_tail K D [some (.ref q), some (.ref d), some (.ref fl), v3, v4, v5, v6, some (.int (e : Int)), some (.ref t)] Hc := fun hD ex kc h1 h2 h3 h4 h5 h6 h7 =>
      ans_on hD hm h1 h2 h3 hb' ht h4 hshort hf0 (kc.lst (ex _ _ hf8)) h5 h6 h7 ((kn8.trans (Kn.ex ex)).trans kc)
    rcases cases4 with ⟨n, r2, hp, hrn, hn, hrest, hcase⟩ | ⟨x, t, hp, hrn, hrest, hcase⟩
    · rw [hy] at hrn
      cases hrn
      have hcut : cutV (nv cs) (some ((i + 2 : Nat) : Int)) (some ((i + 2 + y : Nat) : Int)) = nv (r'.take y) := by
        rw [cut_nv _ _ _ (by omega), hd2, Nat.add_sub_cancel_left]
      have hd3 : cs.drop (i + 2 + y) = r'.drop y := by
        rw [← List.drop_drop, hd2]
      have slice : ∀ (σ : L2.St) (Hx : Hp), Ex H8 Hx → σ[0]? = some (some (.ref q)) → σ[7]? = some (some (.int ((i + 2 : Nat) : Int))) → σ[5]? = some (some (.int (y : Int))) →
          EvL (tSl (rSlL K) (tVar 0) (tPart (tVar 7)) (tPart (tOp oAdd (tVar 7) (tVar 5)))) σ Hx (nv (r'.take y)) := fun σ Hx ex g0 g7 g5 => by
        rw [← hcut]
        exact el_slQ (Evl.ev_var g0) (Evl.ex_l ex sq8) (Evl.eo_some (Evl.ev_var g7)) (Evl.eo_some (Evl.ev_op (Evl.ev_var g7) (Evl.ev_var g5) Evl.rv_I0))
      rw [← hd3] at hrest
      rcases hcase with ⟨rfl, h7, hx, hstep⟩ | ⟨rfl, h15, hx, hstep⟩
      · refine Evl.q_when (b := true || false) (Evl.et_or (a := true) (b := false) (ev_eqn (n := 0) (Evl.ev_var rfl) (by decide)) (by intro z; cases z)) (fun _ H9 e9 => ?_) (by intro z; cases z)
        refine Evl.q_asgL (slice _ _ e9 rfl rfl rfl) fun row H10 _ e10 h10 => ?_
        refine Evl.s_asg (v := .int ((i + 2 + y : Nat) : Int)) (Evl.ev_op (Evl.ev_var rfl) (Evl.ev_var rfl) Evl.rv_I0) fun H11 e11 => ?_
        refine Evl.q_if (b := true) (ev_eqn (n := 0) (Evl.ev_var rfl) (by decide)) (fun _ H12 e12 => ?_) (by intro z; cases z)
        have ex := ((e9.trans e10).trans e11).trans e12
        have dkx := dk8.mono ex
        obtain ⟨dx, v, hdx, _⟩ := id dkx
        refine ⟨_, rfl, d, dx, _, rfl, hdx, dkF_no_start _, _, rfl, fl, d, o, row, _, rfl, dkx, (e11.trans e12) _ _ h10, h7, hx, ⟨_, ex _ _ hf8⟩, fun H13 t htf htt dk13 kn13 => ?_⟩
        exact fin rfl ex kn13 (by omega) (by omega) hrest (hstep o) htt htf dk13
      · refine Evl.q_when (b := false || true) (Evl.et_or (a := false) (b := true) (ev_eqn (n := 0) (Evl.ev_var rfl) (by decide)) (fun _ => ev_eqn (n := 1) (Evl.ev_var rfl) (by decide))) (fun _ H9 e9 => ?_) (by intro z; cases z)
        refine Evl.q_asgL (slice _ _ e9 rfl rfl rfl) fun row H10 _ e10 h10 => ?_
        refine Evl.s_asg (v := .int ((i + 2 + y : Nat) : Int)) (Evl.ev_op (Evl.ev_var rfl) (Evl.ev_var rfl) Evl.rv_I0) fun H11 e11 => ?_
        refine Evl.q_if (b := false) (ev_eqn (n := 0) (Evl.ev_var rfl) (by decide)) (by intro z; cases z) fun _ H12 e12 => ?_
        refine Evl.s_if (b := true) (ev_eqn (n := 1) (Evl.ev_var rfl) (by decide)) (fun _ H13 e13' => ?_) (by intro z; cases z)
        have ex := (((e9.trans e10).trans e11).trans e12).trans e13'
        have dkx := dk8.mono ex
        obtain ⟨dx, v, hdx, _⟩ := id dkx
        refine ⟨_, rfl, d, dx, _, rfl, hdx, dkF_no_packet _, _, rfl, fl, d, o, row, _, rfl, dkx, ((e11.trans e12).trans e13') _ _ h10, h15, hx, ⟨_, ex _ _ hf8⟩, fun H14 t htf htt dk13 kn13 => ?_⟩
        exact fin rfl ex kn13 (by omega) (by omega) hrest (hstep o) htt htf dk13
    · rw [hy] at hrn
      cases hrn
      have hrest2 : PyFlat.calls PySd22.shape f' (ci (cs.drop (i + 2))) = some raw' := by
        rw [hd2]
        exact hrest
      rcases hcase with ⟨rfl, hstep⟩ | ⟨rfl, hstep⟩
      · refine Evl.q_when (b := false || false) (Evl.et_or (a := false) (b := false) (ev_eqn (n := 0) (Evl.ev_var rfl) (by decide)) (fun _ => ev_eqn (n := 1) (Evl.ev_var rfl) (by decide))) (by intro z; cases z) fun _ H9 e9 => ?_
        refine Evl.q_if (b := false) (ev_eqn (n := 0) (Evl.ev_var rfl) (by decide)) (by intro z; cases z) fun _ H10 e10 => ?_
        refine Evl.s_if (b := false) (ev_eqn (n := 1) (Evl.ev_var rfl) (by decide)) (by intro z; cases z) fun _ H11 e11 => ?_
        refine Evl.s_if (b := true) (ev_eqn (n := 2) (Evl.ev_var rfl) (by decide)) (fun _ H12 e12 => ?_) (by intro z; cases z)
        have ex := ((e9.trans e10).trans e11).trans e12
        have dkx := dk8.mono ex
        obtain ⟨dx, v, hdx, _⟩ := id dkx
        refine ⟨_, rfl, d, dx, _, rfl, hdx, dkF_no_tick _, _, rfl, fl, d, o, _, rfl, dkx, ⟨_, ex _ _ hf8⟩, fun H14 t htf htt dk13 kn13 => ?_⟩
        exact fin rfl ex kn13 (by omega) (by omega) hrest2 (hstep o) htt htf dk13
      · refine Evl.q_when (b := false || false) (Evl.et_or (a := false) (b := false) (ev_eqn (n := 0) (Evl.ev_var rfl) (by decide)) (fun _ => ev_eqn (n := 1) (Evl.ev_var rfl) (by decide))) (by intro z; cases z) fun _ H9 e9 => ?_
        refine Evl.q_if (b := false) (ev_eqn (n := 0) (Evl.ev_var rfl) (by decide)) (by intro z; cases z) fun _ H10 e10 => ?_
        refine Evl.s_if (b := false) (ev_eqn (n := 1) (Evl.ev_var rfl) (by decide)) (by intro z; cases z) fun _ H11 e11 => ?_
        refine Evl.s_if (b := false) (ev_eqn (n := 2) (Evl.ev_var rfl) (by decide)) (by intro z; cases z) fun _ H12 e12 => ?_
        have ex := ((e9.trans e10).trans e11).trans e12
        have dkx := dk8.mono ex
        obtain ⟨dx, v, hdx, _⟩ := id dkx
        refine ⟨_, rfl, d, dx, _, rfl, hdx, dkF_no_look _, _, rfl, fl, d, o, _, rfl, dkx, ⟨_, ex _ _ hf8⟩, ?_, fun H14 t htf htt dk13 kn13 => ?_⟩
        · have ht2 := ht
          rw [List.map_cons, played_cons, hstep o, told_cons] at ht2
          dsimp only at ht2
          rw [← ht2] at hshort
          simp only [List.length_append, List.length_cons] at hshort
          omega
        · exact fin rfl ex kn13 (by omega) (by omega) hrest2 (hstep o) htt htf dk13
  · -- the end
    have hlt2 : i = cs.length := by
      have := of_decide_eq_false hlt
      rw [nv_len] at this
      omega
    refine ⟨_, rfl, k2 H4 fl ?_⟩
    have : cs.drop i = [] := List.drop_eq_nil_of_le (by omega)
    rw [this] at hr
    have hr2 : PyFlat.calls PySd22.shape f [] = some raw := hr
    have hr3 : raw = [] := by
      cases f with
      | zero => cases hr2; rfl
      | succ f => cases hr2; rfl
    subst hr3
    rw [← ht, e4 _ _ hf]
    show some (HO.lst (iv acc)) = some (HO.lst (iv (acc ++ [])))
    rw [List.append_nil]
theorem ok_answers {f : Addr} {fd : FuncData} (F : Fun K "answers" "answers" s_answers f fd) (T : Txt K mg A)
    (c1 : CalC P w K mg base CX0 1 A.d "Desk" ["self"] (sp_initD K A))
    (c2 : CalM P w K mg base CX0 5 A.d "start" ["self", "numbers"] (sp_Desk_start K A))
    (c3 : CalM P w K mg base CX0 7 A.d "packet" ["self", "row"] (sp_Desk_packet K A))
    (c4 : CalM P w K mg base CX0 2 A.d "tick" ["self", "t"] (sp_Desk_tick K A))
    (c5 : CalM P w K mg base CX0 2 A.d "look" ["self", "address"] (sp_Desk_look K A)) :
    FnOk P w K mg base CX0 8 f fd ["calls"] (sp_answers K A) := by
  obtain ⟨f1, d1, F1, m1, g1, b1⟩ := c1
  obtain ⟨f2, d2, F2, m2, b2⟩ := c2
  obtain ⟨f3, d3, F3, m3, b3⟩ := c3
  obtain ⟨f4, d4, F4, m4, b4⟩ := c4
  obtain ⟨f5, d5, F5, m5, b5⟩ := c5
  refine F.ok sc_answers (fun vs H Q E h => len_answers h) (fun cdv A0 outer s H vs Q E hr h => ⟨t_answers K A, ?_, pure_answers T vs H Q E h⟩)
  have hr1 : Room (1 + 1) _ := hr.mono (by decide)
  have hr2 : Room 5 _ := hr.mono (by decide)
  have hr3 : Room 7 _ := hr.mono (by decide)
  have hr4 : Room 2 _ := hr.mono (by decide)
  have hr5 : Room 2 _ := hr.mono (by decide)
  exact pss_cons (ps_set (i := 1) sc_answers.nd rfl (Or.inl rfl) (pe_make0 m1 F1 hr1 (by rfl) g1 b1 .nil pass0))
      (pss_cons (ps_set (i := 2) sc_answers.nd rfl (Or.inl rfl) (pe_lst pa_nil))
      (pss_cons (ps_set (i := 3) sc_answers.nd rfl (Or.inl rfl) pe_int)
      (pss_cons (ps_while PassesOwn.never (pt_cmpR op_lt (pv 3) (pe_callB call_len_seq (by rfl) T.n_len PySem.boot_len (pa_cons (pv 0) pa_nil)) (nomark _)) (pss_cons (ps_set (i := 4) sc_answers.nd rfl (Or.inl rfl) (pe_ix ix_list (pv 0) (pv 3) (fun _ _ => rfl)))
      (pss_cons (ps_set (i := 5) sc_answers.nd rfl (Or.inl rfl) (pe_ix ix_list (pv 0) (pe_op op_add (pv 3) pe_int) (fun _ _ => rfl)))
      (pss_cons (ps_set (i := 6) sc_answers.nd rfl (Or.inl rfl) (pe_lst pa_nil))
      (pss_cons (ps_set (i := 7) sc_answers.nd rfl (Or.inl rfl) (pe_op op_add (pv 3) pe_int))
      (pss_cons (ps_if (PW.pt (pw_or (pt_cmpR op_eq (pv 4) (pe_gc (by rfl) T.c_OPEN_CALL) (nomark _)) (pw_or1 (pt_cmpR op_eq (pv 4) (pe_gc (by rfl) T.c_PACKET_CALL) (nomark _))))) (pss_cons (ps_set (i := 6) sc_answers.nd rfl (Or.inl rfl) (pe_slice sl_list (pv 0) (po_some (pv 7)) (po_some (pe_op op_add (pv 7) (pv 5)))))
      (pss_one (ps_set (i := 7) sc_answers.nd rfl (Or.inl rfl) (pe_op op_add (pv 7) (pv 5))))) pss_nil)
      (pss_cons (ps_if (pt_cmpR op_eq (pv 4) (pe_gc (by rfl) T.c_OPEN_CALL) (nomark _)) (pss_one (ps_set (i := 8) sc_answers.nd rfl (Or.inl rfl) (pe_meth (pv 1) T.cl_Desk m2 F2 hr2 b2 .nil pass0 (pa_cons (pv 6) pa_nil)))) (pss_one (ps_if (pt_cmpR op_eq (pv 4) (pe_gc (by rfl) T.c_PACKET_CALL) (nomark _)) (pss_one (ps_set (i := 8) sc_answers.nd rfl (Or.inl rfl) (pe_meth (pv 1) T.cl_Desk m3 F3 hr3 b3 .nil pass0 (pa_cons (pv 6) pa_nil)))) (pss_one (ps_if (pt_cmpR op_eq (pv 4) (pe_gc (by rfl) T.c_TICK_CALL) (nomark _)) (pss_one (ps_set (i := 8) sc_answers.nd rfl (Or.inl rfl) (pe_meth (pv 1) T.cl_Desk m4 F4 hr4 b4 .nil pass0 (pa_cons (pv 5) pa_nil)))) (pss_one (ps_set (i := 8) sc_answers.nd rfl (Or.inl rfl) (pe_meth (pv 1) T.cl_Desk m5 F5 hr5 b5 .nil pass0 (pa_cons (pv 5) pa_nil)))))))))
      (pss_cons (ps_expr (pe_bm PySem.F.plainAttrs_list PySem.F.slot_list_append PySem.F.type_list_append mt_append (pv 2) (pa_cons (pe_callB call_len_seq (by rfl) T.n_len PySem.boot_len (pa_cons (pv 8) pa_nil)) pa_nil)))
      (pss_cons (ps_expr (pe_bm PySem.F.plainAttrs_list PySem.F.slot_list_extend PySem.F.type_list_extend mt_extend (pv 2) (pa_cons (pv 8) pa_nil)))
      (pss_one (ps_set (i := 3) sc_answers.nd rfl (Or.inl rfl) (pv 7))))))))))))
      (pss_one (ps_ret (pv 2))))))
end
end Lp
namespace Lp
open PySem PySem.Spec PyProof.Rows L2
open Evl (Ex Ev EvT EvA EvO EvL RetL)
/-! ## what the top has written -/
def DefG (K : PySem.W.Frag) (mg : Str → Option Value) (x : Str) (st : Stmt) (ps : List Str) : Prop := ∃ (f : Addr) (fd : FuncData), mg x = some (.ref f) ∧ Fun K x x st f fd ∧ PySem.W.keepIn K (.ref f) = true ∧ Binds K fd ps []
def DefM (K : PySem.W.Frag) (C : Addr) (m qual : Str) (st : Stmt) (ps : List Str) : Prop := ∃ (f : Addr) (fd : FuncData), Meth K C m f ∧ Fun K m qual st f fd ∧ Binds K fd ps []
def DefI (K : PySem.W.Frag) (mg : Str → Option Value) (C : Addr) (x qual : Str) (st : Stmt) (ps : List Str) : Prop := ∃ (f : Addr) (fd : FuncData), Mk K C f ∧ mg x = some (.ref C) ∧ Fun K "__init__" qual st f fd ∧ Binds K fd ps []
structure FExc (K : PySem.W.Frag) (mg : Str → Option Value) (C : Addr) : Prop where
  xF : PySem.W.excIn K C [.type "ValueError", .type "Exception", .type "BaseException", .type "object"] "ValueError.__new__" = true
  gF : mg "NotRight" = some (.ref C)
  kF : PySem.W.keepIn K (.ref C) = true
  bF : PySem.W.subIn K (.ref C) (.type "BaseException") = some true
  tF : PySem.W.typeIn K (.ref C) = some (.type "type")
  eF : PySem.W.exmOne K (.ref C) (.ref C) = some true
def spTop (K : PySem.W.Frag) : Sp := sp_answers K ⟨0, 0, 0, 0, 0, 0, 0, 0, 0⟩
section
variable {P : Program} {w : World} {K : PySem.W.Frag} {mg : Str → Option Value} {base h : Heap} {A : Ad}
/-- an error of the class at S is what «except S» names -/
theorem exm_own {S : Addr} (h1 : PySem.W.subIn K (.ref S) (.type "BaseException") = some true) (h2 : PySem.W.isClsIn K S = true) (h3 : PySem.W.typeIn K (.ref S) = some (.type "type")) (h4 : PySem.W.subIn K (.ref S) (.ref S) = some true) :
    PySem.W.exmOne K (.ref S) (.ref S) = some true := by
  have e1 : (PySem.W.subIn K (.ref S) (.type "BaseException") == some true) = true := by rw [h1] <;> rfl
  have e2 : ((PySem.W.clsIn K S).isSome && PySem.W.typeIn K (.ref S) == some (.type "type")) = true := by
    have h2' : (PySem.W.clsIn K S).isSome = true := h2
    rw [h2', h3] <;> rfl
  show (if (PySem.W.subIn K (.ref S) (.type "BaseException") == some true) = true then (if ((PySem.W.clsIn K S).isSome && PySem.W.typeIn K (.ref S) == some (.type "type")) = true then PySem.W.subIn K (.ref S) (.ref S) else none) else none) = some true
  rw [if_pos e1, if_pos e2]
  exact h4
theorem gc_int (X : K.In h) (G : h.Ns mainGlobals mg) {x : Str} {n : Int} {t : Tok} (a : PySem.W.nsIn K mainGlobals x = some (some (.int n t))) : Gc mg x (.int n) := ⟨_, PySem.W.mg_of X G a, t, rfl⟩
theorem gc_ref (X : K.In h) (G : h.Ns mainGlobals mg) {x : Str} {p : Addr} (a : PySem.W.nsIn K mainGlobals x = some (some (.ref p))) : Gc mg x (.ref p) := ⟨_, PySem.W.mg_of X G a, rfl⟩
theorem mk_exc (X : K.In h) (G : h.Ns mainGlobals mg) {C : Addr} (aF : PySem.W.nsIn K mainGlobals "NotRight" = some (some (.ref C)))
    (xF : PySem.W.excIn K C [.type "ValueError", .type "Exception", .type "BaseException", .type "object"] "ValueError.__new__" = true) (kF : PySem.W.keepIn K (.ref C) = true) (bF : PySem.W.subIn K (.ref C) (.type "BaseException") = some true)
    (tF : PySem.W.typeIn K (.ref C) = some (.type "type")) (iF : PySem.W.isClsIn K C = true) (sF : PySem.W.subIn K (.ref C) (.ref C) = some true) : ∃ C, FExc K mg C :=
  ⟨C, xF, PySem.W.mg_of X G aF, kF, bF, tF, exm_own bF iF tF sF⟩
theorem mk_magic (X : K.In h) (G : h.Ns mainGlobals mg) {m : Addr} {t1 t2 t3 t4 : Tok} {n : Nat} (aM : PySem.W.nsIn K mainGlobals "MAGIC" = some (some (.ref m))) (lM : K.lookup m = some { cls := .type "list", data := .seq #[.int 99 t1, .int 130 t2, .int 83 t3, .int 99 t4] n }) :
    ∃ m, Gc mg "MAGIC" (.ref m) ∧ ∀ H, LO K H m (nv [99, 130, 83, 99]) :=
  ⟨m, gc_ref X G aM, fun H => .inr ⟨[.int 99 t1, .int 130 t2, .int 83 t3, .int 99 t4], n, lM, (by show 4 ≤ sizeLine; decide), .cons ⟨t1, rfl⟩ (.cons ⟨t2, rfl⟩ (.cons ⟨t3, rfl⟩ (.cons ⟨t4, rfl⟩ .nil)))⟩⟩
theorem mk_beg (X : K.In h) (G : h.Ns mainGlobals mg) {m : Addr} {t1 t2 t3 : Tok} {n : Nat} (aB : PySem.W.nsIn K mainGlobals "BEGINNING" = some (some (.ref m))) (lB : K.lookup m = some { cls := .type "list", data := .seq #[.int 1 t1, .int 1 t2, .int 6 t3] n }) :
    ∃ m, Gc mg "BEGINNING" (.ref m) ∧ ∀ H, LO K H m (nv [1, 1, 6]) :=
  ⟨m, gc_ref X G aB, fun H => .inr ⟨[.int 1 t1, .int 1 t2, .int 6 t3], n, lB, (by show 3 ≤ sizeLine; decide), .cons ⟨t1, rfl⟩ (.cons ⟨t2, rfl⟩ (.cons ⟨t3, rfl⟩ .nil))⟩⟩
theorem mk_lens (X : K.In h) (G : h.Ns mainGlobals mg) {d a1 a2 a3 a4 a5 a6 a7 : Addr} {t1 t2 t3 t4 t5 t6 t7 u1 u2 u3 u4 u5 u6 u7 v1 v2 v3 v4 v5 v6 v7 : Tok} {ep n1 n2 n3 n4 n5 n6 n7 : Nat} (aL : PySem.W.nsIn K mainGlobals "LENGTHS" = some (some (.ref d)))
    (lL : K.lookup d = some { cls := .type "dict", data := .dict #[⟨50, .int 50 t1, .ref a1⟩, ⟨51, .int 51 t2, .ref a2⟩, ⟨54, .int 54 t3, .ref a3⟩, ⟨53, .int 53 t4, .ref a4⟩, ⟨57, .int 57 t5, .ref a5⟩, ⟨61, .int 61 t6, .ref a6⟩, ⟨55, .int 55 t7, .ref a7⟩] ep })
    (hd : (d == sysModules) = false)
    (p1 : K.lookup a1 = some { cls := .type "tuple", data := .seq #[.int 4 u1, .int 4 v1] n1 }) (p2 : K.lookup a2 = some { cls := .type "tuple", data := .seq #[.int 4 u2, .int 4 v2] n2 }) (p3 : K.lookup a3 = some { cls := .type "tuple", data := .seq #[.int 4 u3, .int 4 v3] n3 })
    (p4 : K.lookup a4 = some { cls := .type "tuple", data := .seq #[.int 1 u4, .int 1 v4] n4 }) (p5 : K.lookup a5 = some { cls := .type "tuple", data := .seq #[.int 2 u5, .int 2 v5] n5 }) (p6 : K.lookup a6 = some { cls := .type "tuple", data := .seq #[.int 2 u6, .int 32 v6] n6 })
    (p7 : K.lookup a7 = some { cls := .type "tuple", data := .seq #[.int 1 u7, .int 255 v7] n7 }) : ∃ d, Gc mg "LENGTHS" (.ref d) ∧ Lens K d :=
  ⟨d, gc_ref X G aL, ⟨a1, a2, a3, a4, a5, a6, a7, t1, t2, t3, t4, t5, t6, t7, ep, lL, hd, ⟨u1, v1, n1, p1⟩, ⟨u2, v2, n2, p2⟩, ⟨u3, v3, n3, p3⟩, ⟨u4, v4, n4, p4⟩, ⟨u5, v5, n5, p5⟩, ⟨u6, v6, n6, p6⟩, ⟨u7, v7, n7, p7⟩⟩⟩
theorem mk_longest_over (X : K.In h) (G : h.Ns mainGlobals mg) {f : Addr} {od an : Option Addr} {sl : Array (Option Value)} {oc kV dc pm cd ct : Value} (a : PySem.W.nsIn K mainGlobals "longest_over" = some (some (.ref f))) (l : K.lookup f = some ⟨oc, od, .func (PySem.W.fnOf "longest_over" "longest_over" (defArgs s_longest_over) (defBody s_longest_over) (defScope s_longest_over) .none kV dc pm an cd ct), sl⟩) (c : PySem.W.codeIn K cd "longest_over" = true) (k : PySem.W.keepIn K (.ref f) = true) : DefG K mg "longest_over" s_longest_over ["places"] :=
  ⟨f, _, PySem.W.mg_of X G a, fun_mk l c k, k, (fun_mk (st := s_longest_over) l c k).binds (ps := ["places"]) fun _ _ _ _ _ _ us hl => match us, hl with | [_], _ => rfl⟩
theorem mk_chosen (X : K.In h) (G : h.Ns mainGlobals mg) {f : Addr} {od an : Option Addr} {sl : Array (Option Value)} {oc kV dc pm cd ct : Value} (a : PySem.W.nsIn K mainGlobals "chosen" = some (some (.ref f))) (l : K.lookup f = some ⟨oc, od, .func (PySem.W.fnOf "chosen" "chosen" (defArgs s_chosen) (defBody s_chosen) (defScope s_chosen) .none kV dc pm an cd ct), sl⟩) (c : PySem.W.codeIn K cd "chosen" = true) (k : PySem.W.keepIn K (.ref f) = true) : DefG K mg "chosen" s_chosen ["net", "who", "wanted"] :=
  ⟨f, _, PySem.W.mg_of X G a, fun_mk l c k, k, (fun_mk (st := s_chosen) l c k).binds (ps := ["net", "who", "wanted"]) fun _ _ _ _ _ _ us hl => match us, hl with | [_, _, _], _ => rfl⟩
theorem mk_is_mask (X : K.In h) (G : h.Ns mainGlobals mg) {f : Addr} {od an : Option Addr} {sl : Array (Option Value)} {oc kV dc pm cd ct : Value} (a : PySem.W.nsIn K mainGlobals "is_mask" = some (some (.ref f))) (l : K.lookup f = some ⟨oc, od, .func (PySem.W.fnOf "is_mask" "is_mask" (defArgs s_is_mask) (defBody s_is_mask) (defScope s_is_mask) .none kV dc pm an cd ct), sl⟩) (c : PySem.W.codeIn K cd "is_mask" = true) (k : PySem.W.keepIn K (.ref f) = true) : DefG K mg "is_mask" s_is_mask ["mask"] :=
  ⟨f, _, PySem.W.mg_of X G a, fun_mk l c k, k, (fun_mk (st := s_is_mask) l c k).binds (ps := ["mask"]) fun _ _ _ _ _ _ us hl => match us, hl with | [_], _ => rfl⟩
theorem mk_is_net (X : K.In h) (G : h.Ns mainGlobals mg) {f : Addr} {od an : Option Addr} {sl : Array (Option Value)} {oc kV dc pm cd ct : Value} (a : PySem.W.nsIn K mainGlobals "is_net" = some (some (.ref f))) (l : K.lookup f = some ⟨oc, od, .func (PySem.W.fnOf "is_net" "is_net" (defArgs s_is_net) (defBody s_is_net) (defScope s_is_net) .none kV dc pm an cd ct), sl⟩) (c : PySem.W.codeIn K cd "is_net" = true) (k : PySem.W.keepIn K (.ref f) = true) : DefG K mg "is_net" s_is_net ["numbers"] :=
  ⟨f, _, PySem.W.mg_of X G a, fun_mk l c k, k, (fun_mk (st := s_is_net) l c k).binds (ps := ["numbers"]) fun _ _ _ _ _ _ us hl => match us, hl with | [_], _ => rfl⟩
theorem mk_ask (X : K.In h) (G : h.Ns mainGlobals mg) {f : Addr} {od an : Option Addr} {sl : Array (Option Value)} {oc kV dc pm cd ct : Value} (a : PySem.W.nsIn K mainGlobals "ask" = some (some (.ref f))) (l : K.lookup f = some ⟨oc, od, .func (PySem.W.fnOf "ask" "ask" (defArgs s_ask) (defBody s_ask) (defScope s_ask) .none kV dc pm an cd ct), sl⟩) (c : PySem.W.codeIn K cd "ask" = true) (k : PySem.W.keepIn K (.ref f) = true) : DefG K mg "ask" s_ask ["good"] :=
  ⟨f, _, PySem.W.mg_of X G a, fun_mk l c k, k, (fun_mk (st := s_ask) l c k).binds (ps := ["good"]) fun _ _ _ _ _ _ us hl => match us, hl with | [_], _ => rfl⟩
theorem mk_whole_of (X : K.In h) (G : h.Ns mainGlobals mg) {f : Addr} {od an : Option Addr} {sl : Array (Option Value)} {oc kV dc pm cd ct : Value} (a : PySem.W.nsIn K mainGlobals "whole_of" = some (some (.ref f))) (l : K.lookup f = some ⟨oc, od, .func (PySem.W.fnOf "whole_of" "whole_of" (defArgs s_whole_of) (defBody s_whole_of) (defScope s_whole_of) .none kV dc pm an cd ct), sl⟩) (c : PySem.W.codeIn K cd "whole_of" = true) (k : PySem.W.keepIn K (.ref f) = true) : DefG K mg "whole_of" s_whole_of ["row"] :=
  ⟨f, _, PySem.W.mg_of X G a, fun_mk l c k, k, (fun_mk (st := s_whole_of) l c k).binds (ps := ["row"]) fun _ _ _ _ _ _ us hl => match us, hl with | [_], _ => rfl⟩
theorem mk_row_of (X : K.In h) (G : h.Ns mainGlobals mg) {f : Addr} {od an : Option Addr} {sl : Array (Option Value)} {oc kV dc pm cd ct : Value} (a : PySem.W.nsIn K mainGlobals "row_of" = some (some (.ref f))) (l : K.lookup f = some ⟨oc, od, .func (PySem.W.fnOf "row_of" "row_of" (defArgs s_row_of) (defBody s_row_of) (defScope s_row_of) .none kV dc pm an cd ct), sl⟩) (c : PySem.W.codeIn K cd "row_of" = true) (k : PySem.W.keepIn K (.ref f) = true) : DefG K mg "row_of" s_row_of ["number", "many"] :=
  ⟨f, _, PySem.W.mg_of X G a, fun_mk l c k, k, (fun_mk (st := s_row_of) l c k).binds (ps := ["number", "many"]) fun _ _ _ _ _ _ us hl => match us, hl with | [_, _], _ => rfl⟩
theorem mk_check_option (X : K.In h) (G : h.Ns mainGlobals mg) {f : Addr} {od an : Option Addr} {sl : Array (Option Value)} {oc kV dc pm cd ct : Value} (a : PySem.W.nsIn K mainGlobals "check_option" = some (some (.ref f))) (l : K.lookup f = some ⟨oc, od, .func (PySem.W.fnOf "check_option" "check_option" (defArgs s_check_option) (defBody s_check_option) (defScope s_check_option) .none kV dc pm an cd ct), sl⟩) (c : PySem.W.codeIn K cd "check_option" = true) (k : PySem.W.keepIn K (.ref f) = true) : DefG K mg "check_option" s_check_option ["options", "number", "given"] :=
  ⟨f, _, PySem.W.mg_of X G a, fun_mk l c k, k, (fun_mk (st := s_check_option) l c k).binds (ps := ["options", "number", "given"]) fun _ _ _ _ _ _ us hl => match us, hl with | [_, _, _], _ => rfl⟩
theorem mk_read_options (X : K.In h) (G : h.Ns mainGlobals mg) {f : Addr} {od an : Option Addr} {sl : Array (Option Value)} {oc kV dc pm cd ct : Value} (a : PySem.W.nsIn K mainGlobals "read_options" = some (some (.ref f))) (l : K.lookup f = some ⟨oc, od, .func (PySem.W.fnOf "read_options" "read_options" (defArgs s_read_options) (defBody s_read_options) (defScope s_read_options) .none kV dc pm an cd ct), sl⟩) (c : PySem.W.codeIn K cd "read_options" = true) (k : PySem.W.keepIn K (.ref f) = true) : DefG K mg "read_options" s_read_options ["row"] :=
  ⟨f, _, PySem.W.mg_of X G a, fun_mk l c k, k, (fun_mk (st := s_read_options) l c k).binds (ps := ["row"]) fun _ _ _ _ _ _ us hl => match us, hl with | [_], _ => rfl⟩
theorem mk_read_packet (X : K.In h) (G : h.Ns mainGlobals mg) {f : Addr} {od an : Option Addr} {sl : Array (Option Value)} {oc kV dc pm cd ct : Value} (a : PySem.W.nsIn K mainGlobals "read_packet" = some (some (.ref f))) (l : K.lookup f = some ⟨oc, od, .func (PySem.W.fnOf "read_packet" "read_packet" (defArgs s_read_packet) (defBody s_read_packet) (defScope s_read_packet) .none kV dc pm an cd ct), sl⟩) (c : PySem.W.codeIn K cd "read_packet" = true) (k : PySem.W.keepIn K (.ref f) = true) : DefG K mg "read_packet" s_read_packet ["row"] :=
  ⟨f, _, PySem.W.mg_of X G a, fun_mk l c k, k, (fun_mk (st := s_read_packet) l c k).binds (ps := ["row"]) fun _ _ _ _ _ _ us hl => match us, hl with | [_], _ => rfl⟩
theorem mk_packet_or_none (X : K.In h) (G : h.Ns mainGlobals mg) {f : Addr} {od an : Option Addr} {sl : Array (Option Value)} {oc kV dc pm cd ct : Value} (a : PySem.W.nsIn K mainGlobals "packet_or_none" = some (some (.ref f))) (l : K.lookup f = some ⟨oc, od, .func (PySem.W.fnOf "packet_or_none" "packet_or_none" (defArgs s_packet_or_none) (defBody s_packet_or_none) (defScope s_packet_or_none) .none kV dc pm an cd ct), sl⟩) (c : PySem.W.codeIn K cd "packet_or_none" = true) (k : PySem.W.keepIn K (.ref f) = true) : DefG K mg "packet_or_none" s_packet_or_none ["row"] :=
  ⟨f, _, PySem.W.mg_of X G a, fun_mk l c k, k, (fun_mk (st := s_packet_or_none) l c k).binds (ps := ["row"]) fun _ _ _ _ _ _ us hl => match us, hl with | [_], _ => rfl⟩
theorem mk_option (X : K.In h) (G : h.Ns mainGlobals mg) {f : Addr} {od an : Option Addr} {sl : Array (Option Value)} {oc kV dc pm cd ct : Value} (a : PySem.W.nsIn K mainGlobals "option" = some (some (.ref f))) (l : K.lookup f = some ⟨oc, od, .func (PySem.W.fnOf "option" "option" (defArgs s_option) (defBody s_option) (defScope s_option) .none kV dc pm an cd ct), sl⟩) (c : PySem.W.codeIn K cd "option" = true) (k : PySem.W.keepIn K (.ref f) = true) : DefG K mg "option" s_option ["number", "given"] :=
  ⟨f, _, PySem.W.mg_of X G a, fun_mk l c k, k, (fun_mk (st := s_option) l c k).binds (ps := ["number", "given"]) fun _ _ _ _ _ _ us hl => match us, hl with | [_, _], _ => rfl⟩
theorem mk_address_option (X : K.In h) (G : h.Ns mainGlobals mg) {f : Addr} {od an : Option Addr} {sl : Array (Option Value)} {oc kV dc pm cd ct : Value} (a : PySem.W.nsIn K mainGlobals "address_option" = some (some (.ref f))) (l : K.lookup f = some ⟨oc, od, .func (PySem.W.fnOf "address_option" "address_option" (defArgs s_address_option) (defBody s_address_option) (defScope s_address_option) .none kV dc pm an cd ct), sl⟩) (c : PySem.W.codeIn K cd "address_option" = true) (k : PySem.W.keepIn K (.ref f) = true) : DefG K mg "address_option" s_address_option ["number", "address"] :=
  ⟨f, _, PySem.W.mg_of X G a, fun_mk l c k, k, (fun_mk (st := s_address_option) l c k).binds (ps := ["number", "address"]) fun _ _ _ _ _ _ us hl => match us, hl with | [_, _], _ => rfl⟩
theorem mk_option_rows (X : K.In h) (G : h.Ns mainGlobals mg) {f : Addr} {od an : Option Addr} {sl : Array (Option Value)} {oc kV dc pm cd ct : Value} (a : PySem.W.nsIn K mainGlobals "option_rows" = some (some (.ref f))) (l : K.lookup f = some ⟨oc, od, .func (PySem.W.fnOf "option_rows" "option_rows" (defArgs s_option_rows) (defBody s_option_rows) (defScope s_option_rows) .none kV dc pm an cd ct), sl⟩) (c : PySem.W.codeIn K cd "option_rows" = true) (k : PySem.W.keepIn K (.ref f) = true) : DefG K mg "option_rows" s_option_rows ["net", "packet", "reply"] :=
  ⟨f, _, PySem.W.mg_of X G a, fun_mk l c k, k, (fun_mk (st := s_option_rows) l c k).binds (ps := ["net", "packet", "reply"]) fun _ _ _ _ _ _ us hl => match us, hl with | [_, _, _], _ => rfl⟩
theorem mk_reply_row (X : K.In h) (G : h.Ns mainGlobals mg) {f : Addr} {od an : Option Addr} {sl : Array (Option Value)} {oc kV dc pm cd ct : Value} (a : PySem.W.nsIn K mainGlobals "reply_row" = some (some (.ref f))) (l : K.lookup f = some ⟨oc, od, .func (PySem.W.fnOf "reply_row" "reply_row" (defArgs s_reply_row) (defBody s_reply_row) (defScope s_reply_row) .none kV dc pm an cd ct), sl⟩) (c : PySem.W.codeIn K cd "reply_row" = true) (k : PySem.W.keepIn K (.ref f) = true) : DefG K mg "reply_row" s_reply_row ["net", "packet", "reply"] :=
  ⟨f, _, PySem.W.mg_of X G a, fun_mk l c k, k, (fun_mk (st := s_reply_row) l c k).binds (ps := ["net", "packet", "reply"]) fun _ _ _ _ _ _ us hl => match us, hl with | [_, _, _], _ => rfl⟩
theorem mk_target_of (X : K.In h) (G : h.Ns mainGlobals mg) {f : Addr} {od an : Option Addr} {sl : Array (Option Value)} {oc kV dc pm cd ct : Value} (a : PySem.W.nsIn K mainGlobals "target_of" = some (some (.ref f))) (l : K.lookup f = some ⟨oc, od, .func (PySem.W.fnOf "target_of" "target_of" (defArgs s_target_of) (defBody s_target_of) (defScope s_target_of) .none kV dc pm an cd ct), sl⟩) (c : PySem.W.codeIn K cd "target_of" = true) (k : PySem.W.keepIn K (.ref f) = true) : DefG K mg "target_of" s_target_of ["packet", "reply"] :=
  ⟨f, _, PySem.W.mg_of X G a, fun_mk l c k, k, (fun_mk (st := s_target_of) l c k).binds (ps := ["packet", "reply"]) fun _ _ _ _ _ _ us hl => match us, hl with | [_, _], _ => rfl⟩
theorem mk_told (X : K.In h) (G : h.Ns mainGlobals mg) {f : Addr} {od an : Option Addr} {sl : Array (Option Value)} {oc kV dc pm cd ct : Value} (a : PySem.W.nsIn K mainGlobals "told" = some (some (.ref f))) (l : K.lookup f = some ⟨oc, od, .func (PySem.W.fnOf "told" "told" (defArgs s_told) (defBody s_told) (defScope s_told) .none kV dc pm an cd ct), sl⟩) (c : PySem.W.codeIn K cd "told" = true) (k : PySem.W.keepIn K (.ref f) = true) : DefG K mg "told" s_told ["net", "packet", "reply"] :=
  ⟨f, _, PySem.W.mg_of X G a, fun_mk l c k, k, (fun_mk (st := s_told) l c k).binds (ps := ["net", "packet", "reply"]) fun _ _ _ _ _ _ us hl => match us, hl with | [_, _, _], _ => rfl⟩
theorem mk_discover (X : K.In h) (G : h.Ns mainGlobals mg) {f : Addr} {od an : Option Addr} {sl : Array (Option Value)} {oc kV dc pm cd ct : Value} (a : PySem.W.nsIn K mainGlobals "discover" = some (some (.ref f))) (l : K.lookup f = some ⟨oc, od, .func (PySem.W.fnOf "discover" "discover" (defArgs s_discover) (defBody s_discover) (defScope s_discover) .none kV dc pm an cd ct), sl⟩) (c : PySem.W.codeIn K cd "discover" = true) (k : PySem.W.keepIn K (.ref f) = true) : DefG K mg "discover" s_discover ["net", "packet"] :=
  ⟨f, _, PySem.W.mg_of X G a, fun_mk l c k, k, (fun_mk (st := s_discover) l c k).binds (ps := ["net", "packet"]) fun _ _ _ _ _ _ us hl => match us, hl with | [_, _], _ => rfl⟩
theorem mk_lent (X : K.In h) (G : h.Ns mainGlobals mg) {f : Addr} {od an : Option Addr} {sl : Array (Option Value)} {oc kV dc pm cd ct : Value} (a : PySem.W.nsIn K mainGlobals "lent" = some (some (.ref f))) (l : K.lookup f = some ⟨oc, od, .func (PySem.W.fnOf "lent" "lent" (defArgs s_lent) (defBody s_lent) (defScope s_lent) .none kV dc pm an cd ct), sl⟩) (c : PySem.W.codeIn K cd "lent" = true) (k : PySem.W.keepIn K (.ref f) = true) : DefG K mg "lent" s_lent ["net", "place"] :=
  ⟨f, _, PySem.W.mg_of X G a, fun_mk l c k, k, (fun_mk (st := s_lent) l c k).binds (ps := ["net", "place"]) fun _ _ _ _ _ _ us hl => match us, hl with | [_, _], _ => rfl⟩
theorem mk_request_here (X : K.In h) (G : h.Ns mainGlobals mg) {f : Addr} {od an : Option Addr} {sl : Array (Option Value)} {oc kV dc pm cd ct : Value} (a : PySem.W.nsIn K mainGlobals "request_here" = some (some (.ref f))) (l : K.lookup f = some ⟨oc, od, .func (PySem.W.fnOf "request_here" "request_here" (defArgs s_request_here) (defBody s_request_here) (defScope s_request_here) .none kV dc pm an cd ct), sl⟩) (c : PySem.W.codeIn K cd "request_here" = true) (k : PySem.W.keepIn K (.ref f) = true) : DefG K mg "request_here" s_request_here ["net", "packet", "wanted"] :=
  ⟨f, _, PySem.W.mg_of X G a, fun_mk l c k, k, (fun_mk (st := s_request_here) l c k).binds (ps := ["net", "packet", "wanted"]) fun _ _ _ _ _ _ us hl => match us, hl with | [_, _, _], _ => rfl⟩
theorem mk_request_again (X : K.In h) (G : h.Ns mainGlobals mg) {f : Addr} {od an : Option Addr} {sl : Array (Option Value)} {oc kV dc pm cd ct : Value} (a : PySem.W.nsIn K mainGlobals "request_again" = some (some (.ref f))) (l : K.lookup f = some ⟨oc, od, .func (PySem.W.fnOf "request_again" "request_again" (defArgs s_request_again) (defBody s_request_again) (defScope s_request_again) .none kV dc pm an cd ct), sl⟩) (c : PySem.W.codeIn K cd "request_again" = true) (k : PySem.W.keepIn K (.ref f) = true) : DefG K mg "request_again" s_request_again ["net", "packet", "wanted"] :=
  ⟨f, _, PySem.W.mg_of X G a, fun_mk l c k, k, (fun_mk (st := s_request_again) l c k).binds (ps := ["net", "packet", "wanted"]) fun _ _ _ _ _ _ us hl => match us, hl with | [_, _, _], _ => rfl⟩
theorem mk_request_longer (X : K.In h) (G : h.Ns mainGlobals mg) {f : Addr} {od an : Option Addr} {sl : Array (Option Value)} {oc kV dc pm cd ct : Value} (a : PySem.W.nsIn K mainGlobals "request_longer" = some (some (.ref f))) (l : K.lookup f = some ⟨oc, od, .func (PySem.W.fnOf "request_longer" "request_longer" (defArgs s_request_longer) (defBody s_request_longer) (defScope s_request_longer) .none kV dc pm an cd ct), sl⟩) (c : PySem.W.codeIn K cd "request_longer" = true) (k : PySem.W.keepIn K (.ref f) = true) : DefG K mg "request_longer" s_request_longer ["net", "packet"] :=
  ⟨f, _, PySem.W.mg_of X G a, fun_mk l c k, k, (fun_mk (st := s_request_longer) l c k).binds (ps := ["net", "packet"]) fun _ _ _ _ _ _ us hl => match us, hl with | [_, _], _ => rfl⟩
theorem mk_request (X : K.In h) (G : h.Ns mainGlobals mg) {f : Addr} {od an : Option Addr} {sl : Array (Option Value)} {oc kV dc pm cd ct : Value} (a : PySem.W.nsIn K mainGlobals "request" = some (some (.ref f))) (l : K.lookup f = some ⟨oc, od, .func (PySem.W.fnOf "request" "request" (defArgs s_request) (defBody s_request) (defScope s_request) .none kV dc pm an cd ct), sl⟩) (c : PySem.W.codeIn K cd "request" = true) (k : PySem.W.keepIn K (.ref f) = true) : DefG K mg "request" s_request ["net", "packet"] :=
  ⟨f, _, PySem.W.mg_of X G a, fun_mk l c k, k, (fun_mk (st := s_request) l c k).binds (ps := ["net", "packet"]) fun _ _ _ _ _ _ us hl => match us, hl with | [_, _], _ => rfl⟩
theorem mk_decline (X : K.In h) (G : h.Ns mainGlobals mg) {f : Addr} {od an : Option Addr} {sl : Array (Option Value)} {oc kV dc pm cd ct : Value} (a : PySem.W.nsIn K mainGlobals "decline" = some (some (.ref f))) (l : K.lookup f = some ⟨oc, od, .func (PySem.W.fnOf "decline" "decline" (defArgs s_decline) (defBody s_decline) (defScope s_decline) .none kV dc pm an cd ct), sl⟩) (c : PySem.W.codeIn K cd "decline" = true) (k : PySem.W.keepIn K (.ref f) = true) : DefG K mg "decline" s_decline ["net", "packet"] :=
  ⟨f, _, PySem.W.mg_of X G a, fun_mk l c k, k, (fun_mk (st := s_decline) l c k).binds (ps := ["net", "packet"]) fun _ _ _ _ _ _ us hl => match us, hl with | [_, _], _ => rfl⟩
theorem mk_release (X : K.In h) (G : h.Ns mainGlobals mg) {f : Addr} {od an : Option Addr} {sl : Array (Option Value)} {oc kV dc pm cd ct : Value} (a : PySem.W.nsIn K mainGlobals "release" = some (some (.ref f))) (l : K.lookup f = some ⟨oc, od, .func (PySem.W.fnOf "release" "release" (defArgs s_release) (defBody s_release) (defScope s_release) .none kV dc pm an cd ct), sl⟩) (c : PySem.W.codeIn K cd "release" = true) (k : PySem.W.keepIn K (.ref f) = true) : DefG K mg "release" s_release ["net", "packet"] :=
  ⟨f, _, PySem.W.mg_of X G a, fun_mk l c k, k, (fun_mk (st := s_release) l c k).binds (ps := ["net", "packet"]) fun _ _ _ _ _ _ us hl => match us, hl with | [_, _], _ => rfl⟩
theorem mk_reply_to (X : K.In h) (G : h.Ns mainGlobals mg) {f : Addr} {od an : Option Addr} {sl : Array (Option Value)} {oc kV dc pm cd ct : Value} (a : PySem.W.nsIn K mainGlobals "reply_to" = some (some (.ref f))) (l : K.lookup f = some ⟨oc, od, .func (PySem.W.fnOf "reply_to" "reply_to" (defArgs s_reply_to) (defBody s_reply_to) (defScope s_reply_to) .none kV dc pm an cd ct), sl⟩) (c : PySem.W.codeIn K cd "reply_to" = true) (k : PySem.W.keepIn K (.ref f) = true) : DefG K mg "reply_to" s_reply_to ["net", "packet"] :=
  ⟨f, _, PySem.W.mg_of X G a, fun_mk l c k, k, (fun_mk (st := s_reply_to) l c k).binds (ps := ["net", "packet"]) fun _ _ _ _ _ _ us hl => match us, hl with | [_, _], _ => rfl⟩
theorem mk_set_time (X : K.In h) (G : h.Ns mainGlobals mg) {f : Addr} {od an : Option Addr} {sl : Array (Option Value)} {oc kV dc pm cd ct : Value} (a : PySem.W.nsIn K mainGlobals "set_time" = some (some (.ref f))) (l : K.lookup f = some ⟨oc, od, .func (PySem.W.fnOf "set_time" "set_time" (defArgs s_set_time) (defBody s_set_time) (defScope s_set_time) .none kV dc pm an cd ct), sl⟩) (c : PySem.W.codeIn K cd "set_time" = true) (k : PySem.W.keepIn K (.ref f) = true) : DefG K mg "set_time" s_set_time ["net", "t"] :=
  ⟨f, _, PySem.W.mg_of X G a, fun_mk l c k, k, (fun_mk (st := s_set_time) l c k).binds (ps := ["net", "t"]) fun _ _ _ _ _ _ us hl => match us, hl with | [_, _], _ => rfl⟩
structure FDesk (K : PySem.W.Frag) (mg : Str → Option Value) (C : Addr) : Prop where
  cl : Cls K C
  a_net : NoAttr K C "net"
  init : DefI K mg C "Desk" "Desk.__init__" s_initD ["self"]
  m_start : DefM K C "start" "Desk.start" s_Desk_start ["self", "numbers"]
  m_packet : DefM K C "packet" "Desk.packet" s_Desk_packet ["self", "row"]
  m_tick : DefM K C "tick" "Desk.tick" s_Desk_tick ["self", "t"]
  m_look : DefM K C "look" "Desk.look" s_Desk_look ["self", "address"]
theorem mk_Desk (X : K.In h) (G : h.Ns mainGlobals mg) {C : Addr} {f1 : Addr} {od1 an1 : Option Addr} {sl1 : Array (Option Value)} {oc1 kV1 dc1 pm1 cd1 ct1 : Value} {f2 : Addr} {od2 an2 : Option Addr} {sl2 : Array (Option Value)} {oc2 kV2 dc2 pm2 cd2 ct2 : Value} {f3 : Addr} {od3 an3 : Option Addr} {sl3 : Array (Option Value)} {oc3 kV3 dc3 pm3 cd3 ct3 : Value} {f4 : Addr} {od4 an4 : Option Addr} {sl4 : Array (Option Value)} {oc4 kV4 dc4 pm4 cd4 ct4 : Value} {f5 : Addr} {od5 an5 : Option Addr} {sl5 : Array (Option Value)} {oc5 kV5 dc5 pm5 cd5 ct5 : Value}
    (aC : PySem.W.nsIn K mainGlobals "Desk" = some (some (.ref C)))
    (pg : PySem.W.plainGet K C Str.empty = true) (hd : PySem.W.hasDictIn K C = true) (po : PySem.W.plainOver K C = true) (sa : PySem.W.findIn K (.ref C) "__setattr__" = some (some (.builtin "object.__setattr__"))) (mk : PySem.W.makesIn K C = true) (kc : PySem.W.keepIn K (.ref C) = true)
    (n_net : PySem.W.findIn K (.ref C) "net" = some none)
    (a1 : PySem.W.findIn K (.ref C) "__init__" = some (some (.ref f1))) (i1 : PySem.W.isFn K (.ref f1) = true) (l1 : K.lookup f1 = some ⟨oc1, od1, .func (PySem.W.fnOf "__init__" "Desk.__init__" (defArgs s_initD) (defBody s_initD) (defScope s_initD) .none kV1 dc1 pm1 an1 cd1 ct1), sl1⟩) (c1 : PySem.W.codeIn K cd1 "Desk.__init__" = true) (k1 : PySem.W.keepIn K (.ref f1) = true)
    (a2 : PySem.W.findIn K (.ref C) "start" = some (some (.ref f2))) (i2 : PySem.W.isFn K (.ref f2) = true) (l2 : K.lookup f2 = some ⟨oc2, od2, .func (PySem.W.fnOf "start" "Desk.start" (defArgs s_Desk_start) (defBody s_Desk_start) (defScope s_Desk_start) .none kV2 dc2 pm2 an2 cd2 ct2), sl2⟩) (c2 : PySem.W.codeIn K cd2 "Desk.start" = true) (k2 : PySem.W.keepIn K (.ref f2) = true)
    (a3 : PySem.W.findIn K (.ref C) "packet" = some (some (.ref f3))) (i3 : PySem.W.isFn K (.ref f3) = true) (l3 : K.lookup f3 = some ⟨oc3, od3, .func (PySem.W.fnOf "packet" "Desk.packet" (defArgs s_Desk_packet) (defBody s_Desk_packet) (defScope s_Desk_packet) .none kV3 dc3 pm3 an3 cd3 ct3), sl3⟩) (c3 : PySem.W.codeIn K cd3 "Desk.packet" = true) (k3 : PySem.W.keepIn K (.ref f3) = true)
    (a4 : PySem.W.findIn K (.ref C) "tick" = some (some (.ref f4))) (i4 : PySem.W.isFn K (.ref f4) = true) (l4 : K.lookup f4 = some ⟨oc4, od4, .func (PySem.W.fnOf "tick" "Desk.tick" (defArgs s_Desk_tick) (defBody s_Desk_tick) (defScope s_Desk_tick) .none kV4 dc4 pm4 an4 cd4 ct4), sl4⟩) (c4 : PySem.W.codeIn K cd4 "Desk.tick" = true) (k4 : PySem.W.keepIn K (.ref f4) = true)
    (a5 : PySem.W.findIn K (.ref C) "look" = some (some (.ref f5))) (i5 : PySem.W.isFn K (.ref f5) = true) (l5 : K.lookup f5 = some ⟨oc5, od5, .func (PySem.W.fnOf "look" "Desk.look" (defArgs s_Desk_look) (defBody s_Desk_look) (defScope s_Desk_look) .none kV5 dc5 pm5 an5 cd5 ct5), sl5⟩) (c5 : PySem.W.codeIn K cd5 "Desk.look" = true) (k5 : PySem.W.keepIn K (.ref f5) = true) : ∃ C, FDesk K mg C :=
  ⟨C, ⟨⟨pg, hd, po, sa⟩, n_net,
    ⟨f1, _, ⟨mk, a1, i1, kc⟩, PySem.W.mg_of X G aC, fun_mk l1 c1 k1, (fun_mk (st := s_initD) l1 c1 k1).binds (ps := ["self"]) (fun _ _ _ _ _ _ us hl => match us, hl with | [_], _ => rfl)⟩,
    ⟨f2, _, ⟨a2, i2, k2⟩, fun_mk l2 c2 k2, (fun_mk (st := s_Desk_start) l2 c2 k2).binds (ps := ["self", "numbers"]) (fun _ _ _ _ _ _ us hl => match us, hl with | [_, _], _ => rfl)⟩,
    ⟨f3, _, ⟨a3, i3, k3⟩, fun_mk l3 c3 k3, (fun_mk (st := s_Desk_packet) l3 c3 k3).binds (ps := ["self", "row"]) (fun _ _ _ _ _ _ us hl => match us, hl with | [_, _], _ => rfl)⟩,
    ⟨f4, _, ⟨a4, i4, k4⟩, fun_mk l4 c4 k4, (fun_mk (st := s_Desk_tick) l4 c4 k4).binds (ps := ["self", "t"]) (fun _ _ _ _ _ _ us hl => match us, hl with | [_, _], _ => rfl)⟩,
    ⟨f5, _, ⟨a5, i5, k5⟩, fun_mk l5 c5 k5, (fun_mk (st := s_Desk_look) l5 c5 k5).binds (ps := ["self", "address"]) (fun _ _ _ _ _ _ us hl => match us, hl with | [_, _], _ => rfl)⟩⟩⟩
structure FNet (K : PySem.W.Frag) (mg : Str → Option Value) (C : Addr) : Prop where
  cl : Cls K C
  a_first : NoAttr K C "first"
  a_long : NoAttr K C "long"
  a_mask : NoAttr K C "mask"
  a_names : NoAttr K C "names"
  a_now : NoAttr K C "now"
  a_places : NoAttr K C "places"
  a_server : NoAttr K C "server"
  a_way_out : NoAttr K C "way_out"
  init : DefI K mg C "Net" "Net.__init__" s_initN ["self", "numbers"]
  m_place_of : DefM K C "place_of" "Net.place_of" s_Net_place_of ["self", "address"]
  m_is_near : DefM K C "is_near" "Net.is_near" s_Net_is_near ["self", "address"]
  m_own_place : DefM K C "own_place" "Net.own_place" s_Net_own_place ["self", "who"]
  m_free_places : DefM K C "free_places" "Net.free_places" s_Net_free_places ["self"]
  m_lend : DefM K C "lend" "Net.lend" s_Net_lend ["self", "place"]
  m_unoffer : DefM K C "unoffer" "Net.unoffer" s_Net_unoffer ["self", "who"]
theorem mk_Net (X : K.In h) (G : h.Ns mainGlobals mg) {C : Addr} {f1 : Addr} {od1 an1 : Option Addr} {sl1 : Array (Option Value)} {oc1 kV1 dc1 pm1 cd1 ct1 : Value} {f2 : Addr} {od2 an2 : Option Addr} {sl2 : Array (Option Value)} {oc2 kV2 dc2 pm2 cd2 ct2 : Value} {f3 : Addr} {od3 an3 : Option Addr} {sl3 : Array (Option Value)} {oc3 kV3 dc3 pm3 cd3 ct3 : Value} {f4 : Addr} {od4 an4 : Option Addr} {sl4 : Array (Option Value)} {oc4 kV4 dc4 pm4 cd4 ct4 : Value} {f5 : Addr} {od5 an5 : Option Addr} {sl5 : Array (Option Value)} {oc5 kV5 dc5 pm5 cd5 ct5 : Value} {f6 : Addr} {od6 an6 : Option Addr} {sl6 : Array (Option Value)} {oc6 kV6 dc6 pm6 cd6 ct6 : Value} {f7 : Addr} {od7 an7 : Option Addr} {sl7 : Array (Option Value)} {oc7 kV7 dc7 pm7 cd7 ct7 : Value}
    (aC : PySem.W.nsIn K mainGlobals "Net" = some (some (.ref C)))
    (pg : PySem.W.plainGet K C Str.empty = true) (hd : PySem.W.hasDictIn K C = true) (po : PySem.W.plainOver K C = true) (sa : PySem.W.findIn K (.ref C) "__setattr__" = some (some (.builtin "object.__setattr__"))) (mk : PySem.W.makesIn K C = true) (kc : PySem.W.keepIn K (.ref C) = true)
    (n_first : PySem.W.findIn K (.ref C) "first" = some none)
    (n_long : PySem.W.findIn K (.ref C) "long" = some none)
    (n_mask : PySem.W.findIn K (.ref C) "mask" = some none)
    (n_names : PySem.W.findIn K (.ref C) "names" = some none)
    (n_now : PySem.W.findIn K (.ref C) "now" = some none)
    (n_places : PySem.W.findIn K (.ref C) "places" = some none)
    (n_server : PySem.W.findIn K (.ref C) "server" = some none)
    (n_way_out : PySem.W.findIn K (.ref C) "way_out" = some none)
    (a1 : PySem.W.findIn K (.ref C) "__init__" = some (some (.ref f1))) (i1 : PySem.W.isFn K (.ref f1) = true) (l1 : K.lookup f1 = some ⟨oc1, od1, .func (PySem.W.fnOf "__init__" "Net.__init__" (defArgs s_initN) (defBody s_initN) (defScope s_initN) .none kV1 dc1 pm1 an1 cd1 ct1), sl1⟩) (c1 : PySem.W.codeIn K cd1 "Net.__init__" = true) (k1 : PySem.W.keepIn K (.ref f1) = true)
    (a2 : PySem.W.findIn K (.ref C) "place_of" = some (some (.ref f2))) (i2 : PySem.W.isFn K (.ref f2) = true) (l2 : K.lookup f2 = some ⟨oc2, od2, .func (PySem.W.fnOf "place_of" "Net.place_of" (defArgs s_Net_place_of) (defBody s_Net_place_of) (defScope s_Net_place_of) .none kV2 dc2 pm2 an2 cd2 ct2), sl2⟩) (c2 : PySem.W.codeIn K cd2 "Net.place_of" = true) (k2 : PySem.W.keepIn K (.ref f2) = true)
    (a3 : PySem.W.findIn K (.ref C) "is_near" = some (some (.ref f3))) (i3 : PySem.W.isFn K (.ref f3) = true) (l3 : K.lookup f3 = some ⟨oc3, od3, .func (PySem.W.fnOf "is_near" "Net.is_near" (defArgs s_Net_is_near) (defBody s_Net_is_near) (defScope s_Net_is_near) .none kV3 dc3 pm3 an3 cd3 ct3), sl3⟩) (c3 : PySem.W.codeIn K cd3 "Net.is_near" = true) (k3 : PySem.W.keepIn K (.ref f3) = true)
    (a4 : PySem.W.findIn K (.ref C) "own_place" = some (some (.ref f4))) (i4 : PySem.W.isFn K (.ref f4) = true) (l4 : K.lookup f4 = some ⟨oc4, od4, .func (PySem.W.fnOf "own_place" "Net.own_place" (defArgs s_Net_own_place) (defBody s_Net_own_place) (defScope s_Net_own_place) .none kV4 dc4 pm4 an4 cd4 ct4), sl4⟩) (c4 : PySem.W.codeIn K cd4 "Net.own_place" = true) (k4 : PySem.W.keepIn K (.ref f4) = true)
    (a5 : PySem.W.findIn K (.ref C) "free_places" = some (some (.ref f5))) (i5 : PySem.W.isFn K (.ref f5) = true) (l5 : K.lookup f5 = some ⟨oc5, od5, .func (PySem.W.fnOf "free_places" "Net.free_places" (defArgs s_Net_free_places) (defBody s_Net_free_places) (defScope s_Net_free_places) .none kV5 dc5 pm5 an5 cd5 ct5), sl5⟩) (c5 : PySem.W.codeIn K cd5 "Net.free_places" = true) (k5 : PySem.W.keepIn K (.ref f5) = true)
    (a6 : PySem.W.findIn K (.ref C) "lend" = some (some (.ref f6))) (i6 : PySem.W.isFn K (.ref f6) = true) (l6 : K.lookup f6 = some ⟨oc6, od6, .func (PySem.W.fnOf "lend" "Net.lend" (defArgs s_Net_lend) (defBody s_Net_lend) (defScope s_Net_lend) .none kV6 dc6 pm6 an6 cd6 ct6), sl6⟩) (c6 : PySem.W.codeIn K cd6 "Net.lend" = true) (k6 : PySem.W.keepIn K (.ref f6) = true)
    (a7 : PySem.W.findIn K (.ref C) "unoffer" = some (some (.ref f7))) (i7 : PySem.W.isFn K (.ref f7) = true) (l7 : K.lookup f7 = some ⟨oc7, od7, .func (PySem.W.fnOf "unoffer" "Net.unoffer" (defArgs s_Net_unoffer) (defBody s_Net_unoffer) (defScope s_Net_unoffer) .none kV7 dc7 pm7 an7 cd7 ct7), sl7⟩) (c7 : PySem.W.codeIn K cd7 "Net.unoffer" = true) (k7 : PySem.W.keepIn K (.ref f7) = true) : ∃ C, FNet K mg C :=
  ⟨C, ⟨⟨pg, hd, po, sa⟩, n_first, n_long, n_mask, n_names, n_now, n_places, n_server, n_way_out,
    ⟨f1, _, ⟨mk, a1, i1, kc⟩, PySem.W.mg_of X G aC, fun_mk l1 c1 k1, (fun_mk (st := s_initN) l1 c1 k1).binds (ps := ["self", "numbers"]) (fun _ _ _ _ _ _ us hl => match us, hl with | [_, _], _ => rfl)⟩,
    ⟨f2, _, ⟨a2, i2, k2⟩, fun_mk l2 c2 k2, (fun_mk (st := s_Net_place_of) l2 c2 k2).binds (ps := ["self", "address"]) (fun _ _ _ _ _ _ us hl => match us, hl with | [_, _], _ => rfl)⟩,
    ⟨f3, _, ⟨a3, i3, k3⟩, fun_mk l3 c3 k3, (fun_mk (st := s_Net_is_near) l3 c3 k3).binds (ps := ["self", "address"]) (fun _ _ _ _ _ _ us hl => match us, hl with | [_, _], _ => rfl)⟩,
    ⟨f4, _, ⟨a4, i4, k4⟩, fun_mk l4 c4 k4, (fun_mk (st := s_Net_own_place) l4 c4 k4).binds (ps := ["self", "who"]) (fun _ _ _ _ _ _ us hl => match us, hl with | [_, _], _ => rfl)⟩,
    ⟨f5, _, ⟨a5, i5, k5⟩, fun_mk l5 c5 k5, (fun_mk (st := s_Net_free_places) l5 c5 k5).binds (ps := ["self"]) (fun _ _ _ _ _ _ us hl => match us, hl with | [_], _ => rfl)⟩,
    ⟨f6, _, ⟨a6, i6, k6⟩, fun_mk l6 c6 k6, (fun_mk (st := s_Net_lend) l6 c6 k6).binds (ps := ["self", "place"]) (fun _ _ _ _ _ _ us hl => match us, hl with | [_, _], _ => rfl)⟩,
    ⟨f7, _, ⟨a7, i7, k7⟩, fun_mk l7 c7 k7, (fun_mk (st := s_Net_unoffer) l7 c7 k7).binds (ps := ["self", "who"]) (fun _ _ _ _ _ _ us hl => match us, hl with | [_, _], _ => rfl)⟩⟩⟩
structure FPacket (K : PySem.W.Frag) (mg : Str → Option Value) (C : Addr) : Prop where
  cl : Cls K C
  a_client : NoAttr K C "client"
  a_flags : NoAttr K C "flags"
  a_kind : NoAttr K C "kind"
  a_machine : NoAttr K C "machine"
  a_number : NoAttr K C "number"
  a_options : NoAttr K C "options"
  a_relay : NoAttr K C "relay"
  init : DefI K mg C "Packet" "Packet.__init__" s_initK ["self", "row", "options"]
  m_address_in : DefM K C "address_in" "Packet.address_in" s_Packet_address_in ["self", "option"]
  m_who : DefM K C "who" "Packet.who" s_Packet_who ["self"]
theorem mk_Packet (X : K.In h) (G : h.Ns mainGlobals mg) {C : Addr} {f1 : Addr} {od1 an1 : Option Addr} {sl1 : Array (Option Value)} {oc1 kV1 dc1 pm1 cd1 ct1 : Value} {f2 : Addr} {od2 an2 : Option Addr} {sl2 : Array (Option Value)} {oc2 kV2 dc2 pm2 cd2 ct2 : Value} {f3 : Addr} {od3 an3 : Option Addr} {sl3 : Array (Option Value)} {oc3 kV3 dc3 pm3 cd3 ct3 : Value}
    (aC : PySem.W.nsIn K mainGlobals "Packet" = some (some (.ref C)))
    (pg : PySem.W.plainGet K C Str.empty = true) (hd : PySem.W.hasDictIn K C = true) (po : PySem.W.plainOver K C = true) (sa : PySem.W.findIn K (.ref C) "__setattr__" = some (some (.builtin "object.__setattr__"))) (mk : PySem.W.makesIn K C = true) (kc : PySem.W.keepIn K (.ref C) = true)
    (n_client : PySem.W.findIn K (.ref C) "client" = some none)
    (n_flags : PySem.W.findIn K (.ref C) "flags" = some none)
    (n_kind : PySem.W.findIn K (.ref C) "kind" = some none)
    (n_machine : PySem.W.findIn K (.ref C) "machine" = some none)
    (n_number : PySem.W.findIn K (.ref C) "number" = some none)
    (n_options : PySem.W.findIn K (.ref C) "options" = some none)
    (n_relay : PySem.W.findIn K (.ref C) "relay" = some none)
    (a1 : PySem.W.findIn K (.ref C) "__init__" = some (some (.ref f1))) (i1 : PySem.W.isFn K (.ref f1) = true) (l1 : K.lookup f1 = some ⟨oc1, od1, .func (PySem.W.fnOf "__init__" "Packet.__init__" (defArgs s_initK) (defBody s_initK) (defScope s_initK) .none kV1 dc1 pm1 an1 cd1 ct1), sl1⟩) (c1 : PySem.W.codeIn K cd1 "Packet.__init__" = true) (k1 : PySem.W.keepIn K (.ref f1) = true)
    (a2 : PySem.W.findIn K (.ref C) "address_in" = some (some (.ref f2))) (i2 : PySem.W.isFn K (.ref f2) = true) (l2 : K.lookup f2 = some ⟨oc2, od2, .func (PySem.W.fnOf "address_in" "Packet.address_in" (defArgs s_Packet_address_in) (defBody s_Packet_address_in) (defScope s_Packet_address_in) .none kV2 dc2 pm2 an2 cd2 ct2), sl2⟩) (c2 : PySem.W.codeIn K cd2 "Packet.address_in" = true) (k2 : PySem.W.keepIn K (.ref f2) = true)
    (a3 : PySem.W.findIn K (.ref C) "who" = some (some (.ref f3))) (i3 : PySem.W.isFn K (.ref f3) = true) (l3 : K.lookup f3 = some ⟨oc3, od3, .func (PySem.W.fnOf "who" "Packet.who" (defArgs s_Packet_who) (defBody s_Packet_who) (defScope s_Packet_who) .none kV3 dc3 pm3 an3 cd3 ct3), sl3⟩) (c3 : PySem.W.codeIn K cd3 "Packet.who" = true) (k3 : PySem.W.keepIn K (.ref f3) = true) : ∃ C, FPacket K mg C :=
  ⟨C, ⟨⟨pg, hd, po, sa⟩, n_client, n_flags, n_kind, n_machine, n_number, n_options, n_relay,
    ⟨f1, _, ⟨mk, a1, i1, kc⟩, PySem.W.mg_of X G aC, fun_mk l1 c1 k1, (fun_mk (st := s_initK) l1 c1 k1).binds (ps := ["self", "row", "options"]) (fun _ _ _ _ _ _ us hl => match us, hl with | [_, _, _], _ => rfl)⟩,
    ⟨f2, _, ⟨a2, i2, k2⟩, fun_mk l2 c2 k2, (fun_mk (st := s_Packet_address_in) l2 c2 k2).binds (ps := ["self", "option"]) (fun _ _ _ _ _ _ us hl => match us, hl with | [_, _], _ => rfl)⟩,
    ⟨f3, _, ⟨a3, i3, k3⟩, fun_mk l3 c3 k3, (fun_mk (st := s_Packet_who) l3 c3 k3).binds (ps := ["self"]) (fun _ _ _ _ _ _ us hl => match us, hl with | [_], _ => rfl)⟩⟩⟩
structure FPlace (K : PySem.W.Frag) (mg : Str → Option Value) (C : Addr) : Prop where
  cl : Cls K C
  a_address : NoAttr K C "address"
  a_owner : NoAttr K C "owner"
  a_state : NoAttr K C "state"
  a_till : NoAttr K C "till"
  init : DefI K mg C "Place" "Place.__init__" s_initP ["self", "address"]
  m_is_own : DefM K C "is_own" "Place.is_own" s_Place_is_own ["self", "who"]
  m_is_free_at : DefM K C "is_free_at" "Place.is_free_at" s_Place_is_free_at ["self", "now"]
  m_become : DefM K C "become" "Place.become" s_Place_become ["self", "state", "till"]
theorem mk_Place (X : K.In h) (G : h.Ns mainGlobals mg) {C : Addr} {f1 : Addr} {od1 an1 : Option Addr} {sl1 : Array (Option Value)} {oc1 kV1 dc1 pm1 cd1 ct1 : Value} {f2 : Addr} {od2 an2 : Option Addr} {sl2 : Array (Option Value)} {oc2 kV2 dc2 pm2 cd2 ct2 : Value} {f3 : Addr} {od3 an3 : Option Addr} {sl3 : Array (Option Value)} {oc3 kV3 dc3 pm3 cd3 ct3 : Value} {f4 : Addr} {od4 an4 : Option Addr} {sl4 : Array (Option Value)} {oc4 kV4 dc4 pm4 cd4 ct4 : Value}
    (aC : PySem.W.nsIn K mainGlobals "Place" = some (some (.ref C)))
    (pg : PySem.W.plainGet K C Str.empty = true) (hd : PySem.W.hasDictIn K C = true) (po : PySem.W.plainOver K C = true) (sa : PySem.W.findIn K (.ref C) "__setattr__" = some (some (.builtin "object.__setattr__"))) (mk : PySem.W.makesIn K C = true) (kc : PySem.W.keepIn K (.ref C) = true)
    (n_address : PySem.W.findIn K (.ref C) "address" = some none)
    (n_owner : PySem.W.findIn K (.ref C) "owner" = some none)
    (n_state : PySem.W.findIn K (.ref C) "state" = some none)
    (n_till : PySem.W.findIn K (.ref C) "till" = some none)
    (a1 : PySem.W.findIn K (.ref C) "__init__" = some (some (.ref f1))) (i1 : PySem.W.isFn K (.ref f1) = true) (l1 : K.lookup f1 = some ⟨oc1, od1, .func (PySem.W.fnOf "__init__" "Place.__init__" (defArgs s_initP) (defBody s_initP) (defScope s_initP) .none kV1 dc1 pm1 an1 cd1 ct1), sl1⟩) (c1 : PySem.W.codeIn K cd1 "Place.__init__" = true) (k1 : PySem.W.keepIn K (.ref f1) = true)
    (a2 : PySem.W.findIn K (.ref C) "is_own" = some (some (.ref f2))) (i2 : PySem.W.isFn K (.ref f2) = true) (l2 : K.lookup f2 = some ⟨oc2, od2, .func (PySem.W.fnOf "is_own" "Place.is_own" (defArgs s_Place_is_own) (defBody s_Place_is_own) (defScope s_Place_is_own) .none kV2 dc2 pm2 an2 cd2 ct2), sl2⟩) (c2 : PySem.W.codeIn K cd2 "Place.is_own" = true) (k2 : PySem.W.keepIn K (.ref f2) = true)
    (a3 : PySem.W.findIn K (.ref C) "is_free_at" = some (some (.ref f3))) (i3 : PySem.W.isFn K (.ref f3) = true) (l3 : K.lookup f3 = some ⟨oc3, od3, .func (PySem.W.fnOf "is_free_at" "Place.is_free_at" (defArgs s_Place_is_free_at) (defBody s_Place_is_free_at) (defScope s_Place_is_free_at) .none kV3 dc3 pm3 an3 cd3 ct3), sl3⟩) (c3 : PySem.W.codeIn K cd3 "Place.is_free_at" = true) (k3 : PySem.W.keepIn K (.ref f3) = true)
    (a4 : PySem.W.findIn K (.ref C) "become" = some (some (.ref f4))) (i4 : PySem.W.isFn K (.ref f4) = true) (l4 : K.lookup f4 = some ⟨oc4, od4, .func (PySem.W.fnOf "become" "Place.become" (defArgs s_Place_become) (defBody s_Place_become) (defScope s_Place_become) .none kV4 dc4 pm4 an4 cd4 ct4), sl4⟩) (c4 : PySem.W.codeIn K cd4 "Place.become" = true) (k4 : PySem.W.keepIn K (.ref f4) = true) : ∃ C, FPlace K mg C :=
  ⟨C, ⟨⟨pg, hd, po, sa⟩, n_address, n_owner, n_state, n_till,
    ⟨f1, _, ⟨mk, a1, i1, kc⟩, PySem.W.mg_of X G aC, fun_mk l1 c1 k1, (fun_mk (st := s_initP) l1 c1 k1).binds (ps := ["self", "address"]) (fun _ _ _ _ _ _ us hl => match us, hl with | [_, _], _ => rfl)⟩,
    ⟨f2, _, ⟨a2, i2, k2⟩, fun_mk l2 c2 k2, (fun_mk (st := s_Place_is_own) l2 c2 k2).binds (ps := ["self", "who"]) (fun _ _ _ _ _ _ us hl => match us, hl with | [_, _], _ => rfl)⟩,
    ⟨f3, _, ⟨a3, i3, k3⟩, fun_mk l3 c3 k3, (fun_mk (st := s_Place_is_free_at) l3 c3 k3).binds (ps := ["self", "now"]) (fun _ _ _ _ _ _ us hl => match us, hl with | [_, _], _ => rfl)⟩,
    ⟨f4, _, ⟨a4, i4, k4⟩, fun_mk l4 c4 k4, (fun_mk (st := s_Place_become) l4 c4 k4).binds (ps := ["self", "state", "till"]) (fun _ _ _ _ _ _ us hl => match us, hl with | [_, _, _], _ => rfl)⟩⟩⟩
structure FReply (K : PySem.W.Frag) (mg : Str → Option Value) (C : Addr) : Prop where
  cl : Cls K C
  a_kind : NoAttr K C "kind"
  a_yours : NoAttr K C "yours"
  init : DefI K mg C "Reply" "Reply.__init__" s_initR ["self", "kind", "yours"]
theorem mk_Reply (X : K.In h) (G : h.Ns mainGlobals mg) {C : Addr} {f1 : Addr} {od1 an1 : Option Addr} {sl1 : Array (Option Value)} {oc1 kV1 dc1 pm1 cd1 ct1 : Value}
    (aC : PySem.W.nsIn K mainGlobals "Reply" = some (some (.ref C)))
    (pg : PySem.W.plainGet K C Str.empty = true) (hd : PySem.W.hasDictIn K C = true) (po : PySem.W.plainOver K C = true) (sa : PySem.W.findIn K (.ref C) "__setattr__" = some (some (.builtin "object.__setattr__"))) (mk : PySem.W.makesIn K C = true) (kc : PySem.W.keepIn K (.ref C) = true)
    (n_kind : PySem.W.findIn K (.ref C) "kind" = some none)
    (n_yours : PySem.W.findIn K (.ref C) "yours" = some none)
    (a1 : PySem.W.findIn K (.ref C) "__init__" = some (some (.ref f1))) (i1 : PySem.W.isFn K (.ref f1) = true) (l1 : K.lookup f1 = some ⟨oc1, od1, .func (PySem.W.fnOf "__init__" "Reply.__init__" (defArgs s_initR) (defBody s_initR) (defScope s_initR) .none kV1 dc1 pm1 an1 cd1 ct1), sl1⟩) (c1 : PySem.W.codeIn K cd1 "Reply.__init__" = true) (k1 : PySem.W.keepIn K (.ref f1) = true) : ∃ C, FReply K mg C :=
  ⟨C, ⟨⟨pg, hd, po, sa⟩, n_kind, n_yours,
    ⟨f1, _, ⟨mk, a1, i1, kc⟩, PySem.W.mg_of X G aC, fun_mk l1 c1 k1, (fun_mk (st := s_initR) l1 c1 k1).binds (ps := ["self", "kind", "yours"]) (fun _ _ _ _ _ _ us hl => match us, hl with | [_, _, _], _ => rfl)⟩⟩⟩
structure FConsts (mg : Str → Option Value) : Prop where
  c_ACK : Gc mg "ACK" (.int 5)
  c_ALL_ONES : Gc mg "ALL_ONES" (.int 4294967295)
  c_BROADCAST_FLAG : Gc mg "BROADCAST_FLAG" (.int 128)
  c_CLIENT_PORT : Gc mg "CLIENT_PORT" (.int 68)
  c_DECLINE : Gc mg "DECLINE" (.int 4)
  c_DISCOVER : Gc mg "DISCOVER" (.int 1)
  c_END : Gc mg "END" (.int 255)
  c_EVERYBODY : Gc mg "EVERYBODY" (.int 4294967295)
  c_FREE : Gc mg "FREE" (.int 0)
  c_INFORM : Gc mg "INFORM" (.int 8)
  c_KIND : Gc mg "KIND" (.int 53)
  c_LEAST : Gc mg "LEAST" (.int 244)
  c_LEAST_BYTES : Gc mg "LEAST_BYTES" (.int 300)
  c_LEAST_LONG : Gc mg "LEAST_LONG" (.int 60)
  c_LENT : Gc mg "LENT" (.int 2)
  c_MIDDLE_ZEROS : Gc mg "MIDDLE_ZEROS" (.int 192)
  c_MOST : Gc mg "MOST" (.int 576)
  c_MOST_ADDRESSES : Gc mg "MOST_ADDRESSES" (.int 256)
  c_MOST_BYTES : Gc mg "MOST_BYTES" (.int 1500)
  c_MOST_LONG : Gc mg "MOST_LONG" (.int 31536000)
  c_NAK : Gc mg "NAK" (.int 6)
  c_NOTHING : Gc mg "NOTHING" (.int 0)
  c_NOT_OPEN : Gc mg "NOT_OPEN" (.int (-3))
  c_OFFER : Gc mg "OFFER" (.int 2)
  c_OFFERED : Gc mg "OFFERED" (.int 1)
  c_OFFER_TIME : Gc mg "OFFER_TIME" (.int 60)
  c_OPEN_CALL : Gc mg "OPEN_CALL" (.int 0)
  c_OPTIONS : Gc mg "OPTIONS" (.int 240)
  c_OVERLOAD : Gc mg "OVERLOAD" (.int 52)
  c_OWNER : Gc mg "OWNER" (.int 61)
  c_PACKET_CALL : Gc mg "PACKET_CALL" (.int 1)
  c_REFUSED : Gc mg "REFUSED" (.int 3)
  c_REFUSE_TIME : Gc mg "REFUSE_TIME" (.int 600)
  c_RELAY_PORT : Gc mg "RELAY_PORT" (.int 67)
  c_RELEASE : Gc mg "RELEASE" (.int 7)
  c_REQUEST : Gc mg "REQUEST" (.int 3)
  c_SERVER : Gc mg "SERVER" (.int 54)
  c_TICK_CALL : Gc mg "TICK_CALL" (.int 2)
  c_WANTED : Gc mg "WANTED" (.int 50)
  n_len : mg "len" = none
  n_list : mg "list" = none
  n_max : mg "max" = none
  n_range : mg "range" = none
  n_sum : mg "sum" = none
theorem mk_consts (X : K.In h) (G : h.Ns mainGlobals mg) {t_ACK t_ALL_ONES t_BROADCAST_FLAG t_CLIENT_PORT t_DECLINE t_DISCOVER t_END t_EVERYBODY t_FREE t_INFORM t_KIND t_LEAST t_LEAST_BYTES t_LEAST_LONG t_LENT t_MIDDLE_ZEROS t_MOST t_MOST_ADDRESSES t_MOST_BYTES t_MOST_LONG t_NAK t_NOTHING t_NOT_OPEN t_OFFER t_OFFERED t_OFFER_TIME t_OPEN_CALL t_OPTIONS t_OVERLOAD t_OWNER t_PACKET_CALL t_REFUSED t_REFUSE_TIME t_RELAY_PORT t_RELEASE t_REQUEST t_SERVER t_TICK_CALL t_WANTED : Tok}
    (c_ACK : PySem.W.nsIn K mainGlobals "ACK" = some (some (.int 5 t_ACK)))
    (c_ALL_ONES : PySem.W.nsIn K mainGlobals "ALL_ONES" = some (some (.int 4294967295 t_ALL_ONES)))
    (c_BROADCAST_FLAG : PySem.W.nsIn K mainGlobals "BROADCAST_FLAG" = some (some (.int 128 t_BROADCAST_FLAG)))
    (c_CLIENT_PORT : PySem.W.nsIn K mainGlobals "CLIENT_PORT" = some (some (.int 68 t_CLIENT_PORT)))
    (c_DECLINE : PySem.W.nsIn K mainGlobals "DECLINE" = some (some (.int 4 t_DECLINE)))
    (c_DISCOVER : PySem.W.nsIn K mainGlobals "DISCOVER" = some (some (.int 1 t_DISCOVER)))
    (c_END : PySem.W.nsIn K mainGlobals "END" = some (some (.int 255 t_END)))
    (c_EVERYBODY : PySem.W.nsIn K mainGlobals "EVERYBODY" = some (some (.int 4294967295 t_EVERYBODY)))
    (c_FREE : PySem.W.nsIn K mainGlobals "FREE" = some (some (.int 0 t_FREE)))
    (c_INFORM : PySem.W.nsIn K mainGlobals "INFORM" = some (some (.int 8 t_INFORM)))
    (c_KIND : PySem.W.nsIn K mainGlobals "KIND" = some (some (.int 53 t_KIND)))
    (c_LEAST : PySem.W.nsIn K mainGlobals "LEAST" = some (some (.int 244 t_LEAST)))
    (c_LEAST_BYTES : PySem.W.nsIn K mainGlobals "LEAST_BYTES" = some (some (.int 300 t_LEAST_BYTES)))
    (c_LEAST_LONG : PySem.W.nsIn K mainGlobals "LEAST_LONG" = some (some (.int 60 t_LEAST_LONG)))
    (c_LENT : PySem.W.nsIn K mainGlobals "LENT" = some (some (.int 2 t_LENT)))
    (c_MIDDLE_ZEROS : PySem.W.nsIn K mainGlobals "MIDDLE_ZEROS" = some (some (.int 192 t_MIDDLE_ZEROS)))
    (c_MOST : PySem.W.nsIn K mainGlobals "MOST" = some (some (.int 576 t_MOST)))
    (c_MOST_ADDRESSES : PySem.W.nsIn K mainGlobals "MOST_ADDRESSES" = some (some (.int 256 t_MOST_ADDRESSES)))
    (c_MOST_BYTES : PySem.W.nsIn K mainGlobals "MOST_BYTES" = some (some (.int 1500 t_MOST_BYTES)))
    (c_MOST_LONG : PySem.W.nsIn K mainGlobals "MOST_LONG" = some (some (.int 31536000 t_MOST_LONG)))
    (c_NAK : PySem.W.nsIn K mainGlobals "NAK" = some (some (.int 6 t_NAK)))
    (c_NOTHING : PySem.W.nsIn K mainGlobals "NOTHING" = some (some (.int 0 t_NOTHING)))
    (c_NOT_OPEN : PySem.W.nsIn K mainGlobals "NOT_OPEN" = some (some (.int (-3) t_NOT_OPEN)))
    (c_OFFER : PySem.W.nsIn K mainGlobals "OFFER" = some (some (.int 2 t_OFFER)))
    (c_OFFERED : PySem.W.nsIn K mainGlobals "OFFERED" = some (some (.int 1 t_OFFERED)))
    (c_OFFER_TIME : PySem.W.nsIn K mainGlobals "OFFER_TIME" = some (some (.int 60 t_OFFER_TIME)))
    (c_OPEN_CALL : PySem.W.nsIn K mainGlobals "OPEN_CALL" = some (some (.int 0 t_OPEN_CALL)))
    (c_OPTIONS : PySem.W.nsIn K mainGlobals "OPTIONS" = some (some (.int 240 t_OPTIONS)))
    (c_OVERLOAD : PySem.W.nsIn K mainGlobals "OVERLOAD" = some (some (.int 52 t_OVERLOAD)))
    (c_OWNER : PySem.W.nsIn K mainGlobals "OWNER" = some (some (.int 61 t_OWNER)))
    (c_PACKET_CALL : PySem.W.nsIn K mainGlobals "PACKET_CALL" = some (some (.int 1 t_PACKET_CALL)))
    (c_REFUSED : PySem.W.nsIn K mainGlobals "REFUSED" = some (some (.int 3 t_REFUSED)))
    (c_REFUSE_TIME : PySem.W.nsIn K mainGlobals "REFUSE_TIME" = some (some (.int 600 t_REFUSE_TIME)))
    (c_RELAY_PORT : PySem.W.nsIn K mainGlobals "RELAY_PORT" = some (some (.int 67 t_RELAY_PORT)))
    (c_RELEASE : PySem.W.nsIn K mainGlobals "RELEASE" = some (some (.int 7 t_RELEASE)))
    (c_REQUEST : PySem.W.nsIn K mainGlobals "REQUEST" = some (some (.int 3 t_REQUEST)))
    (c_SERVER : PySem.W.nsIn K mainGlobals "SERVER" = some (some (.int 54 t_SERVER)))
    (c_TICK_CALL : PySem.W.nsIn K mainGlobals "TICK_CALL" = some (some (.int 2 t_TICK_CALL)))
    (c_WANTED : PySem.W.nsIn K mainGlobals "WANTED" = some (some (.int 50 t_WANTED)))
    (n_len : PySem.W.nsIn K mainGlobals "len" = some none)
    (n_list : PySem.W.nsIn K mainGlobals "list" = some none)
    (n_max : PySem.W.nsIn K mainGlobals "max" = some none)
    (n_range : PySem.W.nsIn K mainGlobals "range" = some none)
    (n_sum : PySem.W.nsIn K mainGlobals "sum" = some none) : FConsts mg :=
  ⟨gc_int X G c_ACK, gc_int X G c_ALL_ONES, gc_int X G c_BROADCAST_FLAG, gc_int X G c_CLIENT_PORT, gc_int X G c_DECLINE, gc_int X G c_DISCOVER, gc_int X G c_END, gc_int X G c_EVERYBODY, gc_int X G c_FREE, gc_int X G c_INFORM, gc_int X G c_KIND, gc_int X G c_LEAST, gc_int X G c_LEAST_BYTES, gc_int X G c_LEAST_LONG, gc_int X G c_LENT, gc_int X G c_MIDDLE_ZEROS, gc_int X G c_MOST, gc_int X G c_MOST_ADDRESSES, gc_int X G c_MOST_BYTES, gc_int X G c_MOST_LONG, gc_int X G c_NAK, gc_int X G c_NOTHING, gc_int X G c_NOT_OPEN, gc_int X G c_OFFER, gc_int X G c_OFFERED, gc_int X G c_OFFER_TIME, gc_int X G c_OPEN_CALL, gc_int X G c_OPTIONS, gc_int X G c_OVERLOAD, gc_int X G c_OWNER, gc_int X G c_PACKET_CALL, gc_int X G c_REFUSED, gc_int X G c_REFUSE_TIME, gc_int X G c_RELAY_PORT, gc_int X G c_RELEASE, gc_int X G c_REQUEST, gc_int X G c_SERVER, gc_int X G c_TICK_CALL, gc_int X G c_WANTED, PySem.W.mg_none_of X G n_len, PySem.W.mg_none_of X G n_list, PySem.W.mg_none_of X G n_max, PySem.W.mg_none_of X G n_range, PySem.W.mg_none_of X G n_sum⟩
theorem chain (T : Txt K mg A) (fP : FPlace K mg A.p) (fN : FNet K mg A.n) (fK : FPacket K mg A.k) (fR : FReply K mg A.r) (fD : FDesk K mg A.d)
    (d_longest_over : DefG K mg "longest_over" s_longest_over ["places"])
    (d_chosen : DefG K mg "chosen" s_chosen ["net", "who", "wanted"])
    (d_is_mask : DefG K mg "is_mask" s_is_mask ["mask"])
    (d_is_net : DefG K mg "is_net" s_is_net ["numbers"])
    (d_ask : DefG K mg "ask" s_ask ["good"])
    (d_whole_of : DefG K mg "whole_of" s_whole_of ["row"])
    (d_row_of : DefG K mg "row_of" s_row_of ["number", "many"])
    (d_check_option : DefG K mg "check_option" s_check_option ["options", "number", "given"])
    (d_read_options : DefG K mg "read_options" s_read_options ["row"])
    (d_read_packet : DefG K mg "read_packet" s_read_packet ["row"])
    (d_packet_or_none : DefG K mg "packet_or_none" s_packet_or_none ["row"])
    (d_option : DefG K mg "option" s_option ["number", "given"])
    (d_address_option : DefG K mg "address_option" s_address_option ["number", "address"])
    (d_option_rows : DefG K mg "option_rows" s_option_rows ["net", "packet", "reply"])
    (d_reply_row : DefG K mg "reply_row" s_reply_row ["net", "packet", "reply"])
    (d_target_of : DefG K mg "target_of" s_target_of ["packet", "reply"])
    (d_told : DefG K mg "told" s_told ["net", "packet", "reply"])
    (d_discover : DefG K mg "discover" s_discover ["net", "packet"])
    (d_lent : DefG K mg "lent" s_lent ["net", "place"])
    (d_request_here : DefG K mg "request_here" s_request_here ["net", "packet", "wanted"])
    (d_request_again : DefG K mg "request_again" s_request_again ["net", "packet", "wanted"])
    (d_request_longer : DefG K mg "request_longer" s_request_longer ["net", "packet"])
    (d_request : DefG K mg "request" s_request ["net", "packet"])
    (d_decline : DefG K mg "decline" s_decline ["net", "packet"])
    (d_release : DefG K mg "release" s_release ["net", "packet"])
    (d_reply_to : DefG K mg "reply_to" s_reply_to ["net", "packet"])
    (d_set_time : DefG K mg "set_time" s_set_time ["net", "t"])
    {f : Addr} {fd : FuncData} (F : Fun K "answers" "answers" s_answers f fd) : FnOk P w K mg base CX0 8 f fd ["calls"] (sp_answers K A) := by
  have o_initP : CalC P w K mg base CX0 1 A.p "Place" ["self", "address"] (sp_initP K A) := by
    obtain ⟨f, fd, M, g, F, b⟩ := fP.init
    exact ⟨f, fd, ok_initP F T, M, g, b⟩
  have o_Place_is_own : CalM P w K mg base CX0 1 A.p "is_own" ["self", "who"] (sp_Place_is_own K A) := by
    obtain ⟨f, fd, M, F, b⟩ := fP.m_is_own
    exact ⟨f, fd, ok_Place_is_own F T, M, b⟩
  have o_Place_is_free_at : CalM P w K mg base CX0 1 A.p "is_free_at" ["self", "now"] (sp_Place_is_free_at K A) := by
    obtain ⟨f, fd, M, F, b⟩ := fP.m_is_free_at
    exact ⟨f, fd, ok_Place_is_free_at F T, M, b⟩
  have o_Place_become : CalM P w K mg base CX0 1 A.p "become" ["self", "state", "till"] (sp_Place_become K A) := by
    obtain ⟨f, fd, M, F, b⟩ := fP.m_become
    exact ⟨f, fd, ok_Place_become F T, M, b⟩
  have o_Net_place_of : CalM P w K mg base CX0 1 A.n "place_of" ["self", "address"] (sp_Net_place_of K A) := by
    obtain ⟨f, fd, M, F, b⟩ := fN.m_place_of
    exact ⟨f, fd, ok_Net_place_of F T, M, b⟩
  have o_Net_is_near : CalM P w K mg base CX0 1 A.n "is_near" ["self", "address"] (sp_Net_is_near K A) := by
    obtain ⟨f, fd, M, F, b⟩ := fN.m_is_near
    exact ⟨f, fd, ok_Net_is_near F T, M, b⟩
  have o_longest_over : Cal P w K mg base CX0 1 "longest_over" ["places"] (sp_longest_over K A) := by
    obtain ⟨f, fd, g, F, k, b⟩ := d_longest_over
    exact ⟨f, fd, ok_longest_over F T, g, k, b⟩
  have o_is_mask : Cal P w K mg base CX0 1 "is_mask" ["mask"] (sp_is_mask K A) := by
    obtain ⟨f, fd, g, F, k, b⟩ := d_is_mask
    exact ⟨f, fd, ok_is_mask F T, g, k, b⟩
  have o_ask : Cal P w K mg base (L2.CX P w) 1 "ask" ["good"] (sp_ask K A) := by
    obtain ⟨f, fd, g, F, k, b⟩ := d_ask
    exact ⟨f, fd, ok_ask F T, g, k, b⟩
  have o_whole_of : Cal P w K mg base CX0 1 "whole_of" ["row"] (sp_whole_of K A) := by
    obtain ⟨f, fd, g, F, k, b⟩ := d_whole_of
    exact ⟨f, fd, ok_whole_of F T, g, k, b⟩
  have o_row_of : Cal P w K mg base CX0 1 "row_of" ["number", "many"] (sp_row_of K A) := by
    obtain ⟨f, fd, g, F, k, b⟩ := d_row_of
    exact ⟨f, fd, ok_row_of F T, g, k, b⟩
  have o_Packet_who : CalM P w K mg base CX0 1 A.k "who" ["self"] (sp_Packet_who K A) := by
    obtain ⟨f, fd, M, F, b⟩ := fK.m_who
    exact ⟨f, fd, ok_Packet_who F T, M, b⟩
  have o_initR : CalC P w K mg base CX0 1 A.r "Reply" ["self", "kind", "yours"] (sp_initR K A) := by
    obtain ⟨f, fd, M, g, F, b⟩ := fR.init
    exact ⟨f, fd, ok_initR F T, M, g, b⟩
  have o_option : Cal P w K mg base CX0 1 "option" ["number", "given"] (sp_option K A) := by
    obtain ⟨f, fd, g, F, k, b⟩ := d_option
    exact ⟨f, fd, ok_option F T, g, k, b⟩
  have o_target_of : Cal P w K mg base CX0 1 "target_of" ["packet", "reply"] (sp_target_of K A) := by
    obtain ⟨f, fd, g, F, k, b⟩ := d_target_of
    exact ⟨f, fd, ok_target_of F T, g, k, b⟩
  have o_initD : CalC P w K mg base CX0 1 A.d "Desk" ["self"] (sp_initD K A) := by
    obtain ⟨f, fd, M, g, F, b⟩ := fD.init
    exact ⟨f, fd, ok_initD F T, M, g, b⟩
  have o_set_time : Cal P w K mg base CX0 1 "set_time" ["net", "t"] (sp_set_time K A) := by
    obtain ⟨f, fd, g, F, k, b⟩ := d_set_time
    exact ⟨f, fd, ok_set_time F T, g, k, b⟩
  have o_Net_own_place : CalM P w K mg base CX0 2 A.n "own_place" ["self", "who"] (sp_Net_own_place K A) := by
    obtain ⟨f, fd, M, F, b⟩ := fN.m_own_place
    exact ⟨f, fd, ok_Net_own_place F T o_Place_is_own, M, b⟩
  have o_Net_free_places : CalM P w K mg base CX0 2 A.n "free_places" ["self"] (sp_Net_free_places K A) := by
    obtain ⟨f, fd, M, F, b⟩ := fN.m_free_places
    exact ⟨f, fd, ok_Net_free_places F T o_Place_is_free_at, M, b⟩
  have o_Net_lend : CalM P w K mg base CX0 2 A.n "lend" ["self", "place"] (sp_Net_lend K A) := by
    obtain ⟨f, fd, M, F, b⟩ := fN.m_lend
    exact ⟨f, fd, ok_Net_lend F T o_Place_become, M, b⟩
  have o_Net_unoffer : CalM P w K mg base CX0 2 A.n "unoffer" ["self", "who"] (sp_Net_unoffer K A) := by
    obtain ⟨f, fd, M, F, b⟩ := fN.m_unoffer
    exact ⟨f, fd, ok_Net_unoffer F T o_Place_become, M, b⟩
  have o_is_net : Cal P w K mg base CX0 2 "is_net" ["numbers"] (sp_is_net K A) := by
    obtain ⟨f, fd, g, F, k, b⟩ := d_is_net
    exact ⟨f, fd, ok_is_net F T o_is_mask, g, k, b⟩
  have o_initK : CalC P w K mg base CX0 2 A.k "Packet" ["self", "row", "options"] (sp_initK K A) := by
    obtain ⟨f, fd, M, g, F, b⟩ := fK.init
    exact ⟨f, fd, ok_initK F T o_whole_of, M, g, b⟩
  have o_Packet_address_in : CalM P w K mg base CX0 2 A.k "address_in" ["self", "option"] (sp_Packet_address_in K A) := by
    obtain ⟨f, fd, M, F, b⟩ := fK.m_address_in
    exact ⟨f, fd, ok_Packet_address_in F T o_whole_of, M, b⟩
  have o_check_option : Cal P w K mg base (L2.CX P w) 2 "check_option" ["options", "number", "given"] (sp_check_option K A) := by
    obtain ⟨f, fd, g, F, k, b⟩ := d_check_option
    exact ⟨f, fd, ok_check_option F T o_ask, g, k, b⟩
  have o_address_option : Cal P w K mg base CX0 2 "address_option" ["number", "address"] (sp_address_option K A) := by
    obtain ⟨f, fd, g, F, k, b⟩ := d_address_option
    exact ⟨f, fd, ok_address_option F T o_option o_row_of, g, k, b⟩
  have o_Desk_tick : CalM P w K mg base CX0 2 A.d "tick" ["self", "t"] (sp_Desk_tick K A) := by
    obtain ⟨f, fd, M, F, b⟩ := fD.m_tick
    exact ⟨f, fd, ok_Desk_tick F T o_set_time, M, b⟩
  have o_Desk_look : CalM P w K mg base CX0 2 A.d "look" ["self", "address"] (sp_Desk_look K A) := by
    obtain ⟨f, fd, M, F, b⟩ := fD.m_look
    exact ⟨f, fd, ok_Desk_look F T o_Net_place_of o_Place_is_free_at, M, b⟩
  have o_initN : CalC P w K mg base CX0 3 A.n "Net" ["self", "numbers"] (sp_initN K A) := by
    obtain ⟨f, fd, M, g, F, b⟩ := fN.init
    exact ⟨f, fd, ok_initN F T o_initP, M, g, b⟩
  have o_chosen : Cal P w K mg base CX0 3 "chosen" ["net", "who", "wanted"] (sp_chosen K A) := by
    obtain ⟨f, fd, g, F, k, b⟩ := d_chosen
    exact ⟨f, fd, ok_chosen F T o_Net_own_place o_Net_place_of o_Place_is_free_at o_Net_free_places o_longest_over, g, k, b⟩
  have o_read_options : Cal P w K mg base (L2.CX P w) 3 "read_options" ["row"] (sp_read_options K A) := by
    obtain ⟨f, fd, g, F, k, b⟩ := d_read_options
    exact ⟨f, fd, ok_read_options F T o_ask o_check_option, g, k, b⟩
  have o_option_rows : Cal P w K mg base CX0 3 "option_rows" ["net", "packet", "reply"] (sp_option_rows K A) := by
    obtain ⟨f, fd, g, F, k, b⟩ := d_option_rows
    exact ⟨f, fd, ok_option_rows F T o_option o_address_option, g, k, b⟩
  have o_lent : Cal P w K mg base CX0 3 "lent" ["net", "place"] (sp_lent K A) := by
    obtain ⟨f, fd, g, F, k, b⟩ := d_lent
    exact ⟨f, fd, ok_lent F T o_Net_lend o_initR, g, k, b⟩
  have o_decline : Cal P w K mg base CX0 3 "decline" ["net", "packet"] (sp_decline K A) := by
    obtain ⟨f, fd, g, F, k, b⟩ := d_decline
    exact ⟨f, fd, ok_decline F T o_Net_place_of o_Packet_address_in o_Place_is_own o_Packet_who o_Place_become, g, k, b⟩
  have o_release : Cal P w K mg base CX0 3 "release" ["net", "packet"] (sp_release K A) := by
    obtain ⟨f, fd, g, F, k, b⟩ := d_release
    exact ⟨f, fd, ok_release F T o_Net_place_of o_Packet_address_in o_Place_is_own o_Packet_who o_Place_become, g, k, b⟩
  have o_read_packet : Cal P w K mg base (L2.CX P w) 4 "read_packet" ["row"] (sp_read_packet K A) := by
    obtain ⟨f, fd, g, F, k, b⟩ := d_read_packet
    exact ⟨f, fd, ok_read_packet F T o_ask o_read_options o_initK, g, k, b⟩
  have o_reply_row : Cal P w K mg base CX0 4 "reply_row" ["net", "packet", "reply"] (sp_reply_row K A) := by
    obtain ⟨f, fd, g, F, k, b⟩ := d_reply_row
    exact ⟨f, fd, ok_reply_row F T o_row_of o_option_rows, g, k, b⟩
  have o_discover : Cal P w K mg base CX0 4 "discover" ["net", "packet"] (sp_discover K A) := by
    obtain ⟨f, fd, g, F, k, b⟩ := d_discover
    exact ⟨f, fd, ok_discover F T o_Packet_who o_chosen o_Packet_address_in o_Place_is_free_at o_Place_become o_initR, g, k, b⟩
  have o_request_here : Cal P w K mg base CX0 4 "request_here" ["net", "packet", "wanted"] (sp_request_here K A) := by
    obtain ⟨f, fd, g, F, k, b⟩ := d_request_here
    exact ⟨f, fd, ok_request_here F T o_Net_place_of o_Place_is_own o_Packet_who o_lent o_initR, g, k, b⟩
  have o_request_again : Cal P w K mg base CX0 4 "request_again" ["net", "packet", "wanted"] (sp_request_again K A) := by
    obtain ⟨f, fd, g, F, k, b⟩ := d_request_again
    exact ⟨f, fd, ok_request_again F T o_Net_is_near o_initR o_Net_place_of o_Place_is_own o_Packet_who o_lent o_Net_own_place, g, k, b⟩
  have o_request_longer : Cal P w K mg base CX0 4 "request_longer" ["net", "packet"] (sp_request_longer K A) := by
    obtain ⟨f, fd, g, F, k, b⟩ := d_request_longer
    exact ⟨f, fd, ok_request_longer F T o_Net_place_of o_Place_is_own o_Packet_who o_lent o_initR, g, k, b⟩
  have o_packet_or_none : Cal P w K mg base CX0 5 "packet_or_none" ["row"] (sp_packet_or_none K A) := by
    obtain ⟨f, fd, g, F, k, b⟩ := d_packet_or_none
    exact ⟨f, fd, ok_packet_or_none F T o_read_packet, g, k, b⟩
  have o_told : Cal P w K mg base CX0 5 "told" ["net", "packet", "reply"] (sp_told K A) := by
    obtain ⟨f, fd, g, F, k, b⟩ := d_told
    exact ⟨f, fd, ok_told F T o_reply_row o_target_of, g, k, b⟩
  have o_request : Cal P w K mg base CX0 5 "request" ["net", "packet"] (sp_request K A) := by
    obtain ⟨f, fd, g, F, k, b⟩ := d_request
    exact ⟨f, fd, ok_request F T o_Packet_address_in o_Net_unoffer o_Packet_who o_request_here o_request_again o_request_longer, g, k, b⟩
  have o_Desk_start : CalM P w K mg base CX0 5 A.d "start" ["self", "numbers"] (sp_Desk_start K A) := by
    obtain ⟨f, fd, M, F, b⟩ := fD.m_start
    exact ⟨f, fd, ok_Desk_start F T o_is_net o_initN, M, b⟩
  have o_reply_to : Cal P w K mg base CX0 6 "reply_to" ["net", "packet"] (sp_reply_to K A) := by
    obtain ⟨f, fd, g, F, k, b⟩ := d_reply_to
    exact ⟨f, fd, ok_reply_to F T o_discover o_request o_initR o_decline o_release, g, k, b⟩
  have o_Desk_packet : CalM P w K mg base CX0 7 A.d "packet" ["self", "row"] (sp_Desk_packet K A) := by
    obtain ⟨f, fd, M, F, b⟩ := fD.m_packet
    exact ⟨f, fd, ok_Desk_packet F T o_packet_or_none o_reply_to o_told, M, b⟩
  exact ok_answers F T o_initD o_Desk_start o_Desk_packet o_Desk_tick o_Desk_look
theorem fin (X : K.In h) (G : h.Ns mainGlobals mg) {fa : Addr} (hfa : mg "answers" = some (.ref fa)) {f : Addr} {od an : Option Addr} {sl : Array (Option Value)} {oc kV dc pm cd ct : Value} (a : PySem.W.nsIn K mainGlobals "answers" = some (some (.ref f))) (l : K.lookup f = some ⟨oc, od, .func (PySem.W.fnOf "answers" "answers" (defArgs s_answers) (defBody s_answers) (defScope s_answers) .none kV dc pm an cd ct), sl⟩) (c : PySem.W.codeIn K cd "answers" = true) (k : PySem.W.keepIn K (.ref f) = true)
    (c_consts : FConsts mg) (c_exc : ∃ C, FExc K mg C) (c_lens : ∃ d, Gc mg "LENGTHS" (.ref d) ∧ Lens K d) (c_magic : ∃ m, Gc mg "MAGIC" (.ref m) ∧ ∀ H, LO K H m (nv [99, 130, 83, 99])) (c_beg : ∃ m, Gc mg "BEGINNING" (.ref m) ∧ ∀ H, LO K H m (nv [1, 1, 6]))
    (c_Desk : ∃ C, FDesk K mg C) (c_Net : ∃ C, FNet K mg C) (c_Packet : ∃ C, FPacket K mg C) (c_Place : ∃ C, FPlace K mg C) (c_Reply : ∃ C, FReply K mg C)
    (d_longest_over : DefG K mg "longest_over" s_longest_over ["places"])
    (d_chosen : DefG K mg "chosen" s_chosen ["net", "who", "wanted"])
    (d_is_mask : DefG K mg "is_mask" s_is_mask ["mask"])
    (d_is_net : DefG K mg "is_net" s_is_net ["numbers"])
    (d_ask : DefG K mg "ask" s_ask ["good"])
    (d_whole_of : DefG K mg "whole_of" s_whole_of ["row"])
    (d_row_of : DefG K mg "row_of" s_row_of ["number", "many"])
    (d_check_option : DefG K mg "check_option" s_check_option ["options", "number", "given"])
    (d_read_options : DefG K mg "read_options" s_read_options ["row"])
    (d_read_packet : DefG K mg "read_packet" s_read_packet ["row"])
    (d_packet_or_none : DefG K mg "packet_or_none" s_packet_or_none ["row"])
    (d_option : DefG K mg "option" s_option ["number", "given"])
    (d_address_option : DefG K mg "address_option" s_address_option ["number", "address"])
    (d_option_rows : DefG K mg "option_rows" s_option_rows ["net", "packet", "reply"])
    (d_reply_row : DefG K mg "reply_row" s_reply_row ["net", "packet", "reply"])
    (d_target_of : DefG K mg "target_of" s_target_of ["packet", "reply"])
    (d_told : DefG K mg "told" s_told ["net", "packet", "reply"])
    (d_discover : DefG K mg "discover" s_discover ["net", "packet"])
    (d_lent : DefG K mg "lent" s_lent ["net", "place"])
    (d_request_here : DefG K mg "request_here" s_request_here ["net", "packet", "wanted"])
    (d_request_again : DefG K mg "request_again" s_request_again ["net", "packet", "wanted"])
    (d_request_longer : DefG K mg "request_longer" s_request_longer ["net", "packet"])
    (d_request : DefG K mg "request" s_request ["net", "packet"])
    (d_decline : DefG K mg "decline" s_decline ["net", "packet"])
    (d_release : DefG K mg "release" s_release ["net", "packet"])
    (d_reply_to : DefG K mg "reply_to" s_reply_to ["net", "packet"])
    (d_set_time : DefG K mg "set_time" s_set_time ["net", "t"])
    : ∃ fd : FuncData, (∀ (s : Shared) (us : List Value), us.length = (["calls"] : List Str).length → BindsTo s fd ⟨us, []⟩ ((["calls"] : List Str).zip us)) ∧ ∀ base : Heap, K.In base → base.Ns mainGlobals mg → FnOk P w K mg base CX0 8 fa fd ["calls"] (spTop K) := by
  have e := hfa.symm.trans (PySem.W.mg_of X G a)
  cases e
  obtain ⟨a_Desk, f_Desk⟩ := c_Desk
  obtain ⟨a_Net, f_Net⟩ := c_Net
  obtain ⟨a_Packet, f_Packet⟩ := c_Packet
  obtain ⟨a_Place, f_Place⟩ := c_Place
  obtain ⟨a_Reply, f_Reply⟩ := c_Reply
  obtain ⟨aE, fE⟩ := c_exc
  obtain ⟨aL, gL, hL⟩ := c_lens
  obtain ⟨aM, gM, hM⟩ := c_magic
  obtain ⟨aB, gB, hB⟩ := c_beg
  have T : Txt K mg ⟨a_Place, a_Net, a_Packet, a_Reply, a_Desk, aE, aB, aM, aL⟩ :=
    { c_ACK := c_consts.c_ACK
      c_ALL_ONES := c_consts.c_ALL_ONES
      c_BEGINNING := gB
      c_BROADCAST_FLAG := c_consts.c_BROADCAST_FLAG
      c_CLIENT_PORT := c_consts.c_CLIENT_PORT
      c_DECLINE := c_consts.c_DECLINE
      c_DISCOVER := c_consts.c_DISCOVER
      c_END := c_consts.c_END
      c_EVERYBODY := c_consts.c_EVERYBODY
      c_FREE := c_consts.c_FREE
      c_INFORM := c_consts.c_INFORM
      c_KIND := c_consts.c_KIND
      c_LEAST := c_consts.c_LEAST
      c_LEAST_BYTES := c_consts.c_LEAST_BYTES
      c_LEAST_LONG := c_consts.c_LEAST_LONG
      c_LENGTHS := gL
      c_LENT := c_consts.c_LENT
      c_MAGIC := gM
      c_MIDDLE_ZEROS := c_consts.c_MIDDLE_ZEROS
      c_MOST := c_consts.c_MOST
      c_MOST_ADDRESSES := c_consts.c_MOST_ADDRESSES
      c_MOST_BYTES := c_consts.c_MOST_BYTES
      c_MOST_LONG := c_consts.c_MOST_LONG
      c_NAK := c_consts.c_NAK
      c_NOTHING := c_consts.c_NOTHING
      c_NOT_OPEN := c_consts.c_NOT_OPEN
      c_OFFER := c_consts.c_OFFER
      c_OFFERED := c_consts.c_OFFERED
      c_OFFER_TIME := c_consts.c_OFFER_TIME
      c_OPEN_CALL := c_consts.c_OPEN_CALL
      c_OPTIONS := c_consts.c_OPTIONS
      c_OVERLOAD := c_consts.c_OVERLOAD
      c_OWNER := c_consts.c_OWNER
      c_PACKET_CALL := c_consts.c_PACKET_CALL
      c_REFUSED := c_consts.c_REFUSED
      c_REFUSE_TIME := c_consts.c_REFUSE_TIME
      c_RELAY_PORT := c_consts.c_RELAY_PORT
      c_RELEASE := c_consts.c_RELEASE
      c_REQUEST := c_consts.c_REQUEST
      c_SERVER := c_consts.c_SERVER
      c_TICK_CALL := c_consts.c_TICK_CALL
      c_WANTED := c_consts.c_WANTED
      a_Desk_net := f_Desk.a_net
      a_Net_first := f_Net.a_first
      a_Net_long := f_Net.a_long
      a_Net_mask := f_Net.a_mask
      a_Net_names := f_Net.a_names
      a_Net_now := f_Net.a_now
      a_Net_places := f_Net.a_places
      a_Net_server := f_Net.a_server
      a_Net_way_out := f_Net.a_way_out
      a_Packet_client := f_Packet.a_client
      a_Packet_flags := f_Packet.a_flags
      a_Packet_kind := f_Packet.a_kind
      a_Packet_machine := f_Packet.a_machine
      a_Packet_number := f_Packet.a_number
      a_Packet_options := f_Packet.a_options
      a_Packet_relay := f_Packet.a_relay
      a_Place_address := f_Place.a_address
      a_Place_owner := f_Place.a_owner
      a_Place_state := f_Place.a_state
      a_Place_till := f_Place.a_till
      a_Reply_kind := f_Reply.a_kind
      a_Reply_yours := f_Reply.a_yours
      cl_Desk := f_Desk.cl
      cl_Net := f_Net.cl
      cl_Packet := f_Packet.cl
      cl_Place := f_Place.cl
      cl_Reply := f_Reply.cl
      n_len := c_consts.n_len
      n_list := c_consts.n_list
      n_max := c_consts.n_max
      n_range := c_consts.n_range
      n_sum := c_consts.n_sum
      lens := hL
      l_MAGIC := hM
      l_BEGINNING := hB
      xF := fE.xF
      gF := fE.gF
      kF := fE.kF
      bF := fE.bF
      tF := fE.tF
      eF := fE.eF }
  exact ⟨PySem.W.fnOf "answers" "answers" (defArgs s_answers) (defBody s_answers) (defScope s_answers) .none kV dc pm an cd ct, fun s us hu => match us, hu with | [_], _ => .of_eq rfl, fun base _ _ => chain (A := ⟨a_Place, a_Net, a_Packet, a_Reply, a_Desk, aE, aB, aM, aL⟩) T f_Place f_Net f_Packet f_Reply f_Desk d_longest_over d_chosen d_is_mask d_is_net d_ask d_whole_of d_row_of d_check_option d_read_options d_read_packet d_packet_or_none d_option d_address_option d_option_rows d_reply_row d_target_of d_told d_discover d_lent d_request_here d_request_again d_request_longer d_request d_decline d_release d_reply_to d_set_time (fun_mk (st := s_answers) l c k)⟩
end
end Lp
namespace Lp
open PySem PySem.Spec PyProof.Rows L2
theorem all_back : ∀ {l : List Int}, (∀ x ∈ l, 0 ≤ x) → ci (l.map Int.toNat) = l
  | [], _ => rfl
  | x :: r, h => by
    show ((x.toNat : Nat) : Int) :: ci (r.map Int.toNat) = x :: r
    rw [all_back fun y hy => h y (List.mem_cons_of_mem _ hy), Int.toNat_of_nonneg (h x (List.mem_cons_self ..))]
theorem top_S {K : PySem.W.Frag} {H : Hp} {q : Addr} {l : List Int} {Q : VK} {E : XK} (hs : SqL K H q (l.map V.int)) (hall : ∀ x ∈ l, 0 ≤ x) (hask : PySd22.answers_asked l = true)
    (k : ∀ H' p, H' p = some (.lst ((PySd22.answers l).map V.int)) → Q (.ref p) H') : spTop K [.ref q] H Q E := by
  have e : (l.map Int.toNat).map (fun n : Nat => (n : Int)) = l := all_back hall
  refine ⟨q, l.map Int.toNat, rfl, ?_, ?_, fun H' p hp => k H' p ?_⟩
  · rw [nv_ints, e]
    exact hs
  · rw [e]
    exact hask
  · rw [e] at hp
    exact hp
end Lp
open PySem PySem.W PyProof.Rows
set_option maxRecDepth 100000 in
set_option maxHeartbeats 16000000 in
theorem PySem.Challenge.cw_lentplaces_s01_answers_holds : PySem.Challenge.rw_lentplaces_s01_answers.Holds := by
  w_on; k_headS; (case hw => exact ⟨[.list [.int 0, .int 7, .int 1, .int 0, .int 0, .int 0, .int 2, .int 1, .int 60]], by decide +kernel, by decide +kernel⟩)
  k_fillS
  refine L2.walk_specK (r := PySem.Challenge.rw_lentplaces_s01_answers) (k := 8) (CX := L2.CX0) (ps := ["calls"]) (sp := Lp.spTop) (by decide +kernel) rfl rfl ⟨rfl, by decide, by decide⟩ (fun w h Y => PySem.W.kIn_of Y) ?F ?S (fun _ _ _ _ z => z)
  case F =>
    intro w mg fa h Y KX G hmg
    refine' Lp.fin KX G hmg ?a ?l ?c ?k ?c_consts ?c_exc ?c_lens ?c_magic ?c_beg ?c_Desk ?c_Net ?c_Packet ?c_Place ?c_Reply ?d_longest_over ?d_chosen ?d_is_mask ?d_is_net ?d_ask ?d_whole_of ?d_row_of ?d_check_option ?d_read_options ?d_read_packet ?d_packet_or_none ?d_option ?d_address_option ?d_option_rows ?d_reply_row ?d_target_of ?d_told ?d_discover ?d_lent ?d_request_here ?d_request_again ?d_request_longer ?d_request ?d_decline ?d_release ?d_reply_to ?d_set_time
    (case a => k_is)
    (case l => k_is)
    (case c => k_is)
    (case k => k_is)
    case c_exc =>
      refine' Lp.mk_exc KX G ?aF ?xF ?kF ?bF ?tF ?iF ?sF
      (case aF => k_is)
      (case xF => k_exc)
      (case kF => k_is)
      (case bF => k_is)
      (case tF => k_is)
      (case iF => k_is)
      (case sF => first | rfl | k_is)
    case c_lens =>
      refine' Lp.mk_lens KX G ?aL ?lL ?hd ?p1 ?p2 ?p3 ?p4 ?p5 ?p6 ?p7
      (case aL => k_is)
      (case lL => k_is)
      (case hd => rfl)
      (case p1 => k_is)
      (case p2 => k_is)
      (case p3 => k_is)
      (case p4 => k_is)
      (case p5 => k_is)
      (case p6 => k_is)
      (case p7 => k_is)
    case c_magic =>
      refine' Lp.mk_magic KX G ?aM ?lM
      (case aM => k_is)
      (case lM => k_is)
    case c_beg =>
      refine' Lp.mk_beg KX G ?aB ?lB
      (case aB => k_is)
      (case lB => k_is)
    case d_longest_over =>
      refine' Lp.mk_longest_over KX G ?a ?l ?c ?k
      (case a => k_is)
      (case l => k_is)
      (case c => k_is)
      (case k => k_is)
    case d_chosen =>
      refine' Lp.mk_chosen KX G ?a ?l ?c ?k
      (case a => k_is)
      (case l => k_is)
      (case c => k_is)
      (case k => k_is)
    case d_is_mask =>
      refine' Lp.mk_is_mask KX G ?a ?l ?c ?k
      (case a => k_is)
      (case l => k_is)
      (case c => k_is)
      (case k => k_is)
    case d_is_net =>
      refine' Lp.mk_is_net KX G ?a ?l ?c ?k
      (case a => k_is)
      (case l => k_is)
      (case c => k_is)
      (case k => k_is)
    case d_ask =>
      refine' Lp.mk_ask KX G ?a ?l ?c ?k
      (case a => k_is)
      (case l => k_is)
      (case c => k_is)
      (case k => k_is)
    case d_whole_of =>
      refine' Lp.mk_whole_of KX G ?a ?l ?c ?k
      (case a => k_is)
      (case l => k_is)
      (case c => k_is)
      (case k => k_is)
    case d_row_of =>
      refine' Lp.mk_row_of KX G ?a ?l ?c ?k
      (case a => k_is)
      (case l => k_is)
      (case c => k_is)
      (case k => k_is)
    case d_check_option =>
      refine' Lp.mk_check_option KX G ?a ?l ?c ?k
      (case a => k_is)
      (case l => k_is)
      (case c => k_is)
      (case k => k_is)
    case d_read_options =>
      refine' Lp.mk_read_options KX G ?a ?l ?c ?k
      (case a => k_is)
      (case l => k_is)
      (case c => k_is)
      (case k => k_is)
    case d_read_packet =>
      refine' Lp.mk_read_packet KX G ?a ?l ?c ?k
      (case a => k_is)
      (case l => k_is)
      (case c => k_is)
      (case k => k_is)
    case d_packet_or_none =>
      refine' Lp.mk_packet_or_none KX G ?a ?l ?c ?k
      (case a => k_is)
      (case l => k_is)
      (case c => k_is)
      (case k => k_is)
    case d_option =>
      refine' Lp.mk_option KX G ?a ?l ?c ?k
      (case a => k_is)
      (case l => k_is)
      (case c => k_is)
      (case k => k_is)
    case d_address_option =>
      refine' Lp.mk_address_option KX G ?a ?l ?c ?k
      (case a => k_is)
      (case l => k_is)
      (case c => k_is)
      (case k => k_is)
    case d_option_rows =>
      refine' Lp.mk_option_rows KX G ?a ?l ?c ?k
      (case a => k_is)
      (case l => k_is)
      (case c => k_is)
      (case k => k_is)
    case d_reply_row =>
      refine' Lp.mk_reply_row KX G ?a ?l ?c ?k
      (case a => k_is)
      (case l => k_is)
      (case c => k_is)
      (case k => k_is)
    case d_target_of =>
      refine' Lp.mk_target_of KX G ?a ?l ?c ?k
      (case a => k_is)
      (case l => k_is)
      (case c => k_is)
      (case k => k_is)
    case d_told =>
      refine' Lp.mk_told KX G ?a ?l ?c ?k
      (case a => k_is)
      (case l => k_is)
      (case c => k_is)
      (case k => k_is)
    case d_discover =>
      refine' Lp.mk_discover KX G ?a ?l ?c ?k
      (case a => k_is)
      (case l => k_is)
      (case c => k_is)
      (case k => k_is)
    case d_lent =>
      refine' Lp.mk_lent KX G ?a ?l ?c ?k
      (case a => k_is)
      (case l => k_is)
      (case c => k_is)
      (case k => k_is)
    case d_request_here =>
      refine' Lp.mk_request_here KX G ?a ?l ?c ?k
      (case a => k_is)
      (case l => k_is)
      (case c => k_is)
      (case k => k_is)
    case d_request_again =>
      refine' Lp.mk_request_again KX G ?a ?l ?c ?k
      (case a => k_is)
      (case l => k_is)
      (case c => k_is)
      (case k => k_is)
    case d_request_longer =>
      refine' Lp.mk_request_longer KX G ?a ?l ?c ?k
      (case a => k_is)
      (case l => k_is)
      (case c => k_is)
      (case k => k_is)
    case d_request =>
      refine' Lp.mk_request KX G ?a ?l ?c ?k
      (case a => k_is)
      (case l => k_is)
      (case c => k_is)
      (case k => k_is)
    case d_decline =>
      refine' Lp.mk_decline KX G ?a ?l ?c ?k
      (case a => k_is)
      (case l => k_is)
      (case c => k_is)
      (case k => k_is)
    case d_release =>
      refine' Lp.mk_release KX G ?a ?l ?c ?k
      (case a => k_is)
      (case l => k_is)
      (case c => k_is)
      (case k => k_is)
    case d_reply_to =>
      refine' Lp.mk_reply_to KX G ?a ?l ?c ?k
      (case a => k_is)
      (case l => k_is)
      (case c => k_is)
      (case k => k_is)
    case d_set_time =>
      refine' Lp.mk_set_time KX G ?a ?l ?c ?k
      (case a => k_is)
      (case l => k_is)
      (case c => k_is)
      (case k => k_is)
    case c_Desk =>
      refine' Lp.mk_Desk KX G ?aC ?pg ?hd ?po ?sa ?mk ?kc ?n_net ?a1 ?i1 ?l1 ?c1 ?k1 ?a2 ?i2 ?l2 ?c2 ?k2 ?a3 ?i3 ?l3 ?c3 ?k3 ?a4 ?i4 ?l4 ?c4 ?k4 ?a5 ?i5 ?l5 ?c5 ?k5
      (case aC => k_is)
      (case pg => k_is)
      (case hd => k_is)
      (case po => k_is)
      (case sa => k_is)
      (case mk => k_is)
      (case kc => k_is)
      (case n_net => k_is)
      (case a1 => k_is)
      (case i1 => k_is)
      (case l1 => k_is)
      (case c1 => k_is)
      (case k1 => k_is)
      (case a2 => k_is)
      (case i2 => k_is)
      (case l2 => k_is)
      (case c2 => k_is)
      (case k2 => k_is)
      (case a3 => k_is)
      (case i3 => k_is)
      (case l3 => k_is)
      (case c3 => k_is)
      (case k3 => k_is)
      (case a4 => k_is)
      (case i4 => k_is)
      (case l4 => k_is)
      (case c4 => k_is)
      (case k4 => k_is)
      (case a5 => k_is)
      (case i5 => k_is)
      (case l5 => k_is)
      (case c5 => k_is)
      (case k5 => k_is)
    case c_Net =>
      refine' Lp.mk_Net KX G ?aC ?pg ?hd ?po ?sa ?mk ?kc ?n_first ?n_long ?n_mask ?n_names ?n_now ?n_places ?n_server ?n_way_out ?a1 ?i1 ?l1 ?c1 ?k1 ?a2 ?i2 ?l2 ?c2 ?k2 ?a3 ?i3 ?l3 ?c3 ?k3 ?a4 ?i4 ?l4 ?c4 ?k4 ?a5 ?i5 ?l5 ?c5 ?k5 ?a6 ?i6 ?l6 ?c6 ?k6 ?a7 ?i7 ?l7 ?c7 ?k7
      (case aC => k_is)
      (case pg => k_is)
      (case hd => k_is)
      (case po => k_is)
      (case sa => k_is)
      (case mk => k_is)
      (case kc => k_is)
      (case n_first => k_is)
      (case n_long => k_is)
      (case n_mask => k_is)
      (case n_names => k_is)
      (case n_now => k_is)
      (case n_places => k_is)
      (case n_server => k_is)
      (case n_way_out => k_is)
      (case a1 => k_is)
      (case i1 => k_is)
      (case l1 => k_is)
      (case c1 => k_is)
      (case k1 => k_is)
      (case a2 => k_is)
      (case i2 => k_is)
      (case l2 => k_is)
      (case c2 => k_is)
      (case k2 => k_is)
      (case a3 => k_is)
      (case i3 => k_is)
      (case l3 => k_is)
      (case c3 => k_is)
      (case k3 => k_is)
      (case a4 => k_is)
      (case i4 => k_is)
      (case l4 => k_is)
      (case c4 => k_is)
      (case k4 => k_is)
      (case a5 => k_is)
      (case i5 => k_is)
      (case l5 => k_is)
      (case c5 => k_is)
      (case k5 => k_is)
      (case a6 => k_is)
      (case i6 => k_is)
      (case l6 => k_is)
      (case c6 => k_is)
      (case k6 => k_is)
      (case a7 => k_is)
      (case i7 => k_is)
      (case l7 => k_is)
      (case c7 => k_is)
      (case k7 => k_is)
    case c_Packet =>
      refine' Lp.mk_Packet KX G ?aC ?pg ?hd ?po ?sa ?mk ?kc ?n_client ?n_flags ?n_kind ?n_machine ?n_number ?n_options ?n_relay ?a1 ?i1 ?l1 ?c1 ?k1 ?a2 ?i2 ?l2 ?c2 ?k2 ?a3 ?i3 ?l3 ?c3 ?k3
      (case aC => k_is)
      (case pg => k_is)
      (case hd => k_is)
      (case po => k_is)
      (case sa => k_is)
      (case mk => k_is)
      (case kc => k_is)
      (case n_client => k_is)
      (case n_flags => k_is)
      (case n_kind => k_is)
      (case n_machine => k_is)
      (case n_number => k_is)
      (case n_options => k_is)
      (case n_relay => k_is)
      (case a1 => k_is)
      (case i1 => k_is)
      (case l1 => k_is)
      (case c1 => k_is)
      (case k1 => k_is)
      (case a2 => k_is)
      (case i2 => k_is)
      (case l2 => k_is)
      (case c2 => k_is)
      (case k2 => k_is)
      (case a3 => k_is)
      (case i3 => k_is)
      (case l3 => k_is)
      (case c3 => k_is)
      (case k3 => k_is)
    case c_Place =>
      refine' Lp.mk_Place KX G ?aC ?pg ?hd ?po ?sa ?mk ?kc ?n_address ?n_owner ?n_state ?n_till ?a1 ?i1 ?l1 ?c1 ?k1 ?a2 ?i2 ?l2 ?c2 ?k2 ?a3 ?i3 ?l3 ?c3 ?k3 ?a4 ?i4 ?l4 ?c4 ?k4
      (case aC => k_is)
      (case pg => k_is)
      (case hd => k_is)
      (case po => k_is)
      (case sa => k_is)
      (case mk => k_is)
      (case kc => k_is)
      (case n_address => k_is)
      (case n_owner => k_is)
      (case n_state => k_is)
      (case n_till => k_is)
      (case a1 => k_is)
      (case i1 => k_is)
      (case l1 => k_is)
      (case c1 => k_is)
      (case k1 => k_is)
      (case a2 => k_is)
      (case i2 => k_is)
      (case l2 => k_is)
      (case c2 => k_is)
      (case k2 => k_is)
      (case a3 => k_is)
      (case i3 => k_is)
      (case l3 => k_is)
      (case c3 => k_is)
      (case k3 => k_is)
      (case a4 => k_is)
      (case i4 => k_is)
      (case l4 => k_is)
      (case c4 => k_is)
      (case k4 => k_is)
    case c_Reply =>
      refine' Lp.mk_Reply KX G ?aC ?pg ?hd ?po ?sa ?mk ?kc ?n_kind ?n_yours ?a1 ?i1 ?l1 ?c1 ?k1
      (case aC => k_is)
      (case pg => k_is)
      (case hd => k_is)
      (case po => k_is)
      (case sa => k_is)
      (case mk => k_is)
      (case kc => k_is)
      (case n_kind => k_is)
      (case n_yours => k_is)
      (case a1 => k_is)
      (case i1 => k_is)
      (case l1 => k_is)
      (case c1 => k_is)
      (case k1 => k_is)
    case c_consts =>
      refine' Lp.mk_consts KX G ?c_ACK ?c_ALL_ONES ?c_BROADCAST_FLAG ?c_CLIENT_PORT ?c_DECLINE ?c_DISCOVER ?c_END ?c_EVERYBODY ?c_FREE ?c_INFORM ?c_KIND ?c_LEAST ?c_LEAST_BYTES ?c_LEAST_LONG ?c_LENT ?c_MIDDLE_ZEROS ?c_MOST ?c_MOST_ADDRESSES ?c_MOST_BYTES ?c_MOST_LONG ?c_NAK ?c_NOTHING ?c_NOT_OPEN ?c_OFFER ?c_OFFERED ?c_OFFER_TIME ?c_OPEN_CALL ?c_OPTIONS ?c_OVERLOAD ?c_OWNER ?c_PACKET_CALL ?c_REFUSED ?c_REFUSE_TIME ?c_RELAY_PORT ?c_RELEASE ?c_REQUEST ?c_SERVER ?c_TICK_CALL ?c_WANTED ?n_len ?n_list ?n_max ?n_range ?n_sum
      (case c_ACK => k_is)
      (case c_ALL_ONES => k_is)
      (case c_BROADCAST_FLAG => k_is)
      (case c_CLIENT_PORT => k_is)
      (case c_DECLINE => k_is)
      (case c_DISCOVER => k_is)
      (case c_END => k_is)
      (case c_EVERYBODY => k_is)
      (case c_FREE => k_is)
      (case c_INFORM => k_is)
      (case c_KIND => k_is)
      (case c_LEAST => k_is)
      (case c_LEAST_BYTES => k_is)
      (case c_LEAST_LONG => k_is)
      (case c_LENT => k_is)
      (case c_MIDDLE_ZEROS => k_is)
      (case c_MOST => k_is)
      (case c_MOST_ADDRESSES => k_is)
      (case c_MOST_BYTES => k_is)
      (case c_MOST_LONG => k_is)
      (case c_NAK => k_is)
      (case c_NOTHING => k_is)
      (case c_NOT_OPEN => k_is)
      (case c_OFFER => k_is)
      (case c_OFFERED => k_is)
      (case c_OFFER_TIME => k_is)
      (case c_OPEN_CALL => k_is)
      (case c_OPTIONS => k_is)
      (case c_OVERLOAD => k_is)
      (case c_OWNER => k_is)
      (case c_PACKET_CALL => k_is)
      (case c_REFUSED => k_is)
      (case c_REFUSE_TIME => k_is)
      (case c_RELAY_PORT => k_is)
      (case c_RELEASE => k_is)
      (case c_REQUEST => k_is)
      (case c_SERVER => k_is)
      (case c_TICK_CALL => k_is)
      (case c_WANTED => k_is)
      (case n_len => k_is)
      (case n_list => k_is)
      (case n_max => k_is)
      (case n_range => k_is)
      (case n_sum => k_is)
  case S =>
    intro K H xs a hO hwi hask hx
    cases hx with
    | cons h1 h2 =>
      cases h2
      cases h1 with
      | lst hs ha =>
        have e := L2.ints_dw a.1 _ ha
        subst e
        have q : ((Codec.inLen 0 30000 a.1 && a.1.all (Codec.inInt 0 4294967295)) && true) = true := hwi
        rw [Bool.and_eq_true, Bool.and_eq_true] at q
        refine Lp.top_S hs (fun x hx => ?_) hask fun H' p hp => .lst (L2.SqL.of hp) (L2.dw_ints _)
        have g := List.all_eq_true.mp q.1.2 x hx
        unfold Codec.inInt at g
        rw [Bool.and_eq_true, decide_eq_true_iff] at g
        exact g.1
