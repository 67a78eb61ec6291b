import PyProof.Rows.All
import Wide.All
import OpenK.AllK
import Wide.FinOn
import KE.DataMinMax
import KE.LtData
import PyProof.Rows.SortShellAny
import PyProof.Rows.StrMul
import PyProof.Rows.SeqMore
import HandS.ForMost
import PyProof.ListNew
import PyProof.CollectStr
import PyProof.JoinWalk
import KE.KRevIter
import HandS.RevTup
import HandS.MapObj
import PyProof.Rows.StrMeet
import HandS.Replace
import KE.GoesZip
import KE.GoesMore
import KE.GoesEnum
import HandS.Walk
import KE.KStateDown
import Lean
import HandS.Exc
import HandS.ExcOwn
import HandS.TryOnly
import HandS.WordsExc
import HandS.Defaults
import HandS.IsInst
import HandS.Head0
import HandS.Head1
import HandS.Head2
import HandS.HeadEnd
import HandS.HeadHook1
import HandS.HeadHook2
import HandS.More
import PySem.Challenge.RW_onceround_k50_whole_rounds_joined
namespace RJ
/-! iterates of a map of the numbers below n -/
def it (f : Nat → Nat) : Nat → Nat → Nat
  | 0, x => x
  | k + 1, x => it f k (f x)
theorem it_zero (f : Nat → Nat) (x : Nat) : it f 0 x = x := rfl
theorem it_one (f : Nat → Nat) (x : Nat) : it f 1 x = f x := rfl
theorem it_add (f : Nat → Nat) : ∀ (a b x : Nat), it f (a + b) x = it f a (it f b x)
  | a, 0, x => rfl
  | a, b + 1, x => it_add f a b (f x)
theorem it_succ (f : Nat → Nat) (k x : Nat) : it f (k + 1) x = f (it f k x) := by
  rw [Nat.add_comm k 1, it_add]
  rfl
structure Bij (n : Nat) (f : Nat → Nat) : Prop where
  lt : ∀ i, i < n → f i < n
  inj : ∀ i j, i < n → j < n → f i = f j → i = j
section
variable {n : Nat} {f : Nat → Nat}
theorem Bij.it_lt (B : Bij n f) : ∀ (k x : Nat), x < n → it f k x < n
  | 0, _, h => h
  | k + 1, x, h => B.it_lt k (f x) (B.lt x h)
theorem Bij.it_inj (B : Bij n f) : ∀ (k x y : Nat), x < n → y < n → it f k x = it f k y → x = y
  | 0, _, _, _, _, e => e
  | k + 1, x, y, hx, hy, e => B.inj x y hx hy (B.it_inj k (f x) (f y) (B.lt x hx) (B.lt y hy) e)
/-- a list of unlike numbers below n is no longer than n -/
theorem nodup_le : ∀ (n : Nat) (l : List Nat), l.Nodup → (∀ x ∈ l, x < n) → l.length ≤ n
  | 0, l, _, h => by
    cases l with
    | nil => exact Nat.le_refl _
    | cons x r => exact absurd (h x List.mem_cons_self) (Nat.not_lt_zero _)
  | n + 1, l, hd, h => by
    have h1 : (l.erase n).length ≤ n := by
      refine nodup_le n (l.erase n) (hd.erase n) fun x hx => ?_
      have h2 := (List.Nodup.mem_erase_iff hd).mp hx
      have h3 := h x h2.2
      have h4 := h2.1
      omega
    have h5 := List.length_erase_add_one' (l := l) (a := n)
    omega
where
  List.length_erase_add_one' {l : List Nat} {a : Nat} : l.length ≤ (l.erase a).length + 1 := by
    rw [List.length_erase]
    split <;> omega
theorem Bij.turns (B : Bij n f) {x : Nat} (hx : x < n) : ∃ k, k < n ∧ it f (k + 1) x = x := by
  refine Classical.byContradiction fun no => ?_
  have no' : ∀ k, k < n → it f (k + 1) x ≠ x := fun k hk e => no ⟨k, hk, e⟩
  have hd : ((List.range (n + 1)).map fun k => it f k x).Nodup := by
    unfold List.Nodup
    rw [List.pairwise_map]
    refine List.pairwise_lt_range.imp_of_mem fun {a b} ha hb hab e => ?_
    have hb' := List.mem_range.mp hb
    have e1 : b = a + (b - a) := by omega
    rw [e1, it_add] at e
    have e2 := B.it_inj a x _ hx (B.it_lt _ _ hx) e
    have e3 : b - a = (b - a - 1) + 1 := by omega
    rw [e3] at e2
    exact no' (b - a - 1) (by omega) e2.symm
  have := nodup_le n _ hd (by
    intro y hy
    obtain ⟨k, _, rfl⟩ := List.mem_map.mp hy
    exact B.it_lt _ _ hx)
  rw [List.length_map, List.length_range] at this
  omega
/-- the period of x -/
def per (f : Nat → Nat) (n x : Nat) : Nat := ((List.range n).find? fun k => it f (k + 1) x == x).getD 0 + 1
theorem Bij.per_spec (B : Bij n f) {x : Nat} (hx : x < n) : per f n x ≤ n ∧ it f (per f n x) x = x ∧ ∀ k, 0 < k → k < per f n x → it f k x ≠ x := by
  obtain ⟨k, hk, e⟩ := B.turns hx
  unfold per
  cases q : (List.range n).find? fun k => it f (k + 1) x == x with
  | none =>
    rw [List.find?_eq_none] at q
    have := q k (List.mem_range.mpr hk)
    rw [e] at this
    simp at this
  | some j =>
    have h1 := List.find?_some q
    have h2 := List.mem_of_find?_eq_some q
    show j + 1 ≤ n ∧ it f (j + 1) x = x ∧ _
    refine ⟨List.mem_range.mp h2, by simpa using h1, fun m hm hj e2 => ?_⟩
    obtain ⟨as, bs, e3, h4⟩ := (List.find?_eq_some_iff_append.mp q).2
    have h5 : as.length = j := by
      have h6 : (List.range n)[as.length]? = some j := by
        rw [e3, List.getElem?_append_right (Nat.le_refl _), Nat.sub_self]
        rfl
      obtain ⟨h7, h8⟩ := List.getElem?_eq_some_iff.mp h6
      rw [List.getElem_range] at h8
      exact h8
    have hj' : m < j + 1 := hj
    have h9 : as[m - 1]? = some (m - 1) := by
      have h10 : (List.range n)[m - 1]? = as[m - 1]? := by
        rw [e3, List.getElem?_append_left (by omega)]
      rw [← h10]
      have h11 := List.mem_range.mp h2
      exact List.getElem?_range (by omega)
    have h12 := h4 (m - 1) (List.mem_of_getElem? h9)
    rw [show m - 1 + 1 = m by omega, e2] at h12
    simp at h12
theorem per_pos (f : Nat → Nat) (n x : Nat) : 0 < per f n x := Nat.succ_pos _
theorem Bij.per_le (B : Bij n f) {x : Nat} (hx : x < n) : per f n x ≤ n := (B.per_spec hx).1
theorem Bij.per_it (B : Bij n f) {x : Nat} (hx : x < n) : it f (per f n x) x = x := (B.per_spec hx).2.1
theorem Bij.per_min (B : Bij n f) {x k : Nat} (hx : x < n) (h0 : 0 < k) (h1 : k < per f n x) : it f k x ≠ x := (B.per_spec hx).2.2 k h0 h1
theorem Bij.it_per (B : Bij n f) {x : Nat} (hx : x < n) : ∀ k, it f (k + per f n x) x = it f k x := fun k => by rw [it_add, B.per_it hx]
theorem Bij.it_mul (B : Bij n f) {x : Nat} (hx : x < n) : ∀ q r, it f (r + per f n x * q) x = it f r x
  | 0, r => by rw [Nat.mul_zero, Nat.add_zero]
  | q + 1, r => by rw [Nat.mul_succ, ← Nat.add_assoc, B.it_per hx, B.it_mul hx q r]
theorem Bij.it_mod (B : Bij n f) {x : Nat} (hx : x < n) (k : Nat) : it f k x = it f (k % per f n x) x := by
  have e := Nat.mod_add_div k (per f n x)
  rw [← B.it_mul hx (k / per f n x) (k % per f n x), e]
/-- the round of x -/
def orb (f : Nat → Nat) (n x : Nat) : List Nat := (List.range (per f n x)).map fun k => it f k x
def same (f : Nat → Nat) (x y : Nat) : Prop := ∃ k, it f k x = y
theorem same.refl (f : Nat → Nat) (x : Nat) : same f x x := ⟨0, rfl⟩
theorem same.trans {f : Nat → Nat} {x y z : Nat} (a : same f x y) (b : same f y z) : same f x z := by
  obtain ⟨i, rfl⟩ := a
  obtain ⟨j, rfl⟩ := b
  exact ⟨j + i, it_add f j i x⟩
theorem Bij.symm (B : Bij n f) {x y : Nat} (hx : x < n) (a : same f x y) : same f y x := by
  obtain ⟨i, rfl⟩ := a
  rw [B.it_mod hx i]
  refine ⟨per f n x - i % per f n x, ?_⟩
  have h := Nat.mod_lt i (per_pos f n x)
  rw [← it_add, show per f n x - i % per f n x + i % per f n x = per f n x by omega, B.per_it hx]
theorem Bij.mem_orb (B : Bij n f) {x y : Nat} (hx : x < n) : y ∈ orb f n x ↔ same f x y := by
  constructor
  · intro h
    obtain ⟨k, _, e⟩ := List.mem_map.mp h
    exact ⟨k, e⟩
  · rintro ⟨k, rfl⟩
    rw [B.it_mod hx]
    exact List.mem_map.mpr ⟨_, List.mem_range.mpr (Nat.mod_lt _ (per_pos f n x)), rfl⟩
theorem orb_len (f : Nat → Nat) (n x : Nat) : (orb f n x).length = per f n x := by
  unfold orb
  rw [List.length_map, List.length_range]
theorem Bij.it_eq (B : Bij n f) {x i j : Nat} (hx : x < n) (hi : i < per f n x) (hj : j < per f n x) (e : it f i x = it f j x) : i = j := by
  have key : ∀ a b, a < b → b < per f n x → it f a x = it f b x → False := fun a b hab hb e => by
    rw [show b = a + (b - a) by omega, it_add] at e
    have e2 := B.it_inj a x _ hx (B.it_lt _ _ hx) e
    exact B.per_min hx (k := b - a) (by omega) (by omega) e2.symm
  rcases Nat.lt_trichotomy i j with h | h | h
  · exact (key i j h hj e).elim
  · exact h
  · exact (key j i h hi e.symm).elim
theorem Bij.orb_nodup (B : Bij n f) {x : Nat} (hx : x < n) : (orb f n x).Nodup := by
  unfold orb List.Nodup
  rw [List.pairwise_map]
  refine List.pairwise_lt_range.imp_of_mem fun {a b} ha hb hab e => ?_
  have := B.it_eq hx (List.mem_range.mp ha) (List.mem_range.mp hb) e
  omega
theorem Bij.orb_lt (B : Bij n f) {x : Nat} (hx : x < n) : ∀ y ∈ orb f n x, y < n := fun y h => by
  obtain ⟨k, _, rfl⟩ := List.mem_map.mp h
  exact B.it_lt _ _ hx
/-- whether two stand in one round -/
def sameB (f : Nat → Nat) (n x y : Nat) : Bool := decide (y ∈ orb f n x)
theorem Bij.sameB_iff (B : Bij n f) {x y : Nat} (hx : x < n) : sameB f n x y = true ↔ same f x y := by
  unfold sameB
  rw [decide_eq_true_iff, B.mem_orb hx]
theorem Bij.sameB_false (B : Bij n f) {x y : Nat} (hx : x < n) : sameB f n x y = false ↔ ¬ same f x y := by
  rw [← B.sameB_iff hx]
  cases sameB f n x y <;> simp
/-- the least of its round -/
def leadB (f : Nat → Nat) (n w : Nat) : Bool := (List.range w).all fun v => !sameB f n v w
theorem Bij.leadB_iff (B : Bij n f) {w : Nat} (hw : w < n) : leadB f n w = true ↔ ∀ v, v < w → ¬ same f v w := by
  unfold leadB
  rw [List.all_eq_true]
  constructor
  · intro h v hv hs
    have := h v (List.mem_range.mpr hv)
    rw [(B.sameB_iff (Nat.lt_trans hv hw)).mpr hs] at this
    cases this
  · intro h v hv
    have hv' := List.mem_range.mp hv
    rw [(B.sameB_false (Nat.lt_trans hv' hw)).mpr (h v hv')]
    rfl
theorem Bij.leader (B : Bij n f) : ∀ x, x < n → ∃ r, r ≤ x ∧ same f r x ∧ leadB f n r = true := by
  intro x
  induction x using Nat.strongRecOn with
  | ind x ih =>
    intro hx
    by_cases h : leadB f n x = true
    · exact ⟨x, Nat.le_refl _, same.refl f x, h⟩
    · have h' := mt (B.leadB_iff hx).mpr h
      obtain ⟨v, h1⟩ := Classical.not_forall.mp h'
      obtain ⟨hv, h2⟩ := Classical.not_imp.mp h1
      have hs := Classical.not_not.mp h2
      obtain ⟨r, hr, hrs, hl⟩ := ih v hv (Nat.lt_trans hv hx)
      exact ⟨r, by omega, hrs.trans hs, hl⟩
def lead (f : Nat → Nat) (n : Nat) : List Nat := (List.range n).filter (leadB f n)
def cnt (f : Nat → Nat) (n : Nat) : Nat := (lead f n).length
/-! ### the exchange -/
def exch (f : Nat → Nat) (a b : Nat) : Nat → Nat := fun x => if x = a then f b else if x = b then f a else f x
theorem exch_a (f : Nat → Nat) (a b : Nat) : exch f a b a = f b := if_pos rfl
theorem exch_b {f : Nat → Nat} {a b : Nat} (h : a ≠ b) : exch f a b b = f a := by
  unfold exch
  rw [if_neg (Ne.symm h), if_pos rfl]
theorem exch_o {f : Nat → Nat} {a b x : Nat} (h : x ≠ a) (h' : x ≠ b) : exch f a b x = f x := by
  unfold exch
  rw [if_neg h, if_neg h']
theorem Bij.exch (B : Bij n f) {a b : Nat} (ha : a < n) (hb : b < n) : Bij n (RJ.exch f a b) := by
  refine ⟨fun i hi => ?_, fun i j hi hj e => ?_⟩
  · unfold RJ.exch
    split
    · exact B.lt _ hb
    · split
      · exact B.lt _ ha
      · exact B.lt _ hi
  · unfold RJ.exch at e
    by_cases h1 : i = a
    · rw [if_pos h1] at e
      by_cases h3 : j = a
      · rw [h1, h3]
      · rw [if_neg h3] at e
        by_cases h4 : j = b
        · rw [if_pos h4] at e
          rw [h1, h4]
          exact (B.inj _ _ hb ha e).symm
        · rw [if_neg h4] at e
          exact absurd (B.inj _ _ hb hj e).symm h4
    · rw [if_neg h1] at e
      by_cases h2 : i = b
      · rw [if_pos h2] at e
        by_cases h3 : j = a
        · rw [if_pos h3] at e
          rw [h2, h3]
          exact (B.inj _ _ ha hb e).symm
        · rw [if_neg h3] at e
          by_cases h4 : j = b
          · rw [h2, h4]
          · rw [if_neg h4] at e
            exact absurd (B.inj _ _ ha hj e).symm h3
      · rw [if_neg h2] at e
        by_cases h3 : j = a
        · rw [if_pos h3] at e
          exact absurd (B.inj _ _ hi hb e) h2
        · rw [if_neg h3] at e
          by_cases h4 : j = b
          · rw [if_pos h4] at e
            exact absurd (B.inj _ _ hi ha e) h1
          · rw [if_neg h4] at e
            exact B.inj _ _ hi hj e
/-- behind an exchange of two that stand in two rounds -/
theorem Bij.exch_run (B : Bij n f) {a b : Nat} (ha : a < n) (hb : b < n) (ns : ¬ same f a b) : ∀ k, k < per f n a → it (RJ.exch f a b) k (f a) = it f k (f a)
  | 0, _ => rfl
  | k + 1, h => by
    rw [it_succ, it_succ, B.exch_run ha hb ns k (by omega)]
    have e : it f k (f a) = it f (k + 1) a := rfl
    refine exch_o (fun z => ?_) (fun z => ns ⟨k + 1, z⟩)
    exact B.per_min ha (by omega) h (e ▸ z)
theorem exch_comm {f : Nat → Nat} {a b : Nat} (h : a ≠ b) : exch f a b = exch f b a := by
  funext x
  unfold exch
  by_cases h1 : x = a
  · subst h1
    rw [if_pos rfl, if_neg h, if_pos rfl]
  · rw [if_neg h1]
    by_cases h2 : x = b
    · rw [if_pos h2, if_pos h2]
    · rw [if_neg h2, if_neg h2, if_neg h1]
theorem not_same_ne {f : Nat → Nat} {a b : Nat} (ns : ¬ same f a b) : a ≠ b := fun e => ns (e ▸ same.refl f a)
theorem Bij.not_symm (B : Bij n f) {a b : Nat} (hb : b < n) (ns : ¬ same f a b) : ¬ same f b a := fun h => ns (B.symm hb h)
/-- all of a's round comes behind b -/
theorem Bij.exch_reach (B : Bij n f) {a b : Nat} (ha : a < n) (hb : b < n) (ns : ¬ same f a b) {x : Nat} (h : same f a x) : same (RJ.exch f a b) b x := by
  obtain ⟨k, rfl⟩ := h
  have e : it f k a = it f ((k + per f n a - 1) % per f n a) (f a) := by
    have h0 := per_pos f n a
    have e1 : it f ((k + per f n a - 1) % per f n a) (f a) = it f ((k + per f n a - 1) % per f n a + 1) a := rfl
    rw [e1, B.it_mod ha ((k + per f n a - 1) % per f n a + 1), B.it_mod ha k, Nat.mod_add_mod, show k + per f n a - 1 + 1 = k + per f n a by omega, Nat.add_mod_right]
  rw [e, ← B.exch_run ha hb ns _ (Nat.mod_lt _ (per_pos f n a)), ← exch_b (f := f) (not_same_ne ns)]
  exact ⟨_ + 1, rfl⟩
theorem Bij.exch_keep (B : Bij n f) {a b : Nat} {x : Nat} (h1 : ¬ same f x a) (h2 : ¬ same f x b) : ∀ k, it (RJ.exch f a b) k x = it f k x
  | 0 => rfl
  | k + 1 => by
    rw [it_succ, it_succ, B.exch_keep h1 h2 k]
    exact exch_o (fun z => h1 ⟨k, z⟩) (fun z => h2 ⟨k, z⟩)
def Mrg (f : Nat → Nat) (a b x y : Nat) : Prop := same f x y ∨ (same f x a ∧ same f b y) ∨ (same f x b ∧ same f a y)
theorem Mrg.trans {f : Nat → Nat} {a b x y z : Nat} (h : Mrg f a b x y) (h' : Mrg f a b y z) : Mrg f a b x z := by
  rcases h with h | ⟨h1, h2⟩ | ⟨h1, h2⟩ <;> rcases h' with h' | ⟨h3, h4⟩ | ⟨h3, h4⟩
  · exact .inl (h.trans h')
  · exact .inr (.inl ⟨h.trans h3, h4⟩)
  · exact .inr (.inr ⟨h.trans h3, h4⟩)
  · exact .inr (.inl ⟨h1, h2.trans h'⟩)
  · exact .inr (.inl ⟨h1, h4⟩)
  · exact .inl (h1.trans h4)
  · exact .inr (.inr ⟨h1, h2.trans h'⟩)
  · exact .inl (h1.trans h4)
  · exact .inr (.inr ⟨h1, h4⟩)
theorem mrg_step (f : Nat → Nat) {a b : Nat} (h : a ≠ b) (x : Nat) : Mrg f a b x (exch f a b x) := by
  by_cases h1 : x = a
  · subst h1
    rw [exch_a]
    exact .inr (.inl ⟨same.refl _ _, 1, rfl⟩)
  · by_cases h2 : x = b
    · subst h2
      rw [exch_b h]
      exact .inr (.inr ⟨same.refl _ _, 1, rfl⟩)
    · rw [exch_o h1 h2]
      exact .inl ⟨1, rfl⟩
theorem mrg_it (f : Nat → Nat) {a b : Nat} (h : a ≠ b) (x : Nat) : ∀ k, Mrg f a b x (it (exch f a b) k x)
  | 0 => .inl (same.refl _ _)
  | k + 1 => by
    rw [it_succ]
    exact (mrg_it f h x k).trans (mrg_step f h _)
theorem Bij.exch_same (B : Bij n f) {a b : Nat} (ha : a < n) (hb : b < n) (ns : ¬ same f a b) {x y : Nat} (hx : x < n) : same (RJ.exch f a b) x y ↔ Mrg f a b x y := by
  have ne := not_same_ne ns
  have B' := B.exch ha hb
  have ns' := B.not_symm hb ns
  have ra : ∀ {z}, same f a z → same (RJ.exch f a b) b z := fun {z} h => B.exch_reach ha hb ns h
  have rb : ∀ {z}, same f b z → same (RJ.exch f a b) a z := fun {z} h => by
    rw [exch_comm ne]
    exact B.exch_reach hb ha ns' h
  have ab : same (RJ.exch f a b) a b := rb (same.refl _ _)
  have ba : same (RJ.exch f a b) b a := ra (same.refl _ _)
  constructor
  · rintro ⟨k, rfl⟩
    exact mrg_it f ne x k
  · rintro (h | ⟨h1, h2⟩ | ⟨h1, h2⟩)
    · by_cases ca : same f x a
      · have h3 := B.symm hx ca
        exact (B'.symm hb (ra h3)).trans (ra (h3.trans h))
      · by_cases cb : same f x b
        · have h3 := B.symm hx cb
          exact (B'.symm ha (rb h3)).trans (rb (h3.trans h))
        · obtain ⟨k, rfl⟩ := h
          exact ⟨k, B.exch_keep ca cb k⟩
    · exact ((B'.symm hb (ra (B.symm hx h1))).trans ba).trans (rb h2)
    · exact ((B'.symm ha (rb (B.symm hx h1))).trans ab).trans (ra h2)
theorem filter_drop_one : ∀ (l : List Nat) (p : Nat → Bool) (r : Nat), l.Nodup → r ∈ l → p r = true → (l.filter fun x => p x && decide (x ≠ r)).length + 1 = (l.filter p).length
  | [], _, _, _, h, _ => by cases h
  | x :: l, p, r, hd, h, hp => by
    have hd' := (List.nodup_cons.mp hd)
    by_cases e : x = r
    · subst e
      have e1 : (l.filter fun y => p y && decide (y ≠ x)) = l.filter p := by
        refine List.filter_congr fun y hy => ?_
        have : y ≠ x := fun z => hd'.1 (z ▸ hy)
        simp [this]
      rw [List.filter_cons_of_neg (by simp), List.filter_cons_of_pos hp, e1]
      rfl
    · have hm : r ∈ l := (List.mem_cons.mp h).resolve_left fun z => e z.symm
      have ih := filter_drop_one l p r hd'.2 hm hp
      by_cases hx : p x = true
      · rw [List.filter_cons_of_pos (by simp [hx, e]), List.filter_cons_of_pos hx, List.length_cons, List.length_cons, ih]
      · rw [List.filter_cons_of_neg (by simp [hx]), List.filter_cons_of_neg hx, ih]
/-- an exchange of two that stand in two rounds makes one round fewer -/
theorem Bij.exch_cnt (B : Bij n f) {a b : Nat} (ha : a < n) (hb : b < n) (ns : ¬ same f a b) : cnt (RJ.exch f a b) n + 1 = cnt f n := by
  obtain ⟨ra, hra, sa, la⟩ := B.leader a ha
  obtain ⟨rb, hrb, sb, lb⟩ := B.leader b hb
  have la' := (B.leadB_iff (by omega)).mp la
  have lb' := (B.leadB_iff (by omega)).mp lb
  have nab : ra ≠ rb := fun e => ns ((B.symm (by omega) sa).trans (e ▸ sb))
  have B' := B.exch ha hb
  -- the greater of the two leaders falls away
  have go : ∀ (u v : Nat), u < n → v < n → u < v → leadB f n v = true → (∀ w, w < n → (leadB (RJ.exch f a b) n w = true ↔ leadB f n w = true ∧ w ≠ v)) → cnt (RJ.exch f a b) n + 1 = cnt f n := by
    intro u v hu hv huv lv key
    unfold cnt lead
    have e : (List.range n).filter (leadB (RJ.exch f a b) n) = (List.range n).filter fun x => leadB f n x && decide (x ≠ v) := by
      refine List.filter_congr fun w hw => ?_
      have k := key w (List.mem_range.mp hw)
      rw [Bool.eq_iff_iff, k]
      simp
    rw [e]
    exact filter_drop_one _ _ _ List.nodup_range (List.mem_range.mpr hv) lv
  have uniq : ∀ {w r z}, w < n → r < n → leadB f n w = true → leadB f n r = true → same f r z → same f z w → w = r := fun {w r z} hw hr lw lr h1 h2 => by
    have lw' := (B.leadB_iff hw).mp lw
    have lr' := (B.leadB_iff hr).mp lr
    have h3 := h1.trans h2
    rcases Nat.lt_trichotomy w r with h | h | h
    · exact (lr' w h (B.symm hr h3)).elim
    · exact h
    · exact (lw' r h h3).elim
  have least : ∀ {w r}, w < n → r < n → leadB f n r = true → same f w r → r ≤ w := fun {w r} hw hr lr h => by
    have lr' := (B.leadB_iff hr).mp lr
    exact Nat.le_of_not_lt fun z => lr' w z h
  rcases Nat.lt_or_gt_of_ne nab with h | h
  · refine go ra rb (by omega) (by omega) h lb fun w hw => ?_
    rw [B'.leadB_iff hw, B.leadB_iff hw]
    constructor
    · intro k
      refine ⟨fun v hv hs => k v hv ((B.exch_same ha hb ns (by omega)).mpr (.inl hs)), fun e => ?_⟩
      subst e
      exact k ra h ((B.exch_same ha hb ns (by omega)).mpr (.inr (.inl ⟨sa, B.symm (by omega) sb⟩)))
    · rintro ⟨k, ne⟩ v hv hs
      rcases (B.exch_same ha hb ns (by omega)).mp hs with hs | ⟨h1, h2⟩ | ⟨h1, h2⟩
      · exact k v hv hs
      · exact ne (uniq hw (by omega) ((B.leadB_iff hw).mpr k) lb sb h2)
      · have e1 := uniq hw (by omega) ((B.leadB_iff hw).mpr k) la sa h2
        have e2 := least (w := v) (r := rb) (by omega) (by omega) lb (h1.trans (B.symm (by omega) sb))
        omega
  · refine go rb ra (by omega) (by omega) h la fun w hw => ?_
    rw [B'.leadB_iff hw, B.leadB_iff hw]
    constructor
    · intro k
      refine ⟨fun v hv hs => k v hv ((B.exch_same ha hb ns (by omega)).mpr (.inl hs)), fun e => ?_⟩
      subst e
      exact k rb h ((B.exch_same ha hb ns (by omega)).mpr (.inr (.inr ⟨sb, B.symm (by omega) sa⟩)))
    · rintro ⟨k, ne⟩ v hv hs
      rcases (B.exch_same ha hb ns (by omega)).mp hs with hs | ⟨h1, h2⟩ | ⟨h1, h2⟩
      · exact k v hv hs
      · have e1 := uniq hw (by omega) ((B.leadB_iff hw).mpr k) lb sb h2
        have e2 := least (w := v) (r := ra) (by omega) (by omega) la (h1.trans (B.symm (by omega) sa))
        omega
      · exact ne (uniq hw (by omega) ((B.leadB_iff hw).mpr k) la sa h2)
/-! ### joined -/
def stepJ (n : Nat) (s : (Nat → Nat) × List (Nat × Nat)) (p : Nat × Nat) : (Nat → Nat) × List (Nat × Nat) :=
  if sameB s.1 n p.1 p.2 = true then s else (RJ.exch s.1 p.1 p.2, s.2 ++ [p])
/-- pairs of partners: the words of one end, e = how many ends there are -/
def prs (n e : Nat) : List (Nat × Nat) := (List.range n).flatMap fun a => ((List.range n).filter fun b => decide (a < b) && decide (a % e = b % e)).map fun b => (a, b)
theorem mem_prs {n e : Nat} {p : Nat × Nat} : p ∈ prs n e ↔ p.1 < n ∧ p.2 < n ∧ p.1 < p.2 ∧ p.1 % e = p.2 % e := by
  unfold prs
  rw [List.mem_flatMap]
  constructor
  · rintro ⟨a, ha, h⟩
    obtain ⟨b, hb, rfl⟩ := List.mem_map.mp h
    obtain ⟨h1, h2⟩ := List.mem_filter.mp hb
    rw [Bool.and_eq_true, decide_eq_true_iff, decide_eq_true_iff] at h2
    exact ⟨List.mem_range.mp ha, List.mem_range.mp h1, h2⟩
  · rintro ⟨h1, h2, h3, h4⟩
    exact ⟨p.1, List.mem_range.mpr h1, List.mem_map.mpr ⟨p.2, List.mem_filter.mpr ⟨List.mem_range.mpr h2, by simp [h3, h4]⟩, rfl⟩⟩
/-- what holds of a rule: its words' followers -/
structure Fol (n e K : Nat) (f : Nat → Nat) : Prop where
  b : Bij n f
  d : ∀ i, i < n → f i / K = i % e
theorem Fol.exch {n e K : Nat} {f : Nat → Nat} (F : Fol n e K f) {a b : Nat} (ha : a < n) (hb : b < n) (h : a % e = b % e) : Fol n e K (RJ.exch f a b) := by
  refine ⟨F.b.exch ha hb, fun i hi => ?_⟩
  unfold RJ.exch
  by_cases h1 : i = a
  · rw [if_pos h1, F.d b hb, h1, h]
  · rw [if_neg h1]
    by_cases h2 : i = b
    · rw [if_pos h2, F.d a ha, h2, h]
    · rw [if_neg h2, F.d i hi]
structure Jn (n e K : Nat) (f0 : Nat → Nat) (pre : List (Nat × Nat)) (s : (Nat → Nat) × List (Nat × Nat)) : Prop where
  f : Fol n e K s.1
  c : s.2.length + cnt s.1 n = cnt f0 n
  s : ∀ p ∈ pre, same s.1 p.1 p.2
theorem Jn.step {n e K : Nat} {f0 : Nat → Nat} {pre : List (Nat × Nat)} {s : (Nat → Nat) × List (Nat × Nat)} (J : Jn n e K f0 pre s) (hpre : ∀ p ∈ pre, p.1 < n) {p : Nat × Nat} (h1 : p.1 < n) (h2 : p.2 < n) (h3 : p.1 % e = p.2 % e) : Jn n e K f0 (pre ++ [p]) (stepJ n s p) := by
  unfold stepJ
  by_cases c : sameB s.1 n p.1 p.2 = true
  · rw [if_pos c]
    refine ⟨J.f, J.c, fun q hq => ?_⟩
    rcases List.mem_append.mp hq with hq | hq
    · exact J.s q hq
    · rw [List.mem_singleton.mp hq]
      exact (J.f.b.sameB_iff h1).mp c
  · rw [if_neg c]
    have ns : ¬ same s.1 p.1 p.2 := fun z => c ((J.f.b.sameB_iff h1).mpr z)
    refine ⟨J.f.exch h1 h2 h3, ?_, fun q hq => ?_⟩
    · have e1 := J.f.b.exch_cnt h1 h2 ns
      have e2 := J.c
      show (s.2 ++ [p]).length + cnt (RJ.exch s.1 p.1 p.2) n = _
      rw [List.length_append, List.length_singleton]
      omega
    · rcases List.mem_append.mp hq with hq | hq
      · exact (J.f.b.exch_same h1 h2 ns (hpre q hq)).mpr (.inl (J.s q hq))
      · rw [List.mem_singleton.mp hq]
        exact (J.f.b.exch_same h1 h2 ns h1).mpr (.inr (.inl ⟨same.refl _ _, same.refl _ _⟩))
theorem Jn.fold {n e K : Nat} {f0 : Nat → Nat} : ∀ (l : List (Nat × Nat)) {pre : List (Nat × Nat)} {s : (Nat → Nat) × List (Nat × Nat)}, Jn n e K f0 pre s → (∀ p ∈ pre, p.1 < n) → (∀ p ∈ l, p.1 < n ∧ p.2 < n ∧ p.1 % e = p.2 % e) → Jn n e K f0 (pre ++ l) (l.foldl (stepJ n) s)
  | [], pre, s, J, _, _ => by rwa [List.append_nil]
  | p :: l, pre, s, J, hp, hl => by
    have h1 := hl p List.mem_cons_self
    have J' := J.step hp h1.1 h1.2.1 h1.2.2
    have := Jn.fold l J' (fun q hq => (List.mem_append.mp hq).elim (hp q) fun z => by rw [List.mem_singleton.mp z]; exact h1.1) fun q hq => hl q (List.mem_cons_of_mem _ hq)
    rw [List.append_assoc] at this
    exact this
/-- behind all pairs there is one round -/
theorem Fol.one {m K : Nat} {f : Nat → Nat} (hK : 0 < K) (F : Fol (K ^ (m + 1)) (K ^ m) K f) (h : ∀ p ∈ prs (K ^ (m + 1)) (K ^ m), same f p.1 p.2) : ∀ x y, x < K ^ (m + 1) → y < K ^ (m + 1) → same f x y := by
  have part : ∀ a b, a < K ^ (m + 1) → b < K ^ (m + 1) → a % K ^ m = b % K ^ m → same f a b := fun a b ha hb e => by
    rcases Nat.lt_trichotomy a b with z | z | z
    · exact h (a, b) (mem_prs.mpr ⟨ha, hb, z, e⟩)
    · exact z ▸ same.refl f a
    · exact F.b.symm hb (h (b, a) (mem_prs.mpr ⟨hb, ha, z, e.symm⟩))
  have hn : 0 < K ^ (m + 1) := Nat.pow_pos hK
  have onto : ∀ y, y < K ^ (m + 1) → ∃ x, x < K ^ (m + 1) ∧ f x = y := fun y hy => by
    refine ⟨it f (per f (K ^ (m + 1)) y - 1) y, F.b.it_lt _ _ hy, ?_⟩
    have h0 := per_pos f (K ^ (m + 1)) y
    rw [← it_succ f, show per f (K ^ (m + 1)) y - 1 + 1 = per f (K ^ (m + 1)) y by omega, F.b.per_it hy]
  have edge : ∀ x c, x < K ^ (m + 1) → c < K → (x % K ^ m) * K + c < K ^ (m + 1) ∧ same f x ((x % K ^ m) * K + c) := fun x c hx hc => by
    have h1 : x % K ^ m < K ^ m := Nat.mod_lt _ (Nat.pow_pos hK)
    have h2 : (x % K ^ m) * K + c < K ^ (m + 1) := by
      rw [Nat.pow_succ]
      have h3 : (x % K ^ m + 1) * K ≤ K ^ m * K := Nat.mul_le_mul_right K h1
      rw [Nat.succ_mul] at h3
      omega
    obtain ⟨z, hz, e⟩ := onto _ h2
    have h4 := F.d z hz
    rw [e, Nat.mul_comm, Nat.mul_add_div hK, Nat.div_eq_of_lt hc, Nat.add_zero] at h4
    refine ⟨h2, (part x z hx hz h4).trans ⟨1, e⟩⟩
  intro x z hx hz
  have walk : ∀ j, j ≤ m + 1 → ∃ y, y < K ^ (m + 1) ∧ same f x y ∧ y % K ^ j = z / K ^ (m + 1 - j) := by
    intro j
    induction j with
    | zero =>
      intro _
      refine ⟨x, hx, same.refl f x, ?_⟩
      rw [Nat.pow_zero, Nat.mod_one, Nat.sub_zero, Nat.div_eq_of_lt hz]
    | succ j ih =>
      intro hj
      obtain ⟨y, hy, hs, e⟩ := ih (by omega)
      have hc : z / K ^ (m + 1 - (j + 1)) % K < K := Nat.mod_lt _ hK
      obtain ⟨h1, h2⟩ := edge y _ hy hc
      refine ⟨_, h1, hs.trans h2, ?_⟩
      have e1 : m + 1 - j = (m + 1 - (j + 1)) + 1 := by omega
      have hdv : K ^ j ∣ K ^ m := Nat.pow_dvd_pow K (by omega)
      rw [e1, Nat.pow_succ, ← Nat.div_div_eq_div_mul] at e
      have h5 : ((y % K ^ m) * K + z / K ^ (m + 1 - (j + 1)) % K) % K ^ (j + 1) = (y % K ^ j) * K + z / K ^ (m + 1 - (j + 1)) % K := by
        have h6 : (y % K ^ m) * K + z / K ^ (m + 1 - (j + 1)) % K = K * (y % K ^ m) + z / K ^ (m + 1 - (j + 1)) % K := by rw [Nat.mul_comm]
        rw [h6, Nat.pow_succ, Nat.mul_comm (K ^ j) K, Nat.mod_mul, Nat.mul_add_mod, Nat.mod_mod, Nat.mul_add_div hK, Nat.div_eq_of_lt hc, Nat.add_zero (y % K ^ m), Nat.mod_mod_of_dvd y hdv, Nat.add_comm, Nat.mul_comm K]
      rw [h5, e]
      have h7 := Nat.div_add_mod (z / K ^ (m + 1 - (j + 1))) K
      rw [Nat.mul_comm] at h7
      exact h7
  obtain ⟨y, hy, hs, e⟩ := walk (m + 1) (Nat.le_refl _)
  rw [Nat.mod_eq_of_lt hy, Nat.sub_self, Nat.pow_zero, Nat.div_one] at e
  exact e ▸ hs
theorem cnt_one {n : Nat} {f : Nat → Nat} (B : Bij n f) (hn : 0 < n) (h : ∀ x y, x < n → y < n → same f x y) : lead f n = [0] := by
  obtain ⟨m, rfl⟩ : ∃ m, n = m + 1 := ⟨n - 1, by omega⟩
  unfold lead
  rw [List.range_succ_eq_map, List.filter_cons_of_pos, List.filter_eq_nil_iff.mpr]
  · intro w hw
    obtain ⟨k, hk, rfl⟩ := List.mem_map.mp hw
    have hk' := List.mem_range.mp hk
    rw [B.leadB_iff (by omega)]
    exact fun z => z 0 (Nat.succ_pos k) (h 0 (k + 1) (by omega) (by omega))
  · rw [B.leadB_iff hn]
    exact fun v hv => absurd hv (Nat.not_lt_zero _)
end
end RJ
namespace RJ
/-! the digits of a word -/
def wdig (L K i : Nat) : List Nat := (List.range L).map fun j => i / K ^ (L - 1 - j) % K
theorem wdig_len (L K i : Nat) : (wdig L K i).length = L := by
  unfold wdig
  rw [List.length_map, List.length_range]
theorem wdig_zero (K i : Nat) : wdig 0 K i = [] := rfl
theorem wdig_lt {L K i : Nat} (hK : 0 < K) : ∀ d ∈ wdig L K i, d < K := fun d h => by
  obtain ⟨j, _, rfl⟩ := List.mem_map.mp h
  exact Nat.mod_lt _ hK
theorem wdig_get {L K i j : Nat} (h : j < L) : (wdig L K i)[j]? = some (i / K ^ (L - 1 - j) % K) := by
  unfold wdig
  rw [List.getElem?_map, List.getElem?_range h]
  rfl
/-- one letter more, at the end -/
theorem wdig_snoc (L K i : Nat) : wdig (L + 1) K i = wdig L K (i / K) ++ [i % K] := by
  unfold wdig
  rw [List.range_succ, List.map_append, List.map_singleton]
  have e1 : L + 1 - 1 - L = 0 := by omega
  rw [e1, Nat.pow_zero, Nat.div_one]
  congr 1
  refine List.map_congr_left fun j hj => ?_
  have hj' := List.mem_range.mp hj
  rw [show L + 1 - 1 - j = (L - 1 - j) + 1 by omega, Nat.pow_succ, Nat.mul_comm, ← Nat.div_div_eq_div_mul]
/-- one letter more, ahead -/
theorem wdig_cons (L K i : Nat) : wdig (L + 1) K i = (i / K ^ L % K) :: wdig L K i := by
  unfold wdig
  rw [List.range_succ_eq_map, List.map_cons, List.map_map]
  congr 1
  refine List.map_congr_left fun j hj => ?_
  have hj' := List.mem_range.mp hj
  show i / K ^ (L + 1 - 1 - (j + 1)) % K = i / K ^ (L - 1 - j) % K
  rw [show L + 1 - 1 - (j + 1) = L - 1 - j by omega]
theorem wdig_mod (L K i : Nat) : wdig L K (i % K ^ L) = wdig L K i := by
  unfold wdig
  refine List.map_congr_left fun j hj => ?_
  have hj' := List.mem_range.mp hj
  have e : K ^ L = K ^ (L - 1 - j) * (K * K ^ j) := by
    rw [← Nat.pow_add_one', ← Nat.pow_add]
    congr 1
    omega
  rw [e, Nat.mod_mul_right_div_self, Nat.mod_mul_right_mod]
/-- the number of a word's letters -/
def num (K : Nat) (l : List Nat) : Nat := l.foldl (fun n d => n * K + d) 0
theorem num_snoc (K : Nat) (l : List Nat) (d : Nat) : num K (l ++ [d]) = num K l * K + d := by
  unfold num
  rw [List.foldl_append]
  rfl
theorem num_wdig (K : Nat) : ∀ (L i : Nat), i < K ^ L → num K (wdig L K i) = i
  | 0, i, h => by
    rw [Nat.pow_zero] at h
    have : i = 0 := by omega
    rw [this]
    rfl
  | L + 1, i, h => by
    have hK : 0 < K := by
      rcases Nat.eq_zero_or_pos K with e | e
      · rw [e, Nat.pow_succ, Nat.mul_zero] at h
        omega
      · exact e
    rw [wdig_snoc, num_snoc, num_wdig K L (i / K) ((Nat.div_lt_iff_lt_mul hK).mpr (by rw [← Nat.pow_succ]; exact h)), Nat.mul_comm, Nat.div_add_mod]
theorem wdig_inj {L K i j : Nat} (hi : i < K ^ L) (hj : j < K ^ L) (e : wdig L K i = wdig L K j) : i = j := by
  rw [← num_wdig K L i hi, e, num_wdig K L j hj]
theorem wdig_eq {L K i j : Nat} : wdig L K i = wdig L K j ↔ i % K ^ L = j % K ^ L := by
  constructor
  · intro e
    rcases Nat.eq_zero_or_pos (K ^ L) with h | h
    · have hL : L ≠ 0 := fun z => by rw [z, Nat.pow_zero] at h; omega
      have hK : K = 0 := Nat.pow_eq_zero.mp h |>.1
      subst hK
      obtain ⟨m, rfl⟩ : ∃ m, L = m + 1 := ⟨L - 1, by omega⟩
      rw [h, Nat.mod_zero, Nat.mod_zero]
      rw [wdig_snoc, wdig_snoc] at e
      have := List.append_inj_right' e rfl
      simpa using this
    · rw [← wdig_mod L K i, ← wdig_mod L K j] at e
      exact wdig_inj (Nat.mod_lt _ h) (Nat.mod_lt _ h) e
  · intro e
    rw [← wdig_mod L K i, e, wdig_mod]
/-- the words stand in the order of their numbers -/
theorem wdig_order (K : Nat) : ∀ (L i j : Nat), i < j → j < K ^ L → wdig L K i < wdig L K j
  | 0, i, j, h, h2 => by rw [Nat.pow_zero] at h2; omega
  | L + 1, i, j, h, h2 => by
    have hK : 0 < K := by
      rcases Nat.eq_zero_or_pos K with e | e
      · rw [e, Nat.pow_succ, Nat.mul_zero] at h2
        omega
      · exact e
    have hp : 0 < K ^ L := Nat.pow_pos hK
    have bi : i / K ^ L < K := (Nat.div_lt_iff_lt_mul hp).mpr (by rw [Nat.pow_succ, Nat.mul_comm] at h2; omega)
    have bj : j / K ^ L < K := (Nat.div_lt_iff_lt_mul hp).mpr (by rw [Nat.pow_succ, Nat.mul_comm] at h2; omega)
    rw [wdig_cons, wdig_cons, Nat.mod_eq_of_lt bi, Nat.mod_eq_of_lt bj]
    refine List.cons_lt_cons_iff.mpr ?_
    have hle : i / K ^ L ≤ j / K ^ L := Nat.div_le_div_right (Nat.le_of_lt h)
    rcases Nat.lt_or_ge (i / K ^ L) (j / K ^ L) with c | c
    · exact .inl c
    · have e : i / K ^ L = j / K ^ L := Nat.le_antisymm hle c
      refine .inr ⟨e, ?_⟩
      rw [← wdig_mod L K i, ← wdig_mod L K j]
      refine wdig_order K L _ _ ?_ (Nat.mod_lt _ hp)
      have h3 := Nat.div_add_mod i (K ^ L)
      have h4 := Nat.div_add_mod j (K ^ L)
      rw [e] at h3
      omega
theorem wdig_lt_iff {K L i j : Nat} (hi : i < K ^ L) (hj : j < K ^ L) : wdig L K i < wdig L K j ↔ i < j := by
  constructor
  · intro h
    rcases Nat.lt_trichotomy i j with c | c | c
    · exact c
    · subst c
      exact absurd h (List.lt_irrefl _)
    · exact absurd (wdig_order K L j i c hi) (List.lt_asymm h)
  · intro h
    exact wdig_order K L i j h hj
/-! the letter behind: t tells it, the follower's number -/
def nx (m K : Nat) (t : List Nat) : Nat → Nat := fun i => (i % K ^ m) * K + t.getD i 0
theorem nx_lt {m K : Nat} {t : List Nat} {i : Nat} (ht : ∀ d ∈ t, d < K) (hl : t.length = K ^ (m + 1)) (hi : i < K ^ (m + 1)) (hK : 0 < K) : nx m K t i < K ^ (m + 1) ∧ nx m K t i / K = i % K ^ m ∧ nx m K t i % K = t.getD i 0 ∧ t.getD i 0 < K := by
  have h1 : t.getD i 0 < K := by
    rw [List.getD_eq_getElem?_getD, List.getElem?_eq_getElem (by omega)]
    exact ht _ (List.getElem_mem _)
  have h2 : i % K ^ m < K ^ m := Nat.mod_lt _ (Nat.pow_pos hK)
  unfold nx
  refine ⟨?_, ?_, ?_, h1⟩
  · have h3 : (i % K ^ m + 1) * K ≤ K ^ m * K := Nat.mul_le_mul_right K h2
    rw [Nat.succ_mul] at h3
    rw [Nat.pow_succ]
    omega
  · rw [Nat.mul_comm, Nat.mul_add_div hK, Nat.div_eq_of_lt h1, Nat.add_zero]
  · rw [Nat.mul_comm, Nat.mul_add_mod, Nat.mod_eq_of_lt h1]
/-- the word behind: its tail and the letter -/
theorem wdig_nx {m K : Nat} {t : List Nat} {i : Nat} (ht : ∀ d ∈ t, d < K) (hl : t.length = K ^ (m + 1)) (hi : i < K ^ (m + 1)) (hK : 0 < K) : wdig (m + 1) K (nx m K t i) = wdig m K i ++ [t.getD i 0] := by
  obtain ⟨_, h1, h2, _⟩ := nx_lt ht hl hi hK
  rw [wdig_snoc, h1, h2, wdig_mod]
/-- another first letter -/
theorem wdig_first {m K c i : Nat} (hK : 0 < K) (hc : c < K) : wdig (m + 1) K (c * K ^ m + i % K ^ m) = c :: wdig m K i ∧ c * K ^ m + i % K ^ m < K ^ (m + 1) := by
  have hp : 0 < K ^ m := Nat.pow_pos hK
  have h2 : i % K ^ m < K ^ m := Nat.mod_lt _ hp
  have e : (c * K ^ m + i % K ^ m) / K ^ m = c := by
    rw [Nat.mul_comm, Nat.mul_add_div hp, Nat.div_eq_of_lt h2, Nat.add_zero]
  constructor
  · rw [wdig_cons, e, Nat.mod_eq_of_lt hc]
    congr 1
    rw [← wdig_mod m K (c * K ^ m + i % K ^ m), Nat.mul_comm, Nat.mul_add_mod, Nat.mod_mod, wdig_mod]
  · have h3 : (c + 1) * K ^ m ≤ K * K ^ m := Nat.mul_le_mul_right _ hc
    rw [Nat.succ_mul] at h3
    rw [Nat.pow_succ, Nat.mul_comm (K ^ m) K]
    omega
theorem wdig_head {m K i : Nat} (hi : i < K ^ (m + 1)) : wdig (m + 1) K i = (i / K ^ m) :: wdig m K i := by
  have hK : 0 < K := by
    rcases Nat.eq_zero_or_pos K with e | e
    · rw [e, Nat.pow_succ, Nat.mul_zero] at hi
      omega
    · exact e
  rw [wdig_cons, Nat.mod_eq_of_lt ((Nat.div_lt_iff_lt_mul (Nat.pow_pos hK)).mpr (by rw [Nat.pow_succ, Nat.mul_comm] at hi; exact hi))]
/-! rings: windows gone round -/
def cyc (x : List Nat) (L k : Nat) : List Nat := (List.range L).map fun j => x.getD ((k + j) % x.length) 0
theorem cyc_len (x : List Nat) (L k : Nat) : (cyc x L k).length = L := by
  unfold cyc
  rw [List.length_map, List.length_range]
/-- a text put together with itself -/
def rept (r : Nat) (x : List Nat) : List Nat := (List.replicate r x).flatten
theorem rept_len (r : Nat) (x : List Nat) : (rept r x).length = r * x.length := by
  unfold rept
  rw [List.length_flatten, List.map_replicate, List.sum_replicate_nat]
theorem rept_get : ∀ (r : Nat) (x : List Nat) (i : Nat), i < r * x.length → (rept r x)[i]? = some (x.getD (i % x.length) 0)
  | 0, x, i, h => by rw [Nat.zero_mul] at h; omega
  | r + 1, x, i, h => by
    have hx : 0 < x.length := by
      rcases Nat.eq_zero_or_pos x.length with e | e
      · rw [e, Nat.mul_zero] at h; omega
      · exact e
    have e : rept (r + 1) x = x ++ rept r x := by
      unfold rept
      rw [List.replicate_succ, List.flatten_cons]
    rw [e]
    rw [Nat.succ_mul] at h
    rcases Nat.lt_or_ge i x.length with c | c
    · rw [List.getElem?_append_left c, Nat.mod_eq_of_lt c, List.getD_eq_getElem?_getD, List.getElem?_eq_getElem c]
      rfl
    · rw [List.getElem?_append_right c, rept_get r x (i - x.length) (by omega), ← Nat.mod_eq_sub_mod c]
theorem rept_cut {r : Nat} {x : List Nat} {k L : Nat} (h : k + L ≤ r * x.length) : ((rept r x).drop k).take L = cyc x L k := by
  refine List.ext_getElem? fun j => ?_
  rcases Nat.lt_or_ge j L with c | c
  · rw [List.getElem?_take_of_lt c, List.getElem?_drop, rept_get r x (k + j) (by omega)]
    unfold cyc
    rw [List.getElem?_map, List.getElem?_range c]
    rfl
  · rw [List.getElem?_eq_none (by rw [List.length_take]; omega), List.getElem?_eq_none (by rw [cyc_len]; exact c)]
/-- the ring from a word on: the first letters of its round -/
def ringt (m K : Nat) (f : Nat → Nat) (w : Nat) : List Nat := (orb f (K ^ (m + 1)) w).map fun y => y / K ^ m
theorem ringt_len (m K : Nat) (f : Nat → Nat) (w : Nat) : (ringt m K f w).length = per f (K ^ (m + 1)) w := by
  unfold ringt
  rw [List.length_map, orb_len]
section
variable {m K : Nat} {f : Nat → Nat}
theorem Fol.ring_get (F : Fol (K ^ (m + 1)) (K ^ m) K f) {w : Nat} (hw : w < K ^ (m + 1)) (k : Nat) : (ringt m K f w).getD (k % (ringt m K f w).length) 0 = it f k w / K ^ m := by
  rw [ringt_len, List.getD_eq_getElem?_getD]
  have h := Nat.mod_lt k (per_pos f (K ^ (m + 1)) w)
  unfold ringt orb
  rw [List.getElem?_map, List.getElem?_map, List.getElem?_range h]
  show it f (k % per f (K ^ (m + 1)) w) w / K ^ m = _
  rw [← F.b.it_mod hw]
/-- letters move ahead by one at each turn -/
theorem Fol.shift (F : Fol (K ^ (m + 1)) (K ^ m) K f) (hK : 0 < K) : ∀ (j y : Nat), j ≤ m → y < K ^ (m + 1) → it f j y / K ^ m = y / K ^ (m - j) % K
  | 0, y, _, hy => by
    rw [it_zero, Nat.sub_zero, Nat.mod_eq_of_lt]
    exact (Nat.div_lt_iff_lt_mul (Nat.pow_pos hK)).mpr (by rw [Nat.pow_succ, Nat.mul_comm] at hy; exact hy)
  | j + 1, y, hj, hy => by
    have e : it f (j + 1) y = it f j (f y) := rfl
    rw [e, F.shift hK j (f y) (by omega) (F.b.lt y hy), show m - j = (m - (j + 1)) + 1 by omega, Nat.pow_succ, Nat.mul_comm, ← Nat.div_div_eq_div_mul, F.d y hy]
    have e2 : K ^ m = K ^ (m - (j + 1)) * (K * K ^ j) := by
      rw [← Nat.pow_add_one', ← Nat.pow_add]
      congr 1
      omega
    rw [e2, Nat.mod_mul_right_div_self, Nat.mod_mul_right_mod]
theorem Fol.ring_cyc (F : Fol (K ^ (m + 1)) (K ^ m) K f) (hK : 0 < K) {w : Nat} (hw : w < K ^ (m + 1)) (k : Nat) : cyc (ringt m K f w) (m + 1) k = wdig (m + 1) K (it f k w) := by
  unfold cyc wdig
  refine List.map_congr_left fun j hj => ?_
  have hj' := List.mem_range.mp hj
  rw [F.ring_get hw, Nat.add_comm k j, it_add, F.shift hK j _ (by omega) (F.b.it_lt _ _ hw), show m + 1 - 1 - j = m - j by omega]
/-- the letter behind the k-th window -/
theorem Fol.ring_next (F : Fol (K ^ (m + 1)) (K ^ m) K f) (hK : 0 < K) {w : Nat} (hw : w < K ^ (m + 1)) (k : Nat) : (ringt m K f w).getD ((k + (m + 1)) % (ringt m K f w).length) 0 = f (it f k w) % K := by
  rw [F.ring_get hw, Nat.add_comm k (m + 1), it_add]
  have e : it f (m + 1) (it f k w) = it f m (f (it f k w)) := rfl
  rw [e, F.shift hK m _ (Nat.le_refl _) (F.b.lt _ (F.b.it_lt _ _ hw)), Nat.sub_self, Nat.pow_zero, Nat.div_one]
theorem Fol.ring_turn (F : Fol (K ^ (m + 1)) (K ^ m) K f) {w : Nat} (hw : w < K ^ (m + 1)) {by_ : Nat} (h : by_ < per f (K ^ (m + 1)) w) (hp : per f (K ^ (m + 1)) (it f by_ w) = per f (K ^ (m + 1)) w) :
    (ringt m K f w).drop by_ ++ (ringt m K f w).take by_ = ringt m K f (it f by_ w) := by
  have hw' := F.b.it_lt by_ w hw
  refine List.ext_getElem? fun i => ?_
  have el := ringt_len m K f w
  rcases Nat.lt_or_ge i (per f (K ^ (m + 1)) w) with c | c
  · have r : (ringt m K f (it f by_ w))[i]? = some (it f (i + by_) w / K ^ m) := by
      have q := F.ring_get hw' i
      rw [ringt_len, hp, Nat.mod_eq_of_lt c, List.getD_eq_getElem?_getD, ← it_add] at q
      rw [List.getElem?_eq_getElem (by rw [ringt_len, hp]; exact c)] at q ⊢
      rw [← q]
      rfl
    have q2 := F.ring_get hw (i + by_)
    rw [el, List.getD_eq_getElem?_getD] at q2
    rw [r, ← q2]
    have hb : (i + by_) % per f (K ^ (m + 1)) w < (ringt m K f w).length := by rw [el]; exact Nat.mod_lt _ (per_pos _ _ _)
    rw [List.getElem?_eq_getElem hb]
    show _ = some ((ringt m K f w)[(i + by_) % per f (K ^ (m + 1)) w])
    rw [← List.getElem?_eq_getElem hb]
    rcases Nat.lt_or_ge (i + by_) (per f (K ^ (m + 1)) w) with d | d
    · rw [List.getElem?_append_left (by rw [List.length_drop, el]; omega), List.getElem?_drop, Nat.mod_eq_of_lt d, Nat.add_comm]
    · rw [List.getElem?_append_right (by rw [List.length_drop, el]; omega), List.length_drop, el, Nat.mod_eq_sub_mod d, Nat.mod_eq_of_lt (by omega), List.getElem?_take_of_lt (by omega)]
      congr 1
      omega
  · rw [List.getElem?_eq_none (by rw [List.length_append, List.length_drop, List.length_take, el]; omega), List.getElem?_eq_none (by rw [ringt_len, hp]; exact c)]
end
/-! a rule made of a ring -/
def pos (x : List Nat) (L K i : Nat) : Nat := ((List.range x.length).find? fun k => decide (cyc x L k = wdig L K i)).getD 0
def mkr (x : List Nat) (L K : Nat) : List Nat := (List.range (K ^ L)).map fun i => x.getD ((pos x L K i + L) % x.length) 0
/-- each word stands just once in the ring -/
def whole (x : List Nat) (L K : Nat) : Prop := ((List.range x.length).map fun k => cyc x L k).Perm ((List.range (K ^ L)).map fun i => wdig L K i)
theorem words_nodup (L K : Nat) : ((List.range (K ^ L)).map fun i => wdig L K i).Nodup := by
  unfold List.Nodup
  rw [List.pairwise_map]
  refine List.pairwise_lt_range.imp_of_mem fun {a b} ha hb hab e => ?_
  have := wdig_inj (List.mem_range.mp ha) (List.mem_range.mp hb) e
  omega
theorem whole.len {x : List Nat} {L K : Nat} (h : whole x L K) : x.length = K ^ L := by
  have := h.length_eq
  rw [List.length_map, List.length_map, List.length_range, List.length_range] at this
  exact this
theorem whole.inj {x : List Nat} {L K : Nat} (h : whole x L K) {i j : Nat} (hi : i < x.length) (hj : j < x.length) (e : cyc x L i = cyc x L j) : i = j := by
  have nd : ((List.range x.length).map fun k => cyc x L k).Nodup := h.nodup_iff.mpr (words_nodup L K)
  have a : ((List.range x.length).map fun k => cyc x L k)[i]? = some (cyc x L i) := by rw [List.getElem?_map, List.getElem?_range hi]; rfl
  have b : ((List.range x.length).map fun k => cyc x L k)[j]? = some (cyc x L i) := by rw [List.getElem?_map, List.getElem?_range hj, e]; rfl
  obtain ⟨h1, e1⟩ := List.getElem?_eq_some_iff.mp a
  obtain ⟨h2, e2⟩ := List.getElem?_eq_some_iff.mp b
  exact (List.getElem_inj nd).mp (e1.trans e2.symm)
theorem whole.at {x : List Nat} {L K : Nat} (h : whole x L K) {i : Nat} (hi : i < K ^ L) : pos x L K i < x.length ∧ cyc x L (pos x L K i) = wdig L K i := by
  have hm : wdig L K i ∈ (List.range x.length).map fun k => cyc x L k := h.mem_iff.mpr (List.mem_map.mpr ⟨i, List.mem_range.mpr hi, rfl⟩)
  obtain ⟨k, hk, e⟩ := List.mem_map.mp hm
  unfold pos
  cases q : (List.range x.length).find? fun k => decide (cyc x L k = wdig L K i) with
  | none =>
    rw [List.find?_eq_none] at q
    have := q k hk
    simp [e] at this
  | some j =>
    have h1 := List.find?_some q
    have h2 := List.mem_of_find?_eq_some q
    exact ⟨List.mem_range.mp h2, of_decide_eq_true h1⟩
theorem whole.pos_eq {x : List Nat} {L K : Nat} (h : whole x L K) {i k : Nat} (hi : i < K ^ L) (hk : k < x.length) (e : cyc x L k = wdig L K i) : pos x L K i = k := by
  obtain ⟨h1, h2⟩ := h.at hi
  exact h.inj h1 hk (h2.trans e.symm)
theorem whole.word {x : List Nat} {L K : Nat} (h : whole x L K) {k : Nat} (hk : k < x.length) : ∃ i, i < K ^ L ∧ cyc x L k = wdig L K i := by
  have hm : cyc x L k ∈ (List.range (K ^ L)).map fun i => wdig L K i := h.mem_iff.mp (List.mem_map.mpr ⟨k, List.mem_range.mpr hk, rfl⟩)
  obtain ⟨i, hi, e⟩ := List.mem_map.mp hm
  exact ⟨i, List.mem_range.mp hi, e.symm⟩
/-- all letters of such a ring are letters -/
theorem whole.letters {x : List Nat} {L K : Nat} (h : whole x L K) (hL : 0 < L) (hK : 0 < K) : ∀ d ∈ x, d < K := fun d hd => by
  obtain ⟨k, hk, e⟩ := List.mem_iff_getElem.mp hd
  obtain ⟨i, hi, e2⟩ := h.word hk
  have e3 : (cyc x L k)[0]? = some d := by
    unfold cyc
    rw [List.getElem?_map, List.getElem?_range hL]
    show some (x.getD ((k + 0) % x.length) 0) = _
    rw [Nat.add_zero, Nat.mod_eq_of_lt hk, List.getD_eq_getElem?_getD, List.getElem?_eq_getElem hk, e]
    rfl
  rw [e2] at e3
  exact wdig_lt hK d (List.mem_of_getElem? e3)
theorem mkr_len (x : List Nat) (L K : Nat) : (mkr x L K).length = K ^ L := by
  unfold mkr
  rw [List.length_map, List.length_range]
theorem whole.mkr_lt {x : List Nat} {L K : Nat} (h : whole x L K) (hL : 0 < L) (hK : 0 < K) : ∀ d ∈ mkr x L K, d < K := fun d hd => by
  obtain ⟨i, hi, rfl⟩ := List.mem_map.mp hd
  have hx : 0 < x.length := by rw [h.len]; exact Nat.pow_pos hK
  rw [List.getD_eq_getElem?_getD, List.getElem?_eq_getElem (Nat.mod_lt _ hx)]
  exact h.letters hL hK _ (List.getElem_mem _)
section
variable {m K : Nat} {t : List Nat}
theorem fol_nx (ht : ∀ d ∈ t, d < K) (hl : t.length = K ^ (m + 1)) (hK : 0 < K) (B : Bij (K ^ (m + 1)) (nx m K t)) : Fol (K ^ (m + 1)) (K ^ m) K (nx m K t) :=
  ⟨B, fun i hi => (nx_lt ht hl hi hK).2.1⟩
/-- a follower map is a rule's -/
theorem Fol.told {f : Nat → Nat} (F : Fol (K ^ (m + 1)) (K ^ m) K f) (hK : 0 < K) : ∀ i, i < K ^ (m + 1) → f i = nx m K ((List.range (K ^ (m + 1))).map fun i => f i % K) i := fun i hi => by
  unfold nx
  rw [List.getD_eq_getElem?_getD, List.getElem?_map, List.getElem?_range hi]
  show f i = i % K ^ m * K + f i % K
  rw [← F.d i hi, Nat.mul_comm, Nat.div_add_mod]
/-- the one ring of a rule: each word stands just once in it, and it makes the rule again -/
theorem Fol.ring_whole {f : Nat → Nat} (F : Fol (K ^ (m + 1)) (K ^ m) K f) (hK : 0 < K) (one : ∀ x y, x < K ^ (m + 1) → y < K ^ (m + 1) → same f x y) {w : Nat} (hw : w < K ^ (m + 1)) :
    per f (K ^ (m + 1)) w = K ^ (m + 1) ∧ whole (ringt m K f w) (m + 1) K ∧ mkr (ringt m K f w) (m + 1) K = (List.range (K ^ (m + 1))).map fun i => f i % K := by
  have hp : (orb f (K ^ (m + 1)) w).Perm (List.range (K ^ (m + 1))) := by
    refine (List.perm_ext_iff_of_nodup (F.b.orb_nodup hw) List.nodup_range).mpr fun y => ?_
    rw [F.b.mem_orb hw, List.mem_range]
    exact ⟨fun ⟨k, e⟩ => e ▸ F.b.it_lt k w hw, fun hy => one w y hw hy⟩
  have hper : per f (K ^ (m + 1)) w = K ^ (m + 1) := by
    have := hp.length_eq
    rw [orb_len, List.length_range] at this
    exact this
  have hwh : whole (ringt m K f w) (m + 1) K := by
    unfold whole
    have e : ((List.range (ringt m K f w).length).map fun k => cyc (ringt m K f w) (m + 1) k) = (orb f (K ^ (m + 1)) w).map fun y => wdig (m + 1) K y := by
      unfold orb
      rw [List.map_map, ringt_len]
      exact List.map_congr_left fun k _ => F.ring_cyc hK hw k
    rw [e]
    exact hp.map _
  refine ⟨hper, hwh, ?_⟩
  unfold mkr
  refine List.map_congr_left fun i hi => ?_
  have hi' := List.mem_range.mp hi
  obtain ⟨k, e⟩ := one w i hw hi'
  rw [F.b.it_mod hw] at e
  have hk := Nat.mod_lt k (per_pos f (K ^ (m + 1)) w)
  have q := hwh.pos_eq (i := i) (k := k % per f (K ^ (m + 1)) w) hi' (by rw [ringt_len]; exact hk) (by rw [F.ring_cyc hK hw, e])
  rw [q, F.ring_next hK hw, e]
end
end RJ
set_option Elab.async false
set_option linter.all false
set_option maxRecDepth 100000
set_option maxHeartbeats 2000000
namespace RJ
open PySem PySem.Spec PyProof.Rows L2
section
variable {X : Cx}
/-! a text times an int -/
def rMulS : R2 := fun x y H Q => ∃ z n, x = .str z ∧ y = .int n ∧ 1 ≤ n ∧ n ≤ 16 ∧ z.length ≤ 100000 ∧ Q (.str (Txt.mul z n)) H
theorem op_mulS : OpR X (binaryOp .Mult) rMulS := by
  intro pins s σ H x y v u Q I rx ry h
  obtain ⟨z, n, rfl, rfl, h1, h2, hz, q⟩ := h
  obtain ⟨t, rfl⟩ := rx
  obtain ⟨t2, rfl⟩ := ry
  exact SB.mul (mulOk_of 100000 16 hz (by omega) (by omega) (by decide) (by decide)) fun t' k => ⟨.str _, H, I.tok k, ⟨t', rfl⟩, q⟩
/-! sorted of texts, any number of them -/
def rSortS (K : PySem.W.Frag) : List V → Hp → VK → Prop := fun vs H Q => ∃ (a : Addr) (xs : List Str), vs = [V.ref a] ∧ SqL K H a (xs.map V.str) ∧
  ∀ (ys : List Str) (p : Addr), ys.Perm xs → sortedS ys = true → H p = none → Q (.ref p) (upd H p (.lst (ys.map V.str)))
theorem cr_sortS : CallR X (.builtin "sorted") (rSortS X.K) := by
  intro pins s σ H vs us Q I r h
  obtain ⟨a, xs, rfl, hs, q⟩ := h
  obtain ⟨its, rv, hl, hz⟩ := I.list hs
  rw [Vals.ref1 r]
  have hlen0 := rv.length
  rw [List.length_map] at hlen0 hz
  refine PyProof.Rows.sorted_strsAny hl.isList rv.strs (by rw [← hlen0]; exact hz) fun out ys h1 h2 h3 => ?_
  obtain ⟨ep, he'⟩ := PyProof.Rows.sortedAll_at s.heap its out
  have hlen : (ys.map V.str).length ≤ sizeLine := by rw [List.length_map, h2.length_eq]; exact hz
  exact ⟨.ref _, upd H (s.heap.objs.size + 1) (.lst (ys.map V.str)), I.laid (t' := s.toks) (fun _ _ => PyProof.Rows.sortedAll_old) (Nat.le_succ _) ⟨hlen, out.toList, ep, vals_of_strs h1, he'⟩, rfl, q ys _ h2 h3 (I.hok.fresh (Nat.le_succ _))⟩
/-! min of texts whose first is the least -/
def rMinS (K : PySem.W.Frag) : List V → Hp → VK → Prop := fun vs H Q => ∃ (a : Addr) (x : Str) (xs : List Str), vs = [V.ref a] ∧ SqL K H a ((x :: xs).map V.str) ∧ (∀ y ∈ xs, ¬ y.cps.toList < x.cps.toList) ∧ Q (.str x) H
theorem minD_first (x : Str) : ∀ xs : List Str, (∀ y ∈ xs, ¬ y.cps.toList < x.cps.toList) → PySem.W.minD (.str x) (xs.map PyData.str) = .str x
  | [], _ => rfl
  | y :: xs, h => by
    have e : PySem.W.dataLt (.str y) (.str x) = false := by
      rw [PySem.W.dataLt_str]
      exact decide_eq_false (h y List.mem_cons_self)
    have ih := minD_first x xs fun z hz => h z (List.mem_cons_of_mem _ hz)
    unfold PySem.W.minD at ih ⊢
    rw [List.map_cons, List.foldl_cons, e]
    exact ih
theorem dpAll_strs {K : PySem.W.Frag} {H : Hp} : ∀ xs : List Str, DpAll K H (xs.map V.str) (xs.map PyData.str)
  | [] => .nil
  | x :: xs => .cons (.str x) (dpAll_strs xs)
theorem depth_strs : ∀ xs : List Str, PyData.depthAll (xs.map PyData.str) = 0
  | [] => rfl
  | x :: xs => by
    show max (PyData.depth (.str x)) (PyData.depthAll (xs.map PyData.str)) = 0
    rw [depth_strs xs]
    rfl
theorem cr_minS (hc : X.calm = true) (hu : X.A.units + 1 < cLine) : CallR X (.builtin "min") (rMinS X.K) := by
  intro pins s σ H vs us Q I r h
  obtain ⟨a, x, xs, rfl, hs, hmin, q⟩ := h
  obtain ⟨its, rv, hl, hz⟩ := I.list hs
  rw [Vals.ref1 r]
  obtain ⟨as, hr⟩ := Dp.readsAll I _ _ its (dpAll_strs (K := X.K) (H := H) (x :: xs)) rv
  refine PySem.W.min_list_data (x := .str x) (xs := xs.map PyData.str) (I.ok.hd hc) hl.isList (by simpa using hr) ⟨?_, ?_⟩ (by
    have e := depth_strs (x :: xs)
    rw [List.map_cons] at e
    rw [e]
    omega) fun i v h' tk bs hi r2 hk => ?_
  · intro y hy z hz2
    rw [← List.map_cons] at hy hz2
    obtain ⟨_, _, rfl⟩ := List.mem_map.mp hy
    obtain ⟨_, _, rfl⟩ := List.mem_map.mp hz2
    rfl
  · intro y hy
    rw [← List.map_cons] at hy
    obtain ⟨_, _, rfl⟩ := List.mem_map.mp hy
    exact fun z => nomatch z
  · rw [minD_first x xs hmin] at r2
    cases r2 with
    | str _ t => exact ⟨.str x, H, I.kept (t' := tk) hk, ⟨t, rfl⟩, q⟩
/-! list + list, whatever they are -/
def rCatL (K : PySem.W.Frag) : R2 := fun x y H Q => ∃ l b xs zs, x = .ref l ∧ y = .ref b ∧ SqL K H l xs ∧ SqL K H b zs ∧ xs.length + zs.length ≤ sizeLine ∧ ∀ p, H p = none → Q (.ref p) (upd H p (.lst (xs ++ zs)))
theorem op_catL : OpR X (binaryOp .Add) (rCatL X.K) := by
  intro pins s σ H x y v u Q I rx ry h
  obtain ⟨l, b, xs, zs, rfl, rfl, hH, hB, hz, q⟩ := h
  cases rx
  cases ry
  obtain ⟨its, r, ⟨⟨cls, dd, data, sl⟩, n, ho, hc, hd0, hd⟩, _⟩ := I.list hH
  obtain ⟨its2, r2, ⟨⟨cls2, dd2, data2, sl2⟩, n2, ho2, hc2, hd02, hd2⟩, _⟩ := I.list hB
  simp only at hc hd hc2 hd2
  subst hc hd hc2 hd2
  have hl := r.length
  have hl2 := r2.length
  refine concat_meets ⟨_, ho, rfl⟩ ⟨_, ho2, rfl⟩ noFill_list_add seq_list_add PySem.F.slot_list_add PySem.F.entry_list_add (PySem.F.args_list_add_2 _ _) (list_addW l b its.toArray its2.toArray n n2 dd dd2 sl sl2 (by simp only [List.size_toArray]; omega)) ⟨ho, ho2, ?_⟩
  have ea : its.toArray ++ its2.toArray = (its ++ its2).toArray := by simp
  rw [ea]
  exact ⟨.ref _, _, I.lnew (t' := s.toks) (r.append r2) (by rw [List.length_append]; omega), rfl, q _ I.fresh⟩
end
end RJ
set_option Elab.async false
set_option linter.all false
set_option maxRecDepth 100000
set_option maxHeartbeats 2000000
/-! list(a text) -/
namespace RJ
open PySem PySem.Spec PyProof.Rows
section
variable {prog : Program} {w : World} {A : Around} {E : Value → Shared → Prop} {s : Shared}
theorem ls_extend {R : Result → Shared → Prop} (x : Str) (t : Tok) (hh : A.handled = none) (S : Addr) (res : Value) (c₀ : Nat) (hS : s.heap.get? S = some { cls := .type "list", data := .seq #[] c₀ })
    (hR : ∀ h' tk acc' c', (∀ b o, b ≠ S → s.heap.get? b = some o → h'.get? b = some o) → h'.get? S = some { cls := .type "list", dict := none, data := .seq acc' c', slots := #[] } → ItemsOf (SignAt x) acc' x.cps.size → R (.ok (.ret res)) { s with heap := h', toks := tk }) (hn : x.cps.size ≤ sizeLine) :
    wpAny (model prog w) A.in1 (Builtin.List.listExtendWith (.ref S) (.str x t) res)
      (fun fin s' => match fin with | .done f => R (.ok f) s' | .again c' => c'.quiet = true ∧ codeAny (model prog w) A c' R s') (fun e s' => R (.error e) s') s := by
  unfold Builtin.List.listExtendWith
  refine wpAny_bind (wpAny_typeOf (T := "str") (v := .str x t) rfl ?_)
  have h1 : Builtin.List.listSameRef (.ref S) (.str x t) = false := rfl
  have h2 : (Value.type "str" == Value.type "list") = false := by decide
  have h3 : (Value.type "str" == Value.type "tuple") = false := by decide
  simp only [h1, h2, h3, Bool.or_false, Bool.false_eq_true, if_false]
  refine wpAny_bind (wpAny_pyIter_str fun o St W hst => ?_)
  refine wpAny_bind (wpAny_holding ?_)
  unfold Builtin.List.listLengthHint
  refine wpAny_bind (wpAny_specialOf (T := "str") (v := .str x t) rfl F.str_len ?_)
  wp_delta
  refine wpAny_bind (wpAny_isInstance (T := "str") (v := .str x t) (b := true) rfl (by rw [isSubtype_type]; kernel_rfl) ?_)
  show wpAny _ A.in1 (typeOf (Value.str x t) >>= _) _ _ _
  refine wpAny_bind (wpAny_typeOf (T := "str") (v := .str x t) rfl ?_)
  refine wpAny_pure ?_
  rw [if_neg (by decide)]
  have hSn : S ≠ s.heap.objs.size := Nat.ne_of_lt (Heap.lt_size hS)
  have hSf : S ∉ [s.heap.objs.size] := fun hm => hSn (List.mem_singleton.mp hm)
  have hS1 : (s.heap.push o).get? S = some { cls := .type "list", data := .seq #[] c₀ } := Heap.get?_push_of_some _ hS
  refine wpAny_pure ⟨plainId_quiet F.plain_extend_loop _, codeAny_extend_loopS (W A.in1 hh).toS hn _ hSf _ x.cps.size 0 _ _ _ rfl (Nat.zero_le _) hst hS1 (ItemsOf.nil _) fun s' acc' c' hm hS' hacc => ?_⟩
  rw [Moved.eq_with hm]
  refine hR s'.heap s'.toks acc' c' (fun b ob hb e => hm.heap b ob (fun hmem => ?_) (Heap.get?_push_of_some _ e)) hS' hacc
  rcases List.mem_cons.mp hmem with e' | hmem
  · exact hb e'
  · exact absurd (Heap.lt_size e) (by rw [List.mem_singleton.mp hmem]; exact Nat.lt_irrefl _)
theorem ls_init {R : Result → Shared → Prop} (x : Str) (t : Tok) (hh : A.handled = none) (S : Addr) (hS : s.heap.get? S = some { cls := .type "list", data := .seq #[] })
    (hR : ∀ h' tk acc' c', (∀ b o, b ≠ S → s.heap.get? b = some o → h'.get? b = some o) → h'.get? S = some { cls := .type "list", dict := none, data := .seq acc' c', slots := #[] } → ItemsOf (SignAt x) acc' x.cps.size → R (.ok (.ret .none)) { s with heap := h', toks := tk }) (hn : x.cps.size ≤ sizeLine) :
    wpAny (model prog w) A.in1 (Builtin.«list.__init__» ⟨[.ref S, .str x t], []⟩)
      (fun fin s' => match fin with | .done f => R (.ok f) s' | .again c' => c'.quiet = true ∧ codeAny (model prog w) A c' R s') (fun e s' => R (.error e) s') s := by
  show wpAny _ _ (do let old ← Builtin.List.listItems (.ref S); Builtin.List.listUpdate (.ref S) (fun _ => #[]); letGo old.toList.reverse; Builtin.List.listExtendWith (.ref S) (.str x t) .none) _ _ s
  refine wpAny_bind ?_
  unfold Builtin.List.listItems
  refine wpAny_bind (wpAny_seqItems hS rfl (wpAny_pure ?_))
  show wpAny _ _ (updateSeq S (fun _ => #[]) >>= fun _ => letGo (#[] : Array Value).toList.reverse >>= fun _ => Builtin.List.listExtendWith (.ref S) (.str x t) .none) _ _ s
  refine wpAny_bind (wpAny_updateSeq hS rfl ?_)
  have hS₂ := Heap.get?_update_self (Obj.mapSeq (fun _ => (#[] : Array Value))) hS rfl
  have oth : ∀ b o, b ≠ S → s.heap.get? b = some o → (s.heap.update S (Obj.mapSeq (fun _ => (#[] : Array Value)))).get? b = some o :=
    fun b o hb e => (Heap.get?_update_other _ _ (Ne.symm hb)).trans e
  refine wpAny_bind (wpAny_letGo ?_)
  refine ls_extend x t hh S .none _ hS₂ (fun h' tk acc' c' hk hS' hacc => ?_) hn
  exact hR h' tk acc' c' (fun b o hb e => hk b o hb (oth b o hb e)) hS' hacc
theorem ls_call {x : Str} {t : Tok} {Q : Value → Shared → Prop} (hh : A.handled = none) (hn : x.cps.size ≤ sizeLine)
    (hQ : ∀ h' tk acc' c', (∀ b o, s.heap.get? b = some o → h'.get? b = some o) → h'.get? s.heap.objs.size = some { cls := .type "list", dict := none, data := .seq acc' c', slots := #[] } → ItemsOf (SignAt x) acc' x.cps.size → Q (.ref s.heap.objs.size) { s with heap := h', toks := tk }) :
    wpAny (model prog w) A (call (.type "list") [.str x t]) Q E s := by
  refine callType_codes (Q₁ := fun obj s₁ => obj = .ref s.heap.objs.size ∧ s₁ = { s with heap := s.heap.push { cls := .type "list", data := .seq #[] } }) PySem.F.called_list (PySem.F.typeCall_list_1 _) PySem.F.entry_list_init
    (code_list_new _ ⟨rfl, rfl⟩) fun obj s₁ h₁ => ?_
  obtain ⟨rfl, rfl⟩ := h₁
  have hS : (s.heap.push { cls := .type "list", data := .seq #[] }).get? s.heap.objs.size = some { cls := .type "list", data := .seq #[] } := Heap.get?_push_size _ rfl
  refine ⟨⟨_, hS, rfl⟩, PySem.F.args_list_init_2 _ _, ls_init (A := A.in1) x t hh _ hS (fun h' tk acc' c' hk hS' hacc => ?_) hn⟩
  exact ⟨rfl, hQ h' tk acc' c' (fun b o e => hk b o (Nat.ne_of_lt (Heap.lt_size e)) (Heap.get?_push_of_some _ e)) hS' hacc⟩
end
end RJ
namespace RJ
open PySem PySem.Spec PyProof.Rows L2
/-- a text's signs, each a text -/
def signs (z : Str) : List Str := z.cps.toList.map fun c => ⟨#[c]⟩
theorem signs_len (z : Str) : (signs z).length = z.length := by
  unfold signs
  rw [List.length_map, Array.length_toList]
  rfl
theorem strsAre_signs {x : Str} {acc : Array Value} (h : ItemsOf (SignAt x) acc x.cps.size) : StrsAre acc.toList (signs x) := by
  have key : ∀ (L : List Value) (S : List Nat), L.length = S.length → (∀ (i : Nat) (v : Value), L[i]? = some v → ∃ c t, S[i]? = some c ∧ v = Value.str ⟨#[c]⟩ t) → StrsAre L (S.map fun c => (⟨#[c]⟩ : Str)) := by
    intro L
    induction L with
    | nil =>
      intro S hl _
      cases S with
      | nil => exact .nil
      | cons c S => simp at hl
    | cons v L ih =>
      intro S hl hk
      cases S with
      | nil => simp at hl
      | cons c S =>
        obtain ⟨c', t, hc, rfl⟩ := hk 0 v rfl
        have e : c = c' := Option.some.inj hc
        subst e
        exact .cons _ t (ih S (by simpa using hl) fun i v' hv => hk (i + 1) v' (by simpa using hv))
  obtain ⟨h1, h2⟩ := h
  refine key acc.toList x.cps.toList (by simpa using h1) fun i v hv => ?_
  have hv' : acc[i]? = some v := by simpa using hv
  obtain ⟨c, t, hc, e⟩ := h2 i v hv'
  exact ⟨c, t, by simpa using hc, e⟩
section
variable {X : Cx}
def rListS : List V → Hp → VK → Prop := fun vs H Q => ∃ z : Str, vs = [.str z] ∧ z.length ≤ 100000 ∧ ∀ p, H p = none → Q (.ref p) (upd H p (.lst ((signs z).map V.str)))
theorem call_listS (hc : X.calm = true) : CallR X (.type "list") rListS := by
  intro pins s σ H vs us Q I r h
  obtain ⟨z, rfl, hz, q⟩ := h
  obtain ⟨u, rfl, rx⟩ := vals1 r
  obtain ⟨t, rfl⟩ := rx
  have hn : z.cps.size ≤ sizeLine := Nat.le_trans hz (by decide)
  refine ls_call (I.ok.hd hc) hn fun h' tk acc' c' hk hS hacc => ?_
  have hl : ((signs z).map V.str).length ≤ sizeLine := by rw [List.length_map, signs_len]; exact hn
  exact ⟨.ref s.heap.objs.size, _, I.laid (t' := tk) hk (Nat.le_refl _) (show ObjOk X.prog X.w _ h' _ (.lst ((signs z).map V.str)) from ⟨hl, acc'.toList, c', vals_of_strs (strsAre_signs hacc), by rw [Array.toArray_toList]; exact hS⟩), rfl, q _ (I.hok.fresh (Nat.le_refl _))⟩
end
/-! sep.join(reversed(a list of texts)) -/
section
variable {prog : Program} {w : World} {A : Around} {E : Value → Shared → Prop} {s : Shared}
theorem join_fit {x : Str} {vs : List Value} {ys : List Str} (hP : StrsAre vs ys) (hok : (ys.map (·.length)).sum + ys.length * x.length ≤ 16777216) :
    ∃ l : List (Str × Tok), vs = strValues l ∧ l.map (·.1) = ys ∧ Gives (joinTail x (strValues l)) (joinMade x l) ∧ Builtin.Str.tooLong (((l.map (·.1)).toArray).foldl (· + ·.length + x.length) 0) = false := by
  obtain ⟨l, hl, ht⟩ := strsAre_values hP
  subst ht
  have hok' := joinOk_of hok
  unfold JoinOk at hok'
  rw [Bool.not_eq_true'] at hok'
  refine ⟨l, hl, rfl, ?_, hok'⟩
  have g0 := gives_joinTail x l hok'
  cases l with
  | nil => exact g0
  | cons p r => cases r with
    | nil => exact g0
    | cons q r' => exact g0
theorem strs_rev {vs : List Value} {zs : List Str} (h : StrsAre vs zs) : StrsAre vs.reverse zs.reverse := by
  have rev : ∀ {xs : List V} {us : List Value}, Vals xs us → Vals xs.reverse us.reverse := by
    intro xs us r
    induction r with
    | nil => exact .nil
    | cons r t ih =>
      rw [List.reverse_cons, List.reverse_cons]
      exact Vals.append ih (.cons r .nil)
  have h2 := rev (vals_of_strs h)
  rw [← List.map_reverse] at h2
  exact h2.strs
theorem join_rev {x : Str} {t : Tok} {it l : Addr} {items : Array Value} {ys : List Str} {Q : Value → Shared → Prop} (hh : A.handled = none) (hit : s.heap.IsRevIter it l ((items.size : Int) - 1)) (hl : s.heap.IsList l items) (hne : l ≠ it) (hn : items.size ≤ sizeLine)
    (hS : StrsAre items.toList ys) (hok : (ys.map (·.length)).sum + ys.length * x.length ≤ 16777216)
    (hq : ∀ h' t' k, (∀ b o, b ≠ it → s.heap.get? b = some o → h'.get? b = some o) → Q (.str (Txt.join x ys.reverse) t') { s with heap := h', toks := k }) :
    wpAny (model prog w) A (call (.builtin "str.join") [.str x t, .ref it]) Q E s := by
  refine wpAny_call (codeAny_call_builtin F.slot_str_join.plain F.entry_str_join (F.slot_str_join.check _ _ _ _ _ _ _ _ (typeIs_str _ _ _) (F.args_str_join_2 _ _) ?_))
  rw [join_tree_other]
  refine wpAny_bind (wpAny_typeOf (T := "list_reverseiterator") hit.typeIs ?_)
  show wpAny _ A.in1 ((pyIter (.ref it)).tryCatch _ >>= fun it => collect it >>= fun items => joinTail x items) _ _ s
  refine wpAny_bind (wpAny_tryCatch (wpAny_pyIter_revIter hit ?_))
  refine wpAny_bind (RT.collect_rev (A := A.in1) hh hit hl hne hn fun h' tk acc hk hacc => ?_)
  have e : acc.toList = items.toList.reverse := by
    refine List.ext_getElem? fun i => ?_
    obtain ⟨h1, h2⟩ := hacc
    rcases Nat.lt_or_ge i items.size with c | c
    · have h3 := h2 i (acc[i]'(by omega)) (Array.getElem?_eq_getElem _)
      rw [List.getElem?_reverse (by simpa using c), Array.getElem?_toList, Array.getElem?_toList, Array.length_toList]
      rw [h3]
      exact Array.getElem?_eq_getElem (by omega)
    · rw [List.getElem?_eq_none (by simp; omega), List.getElem?_eq_none (by simp; omega)]
  have hS2 : StrsAre acc.toList ys.reverse := by
    rw [e]
    exact strs_rev hS
  obtain ⟨l2, hl2, ht2, g, hf⟩ := join_fit hS2 (x := x) (by
    rw [List.map_reverse, List.sum_reverse, List.length_reverse]
    exact hok)
  rw [hl2]
  exact g prog w A (wants Q E) _ (post_join l2 ⟨joinFit_length hf, fun t' k => by rw [ht2]; exact hq h' t' k hk⟩)
end
end RJ
set_option Elab.async false
set_option linter.all false
set_option maxRecDepth 100000
set_option maxHeartbeats 2000000
namespace RJ
open PySem PySem.Spec PyProof.Rows L2 TL
/-! texts of letters: a is 0 -/
def tx (l : List Nat) : Str := ⟨(l.map (97 + ·)).toArray⟩
theorem tx_cps (l : List Nat) : (tx l).cps.toList = l.map (97 + ·) := rfl
theorem tx_size (l : List Nat) : (tx l).cps.size = l.length := by
  unfold tx
  rw [List.size_toArray, List.length_map]
theorem tx_len (l : List Nat) : (tx l).length = l.length := tx_size l
theorem str_ext {x y : Str} (h : x.cps.toList = y.cps.toList) : x = y := by
  cases x
  cases y
  exact congrArg Str.mk (Array.toList_inj.mp h)
theorem app_cps (x y : Str) : (x ++ y).cps.toList = x.cps.toList ++ y.cps.toList := tl_append x y
theorem tx_app (a b : List Nat) : tx a ++ tx b = tx (a ++ b) := str_ext (by rw [app_cps, tx_cps, tx_cps, tx_cps, List.map_append])
theorem map97_inj {a b : List Nat} (h : a.map (97 + ·) = b.map (97 + ·)) : a = b := by
  have e := congrArg (List.map (· - 97)) h
  rw [List.map_map, List.map_map] at e
  have f : ∀ l : List Nat, l.map ((· - 97) ∘ (97 + ·)) = l := fun l => by
    rw [show ((· - 97) ∘ (97 + ·) : Nat → Nat) = id from funext fun x => by show 97 + x - 97 = x; omega, List.map_id]
  rwa [f, f] at e
theorem tx_inj {a b : List Nat} (h : tx a = tx b) : a = b := map97_inj (congrArg (fun z : Str => z.cps.toList) h)
theorem tx_iff {a b : List Nat} : tx a = tx b ↔ a = b := ⟨tx_inj, fun h => h ▸ rfl⟩
theorem tx_one (d : Nat) : (⟨#[97 + d]⟩ : Str) = tx [d] := rfl
theorem tx_nil : Str.ofString "" = tx [] := by decide +kernel
theorem tx_abc : Str.ofString "abcdef" = tx (List.range 6) := by decide +kernel
theorem map97_lt : ∀ {a b : List Nat}, a.map (97 + ·) < b.map (97 + ·) ↔ a < b
  | [], [] => by simp
  | [], _ :: _ => by simp
  | _ :: _, [] => by simp
  | x :: a, y :: b => by
    rw [List.map_cons, List.map_cons, List.cons_lt_cons_iff, List.cons_lt_cons_iff, map97_lt (a := a) (b := b)]
    constructor
    · rintro (h | ⟨h, h2⟩)
      · exact .inl (by omega)
      · exact .inr ⟨by omega, h2⟩
    · rintro (h | ⟨h, h2⟩)
      · exact .inl (by omega)
      · exact .inr ⟨by omega, h2⟩
theorem tx_lt (a b : List Nat) : (tx a).cps.toList < (tx b).cps.toList ↔ a < b := map97_lt
/-! slices, places -/
theorem cut_mid (l : List Nat) (i j : Nat) : cutS (tx l) (some (i : Int)) (some (j : Int)) = tx ((l.drop i).take (j - i)) := by
  refine str_ext ?_
  show ((tx l).cps.toList.drop (HT.sIx (tx l).length 0 (some (i : Int)))).take (HT.sIx (tx l).length (tx l).length (some (j : Int)) - HT.sIx (tx l).length 0 (some (i : Int))) = _
  rw [HT.sIx_nat, HT.sIx_nat, tx_len, tx_cps, tx_cps, ← List.map_drop, ← List.map_take]
  congr 1
  refine List.ext_getElem? fun k => ?_
  rw [List.getElem?_take, List.getElem?_take, List.getElem?_drop, List.getElem?_drop]
  by_cases h1 : k < j - i
  · rw [if_pos h1]
    by_cases h2 : i + k < l.length
    · rw [if_pos (by omega)]
      congr 1
      omega
    · rw [List.getElem?_eq_none (i := i + k) (by omega)]
      split
      · exact List.getElem?_eq_none (by omega)
      · rfl
  · rw [if_neg h1]
    rw [if_neg (by omega)]
theorem cut_from (l : List Nat) (i : Nat) : cutS (tx l) (some (i : Int)) none = tx (l.drop i) := by
  refine str_ext ?_
  show ((tx l).cps.toList.drop (HT.sIx (tx l).length 0 (some (i : Int)))).take (HT.sIx (tx l).length (tx l).length none - HT.sIx (tx l).length 0 (some (i : Int))) = _
  rw [HT.sIx_nat, HT.sIx_none, tx_len, tx_cps, tx_cps, ← List.map_drop, ← List.map_take]
  congr 1
  refine List.ext_getElem? fun k => ?_
  rw [List.getElem?_take, List.getElem?_drop, List.getElem?_drop]
  by_cases h1 : i + k < l.length
  · rw [if_pos (by omega)]
    congr 1
    omega
  · rw [List.getElem?_eq_none (i := i + k) (by omega)]
    split
    · exact List.getElem?_eq_none (by omega)
    · rfl
theorem cut_to (l : List Nat) (j : Nat) : cutS (tx l) none (some (j : Int)) = tx (l.take j) := by
  refine str_ext ?_
  show ((tx l).cps.toList.drop (HT.sIx (tx l).length 0 none)).take (HT.sIx (tx l).length (tx l).length (some (j : Int)) - HT.sIx (tx l).length 0 none) = _
  rw [HT.sIx_nat, HT.sIx_none, tx_len, tx_cps, tx_cps, ← List.map_drop, ← List.map_take, List.drop_zero, Nat.sub_zero]
  congr 1
  refine List.ext_getElem? fun k => ?_
  rw [List.getElem?_take, List.getElem?_take]
  by_cases h1 : k < l.length
  · by_cases h2 : k < j
    · rw [if_pos h2, if_pos (by omega)]
    · rw [if_neg h2, if_neg (by omega)]
  · rw [List.getElem?_eq_none (by omega)]
    split <;> split <;> rfl
theorem at_tx {l : List Nat} {i d : Nat} (h : l[i]? = some d) : atI (tx l).cps.toList (i : Int) = some (97 + d) := by
  refine atI_nat ?_
  rw [tx_cps, List.getElem?_map, h]
  rfl
theorem at_tx_last (l : List Nat) (d : Nat) : atI (tx (l ++ [d])).cps.toList (-1) = some (97 + d) := by
  rw [tx_cps, List.map_append]
  exact atI_last _ _
theorem tx_get {l : List Nat} {i c : Nat} (h : (tx l).cps[i]? = some c) : ∃ d, l[i]? = some d ∧ c = 97 + d := by
  have h2 : (l.map (97 + ·))[i]? = some c := by
    have : (tx l).cps.toList[i]? = some c := by simpa using h
    exact this
  rw [List.getElem?_map] at h2
  obtain ⟨d, hd, e⟩ := Option.map_eq_some_iff.mp h2
  exact ⟨d, hd, e.symm⟩
theorem mem_tx (d : Nat) (l : List Nat) : 97 + d ∈ (tx l).cps.toList ↔ d ∈ l := by
  rw [tx_cps, List.mem_map]
  constructor
  · rintro ⟨x, hx, e⟩
    have : x = d := by omega
    exact this ▸ hx
  · exact fun h => ⟨d, h, rfl⟩
/-! joins -/
theorem joinL_nil : ∀ l : List (List Nat), joinL [] l = l.flatten
  | [] => rfl
  | [p] => by simp [joinL]
  | p :: q :: r => by
    show p ++ ([] ++ joinL [] (q :: r)) = _
    rw [joinL_nil (q :: r), List.nil_append, List.flatten_cons, List.flatten_cons, List.flatten_cons]
theorem join_tx (ls : List (List Nat)) : Txt.join (Str.ofString "") (ls.map tx) = tx ls.flatten := by
  refine str_ext ?_
  rw [join_eq]
  show tl (Str.join (Str.ofString "") (ls.map tx)) = _
  rw [tl_join, tl_ofString, List.map_map]
  show joinL [] _ = _
  rw [joinL_nil, tx_cps, List.map_flatten]
  rfl
theorem join_len (ls : List (List Nat)) : ((ls.map tx).map (·.length)).sum = ls.flatten.length := by
  rw [List.map_map, List.length_flatten]
  congr 1
  exact List.map_congr_left fun l _ => tx_len l
theorem ofs_empty_len : (Str.ofString "").length = 0 := by decide +kernel
theorem signs_tx (l : List Nat) : signs (tx l) = l.map fun d => tx [d] := by
  unfold signs
  rw [tx_cps, List.map_map]
  rfl
theorem flat_ones (l : List Nat) : (l.map fun d => [d]).flatten = l := by
  induction l with
  | nil => rfl
  | cons x r ih => rw [List.map_cons, List.flatten_cons, ih, List.singleton_append]
theorem foldl_app (x : Array Nat) : ∀ (n : Nat) (a : Array Nat), ((List.replicate n x).foldl (· ++ ·) a).toList = a.toList ++ (List.replicate n x.toList).flatten
  | 0, a => by simp
  | n + 1, a => by
    rw [List.replicate_succ, List.foldl_cons, foldl_app x n, List.replicate_succ, List.flatten_cons, Array.toList_append, List.append_assoc]
theorem mul_tx (l : List Nat) (n : Nat) (h : 1 ≤ n) : Txt.mul (tx l) (n : Int) = tx (rept n l) := by
  unfold Txt.mul
  rw [if_neg (by omega)]
  by_cases c : ((n : Int) == 1 || (tx l).length == 0) = true
  · rw [if_pos c]
    rw [Bool.or_eq_true, beq_iff_eq, beq_iff_eq, tx_len] at c
    unfold rept
    rcases c with c | c
    · have : n = 1 := by omega
      subst this
      simp
    · have e : l = [] := List.eq_nil_of_length_eq_zero c
      subst e
      congr 1
      have : ∀ m : Nat, (List.replicate m ([] : List Nat)).flatten = [] := fun m => by simp
      exact (this n).symm
  · rw [if_neg c]
    refine str_ext ?_
    show ((List.replicate (n : Int).toNat (tx l).cps).foldl (· ++ ·) #[]).toList = _
    rw [foldl_app, Int.toNat_natCast, tx_cps, tx_cps]
    show [] ++ _ = _
    rw [List.nil_append]
    unfold rept
    rw [List.map_flatten, List.map_replicate]
/-! words -/
def word (L K i : Nat) : Str := tx (wdig L K i)
def words (L K : Nat) : List Str := (List.range (K ^ L)).map (word L K)
theorem word_inj {L K i j : Nat} (hi : i < K ^ L) (hj : j < K ^ L) (e : word L K i = word L K j) : i = j := wdig_inj hi hj (tx_inj e)
theorem word_eq {L K i j : Nat} (hi : i < K ^ L) (hj : j < K ^ L) : word L K i = word L K j ↔ i = j := ⟨word_inj hi hj, fun h => h ▸ rfl⟩
theorem word_lt {L K i j : Nat} (hi : i < K ^ L) (hj : j < K ^ L) : (word L K i).cps.toList < (word L K j).cps.toList ↔ i < j := by
  unfold word
  rw [tx_lt, wdig_lt_iff hi hj]
theorem word_len (L K i : Nat) : (word L K i).length = L := by
  unfold word
  rw [tx_len, wdig_len]
theorem words_len (L K : Nat) : (words L K).length = K ^ L := by
  unfold words
  rw [List.length_map, List.length_range]
theorem words_get {L K i : Nat} (h : i < K ^ L) : (words L K)[i]? = some (word L K i) := by
  unfold words
  rw [List.getElem?_map, List.getElem?_range h]
  rfl
/-! sorted -/
def upS (l : List Str) : Prop := l.Pairwise fun a b => ¬ b.cps.toList < a.cps.toList
theorem rising_up : ∀ (p : Str) (l : List Str), risingS p l = true → upS (p :: l)
  | p, [], _ => List.pairwise_singleton _ _
  | p, x :: r, h => by
    have h1 : (!ltCps x.cps.toList p.cps.toList && risingS x r) = true := h
    rw [Bool.and_eq_true, ltCps_eq, Bool.not_eq_true', decide_eq_false_iff_not] at h1
    have ih := rising_up x r h1.2
    refine List.pairwise_cons.mpr ⟨fun z hz => ?_, ih⟩
    rcases List.mem_cons.mp hz with e | hz
    · exact e ▸ h1.1
    · have h2 := List.rel_of_pairwise_cons ih hz
      exact fun h3 => List.not_lt.mpr (List.le_trans (List.not_lt.mp h1.1) (List.not_lt.mp h2)) h3
theorem sorted_up {l : List Str} (h : sortedS l = true) : upS l := by
  cases l with
  | nil => exact List.Pairwise.nil
  | cons x r => exact rising_up x r h
theorem words_up (L K : Nat) : upS (words L K) := by
  unfold upS words
  rw [List.pairwise_map]
  refine List.pairwise_lt_range.imp_of_mem fun {a b} ha hb hab h => ?_
  have := (word_lt (List.mem_range.mp hb) (List.mem_range.mp ha)).mp h
  omega
theorem up_unique {a b : List Str} (ha : upS a) (hb : upS b) (h : a.Perm b) : a = b := by
  refine List.Perm.eq_of_pairwise (fun x y _ _ h1 h2 => str_ext ?_) ha hb h
  exact List.le_antisymm (List.not_lt.mp h1) (List.not_lt.mp h2)
/-- a sorted list is that of all words just where the list was an order of them -/
theorem sorted_words {ys xs : List Str} {L K : Nat} (h1 : ys.Perm xs) (h2 : sortedS ys = true) : ys = words L K ↔ xs.Perm (words L K) := by
  constructor
  · intro e
    exact e ▸ h1.symm
  · intro h
    exact up_unique (sorted_up h2) (words_up L K) (h1.trans h)
/-! data that are compared -/
theorem eqv_strs : ∀ a b : List Str, PyData.eqv (.list (a.map PyData.str)) (.list (b.map PyData.str)) = decide (a = b) := by
  have key : ∀ a b : List Str, PyData.eqvAll (a.map PyData.str) (b.map PyData.str) = decide (a = b) := by
    intro a
    induction a with
    | nil =>
      intro b
      cases b with
      | nil => rfl
      | cons y b => rfl
    | cons x a ih =>
      intro b
      cases b with
      | nil => rfl
      | cons y b =>
        show (x == y && PyData.eqvAll (a.map PyData.str) (b.map PyData.str)) = _
        rw [ih b]
        by_cases h : x = y
        · subst h
          by_cases h2 : a = b
          · subst h2
            simp
          · simp [h2]
        · simp [h]
  exact key
theorem depth_strs_all : ∀ a : List Str, PyData.depthAll (a.map PyData.str) = 0 := depth_strs
theorem lay_strs : ∀ a : List Str, (∀ x ∈ a, PyData.strOk x = true) → PyData.canLayAll0 (a.map PyData.str) = true
  | [], _ => rfl
  | x :: a, h => by
    show (PyData.strOk x && PyData.canLayAll0 (a.map PyData.str)) = true
    rw [h x List.mem_cons_self, lay_strs a fun y hy => h y (List.mem_cons_of_mem _ hy)]
    rfl
theorem shaped_strs (a : List Str) (h : ∀ x ∈ a, PyData.strOk x = true) : SeqAt.shaped (.list (a.map PyData.str)) = true := by
  show (PyData.canLay0 (.list (a.map PyData.str)) && decide (PyData.depth (.list (a.map PyData.str)) ≤ 64)) = true
  rw [Bool.and_eq_true]
  refine ⟨by simp only [PyData.canLay0]; exact lay_strs a h, decide_eq_true ?_⟩
  simp only [PyData.depth, depth_strs]
  decide
theorem dp_strs {K : PySem.W.Frag} {H : Hp} {p : Addr} {xs : List Str} (h : SqL K H p (xs.map V.str)) : Dp K H (.ref p) (.list (xs.map PyData.str)) := .lst h (dpAll_strs xs)
theorem ok_tx {l : List Nat} (h : ∀ d ∈ l, d < 6) : PyData.strOk (tx l) = true := by
  show (tx l).cps.all (· < 0x110000) = true
  rw [← Array.all_toList, tx_cps, List.all_eq_true]
  intro c hc
  obtain ⟨d, hd, rfl⟩ := List.mem_map.mp hc
  have := h d hd
  exact decide_eq_true (by omega)
theorem ok_words {L K : Nat} (hK : 0 < K) (h6 : K ≤ 6) : ∀ x ∈ words L K, PyData.strOk x = true := fun x hx => by
  obtain ⟨i, _, rfl⟩ := List.mem_map.mp hx
  exact ok_tx fun d hd => by
    have := wdig_lt hK d hd
    omega
end RJ
set_option Elab.async false
set_option linter.all false
set_option maxRecDepth 100000
set_option maxHeartbeats 2000000
/-! reversed(a text) -/
namespace RJ
open PySem PySem.Spec PyProof.Rows
theorem norev_str : typeLookup (.type "str") "__reversed__" = pure none := by rw [typeLookup_type, builtinLookup_eq_fast]; kernel_rfl
theorem get_str : typeLookup (.type "str") "__getitem__" = pure (some (.builtin "str.__getitem__")) := by rw [typeLookup_type, builtinLookup_eq_fast]; kernel_rfl
theorem sub_str_dict : isSubtype (.type "str") (.type "dict") = pure false := by rw [isSubtype_type]; kernel_rfl
theorem nolen_rt : typeLookup (.type "reversed") "__len__" = pure none := by rw [typeLookup_type, builtinLookup_eq_fast]; kernel_rfl
theorem hint_rt : typeLookup (.type "reversed") "__length_hint__" = pure (some (.builtin "reversed.__length_hint__")) := by rw [typeLookup_type, builtinLookup_eq_fast]; kernel_rfl
theorem slot_rt_hint : Slot "reversed" "__length_hint__" "reversed.__length_hint__" :=
  .of (owner := "reversed") (n := "__length_hint__") (by rw [typeLookup_type, builtinLookup_eq_fast]; kernel_rfl) (by decide +kernel) (by decide +kernel) (by decide +kernel)
    (by first | exact .inl (by decide +kernel) | exact .inr (by decide +kernel)) (by rw [isSubtype_type]; kernel_rfl)
theorem entry_rt_hint : entryFor table "reversed.__length_hint__" = some Builtin.«reversed.__length_hint__» := entryFor_of_tree (by kernel_rfl)
theorem args_rt_hint (a : Value) : argsOk "reversed.__length_hint__" ⟨[a], []⟩ := by
  unfold argsOk; rw [signature?_of (id := "reversed.__length_hint__") (n := "__length_hint__".toList.reverse) (o := ['d', 'e', 's', 'r', 'e', 'v', 'e', 'r']) (by kernel_rfl) RT.owner_rt]; kernel_rfl
def rsObj (x : Str) (t : Tok) (i : Int) : Obj := { cls := .type "reversed", data := .fields #[.str x t, rawInt i] }
/-- reversed(a text), the next place i -/
def IsRs (h : Heap) (a : Addr) (x : Str) (t : Tok) (i : Int) : Prop := ∃ o, h.get? a = some o ∧ o.cls = .type "reversed" ∧ o.data = .fields #[.str x t, rawInt i]
theorem IsRs.at {h h' : Heap} {a : Addr} {x : Str} {t : Tok} {i : Int} (r : IsRs h a x t i) (e : ∀ o, h.get? a = some o → h'.get? a = some o) : IsRs h' a x t i := let ⟨o, ho, r⟩ := r; ⟨o, e _ ho, r⟩
section
variable {prog : Program} {w : World} {A : Around} {E : Value → Shared → Prop} {s : Shared}
theorem IsRs.typeIs {a : Addr} {x : Str} {t : Tok} {i : Int} (r : IsRs s.heap a x t i) : s.TypeIs (.ref a) "reversed" := let ⟨o, ho, hc, _⟩ := r; ⟨o, ho, hc⟩
theorem code_reversed_str {x : Str} {t : Tok} {Q₁ : Value → Shared → Prop} (hx : x.length ≤ 100000)
    (h : Q₁ (.ref s.heap.objs.size) { s with heap := s.heap.push (rsObj x t ((x.length : Int) - 1)), toks := s.toks + 1 + 1 }) :
    codeAny (model prog w) A (.call (.builtin "reversed.__new__") ⟨[.type "reversed", .str x t], []⟩) (wants Q₁ E) s := by
  have hT : s.TypeIs (.str x t) "str" := typeIs_str s x t
  refine codeAny_of_tree ?_
  show wpAny _ A.in1 (do checkBuiltinCall "reversed.__new__" ⟨[.type "reversed", .str x t], []⟩; again (.builtin "reversed.__new__" ⟨[.type "reversed", .str x t], []⟩)) _ _ s
  refine wpAny_bind (wpAny_of_eq (F.newCall_reversed_1 _) (wpAny_pure ⟨plainId_quiet F.plain_reversed_new _, codeAny_builtin F.entry_reversed_new ?_⟩))
  rw [Around.under_plainId F.plain_reversed_new _]
  unfold Builtin.«reversed.__new__»
  refine wpAny_bind (wpAny_of_eq (newClass_reversed _) ?_)
  try dsimp only
  refine wpAny_bind (wpAny_of_eq (a := ()) (by first | rfl | kernel_rfl) ?_)
  try dsimp only
  refine wpAny_bind (wpAny_of_eq (a := ()) (by first | rfl | kernel_rfl) ?_)
  try dsimp only
  refine wpAny_bind (wpAny_specialOf hT norev_str ?_)
  try dsimp only
  refine wpAny_bind ?_
  wp_delta
  refine wpAny_bind (wpAny_isInstance (T := "str") (U := "dict") (b := false) hT sub_str_dict ?_)
  try dsimp only
  try rw [if_neg Bool.false_ne_true]
  try dsimp only
  refine wpAny_bind (wpAny_specialOf hT get_str ?_)
  try dsimp only
  try rw [if_pos (by decide +kernel)]
  refine wpAny_pure ?_
  try dsimp only
  try rw [if_neg (by decide)]
  try dsimp only
  refine wpAny_bind (PySem.P.len_str (by omega) ?_)
  refine wpAny_bind (wpAny_of_eq (a := some ((x.length : Nat) : Int)) rfl ?_)
  try dsimp only
  refine wpAny_bind ?_
  show wpAny _ _ (newObj (.type "reversed") (.fields #[.str x t, rawInt ((x.length : Int) - 1)])) _ _ _
  refine wpAny_newObj_type ?_
  exact wpAny_pure h
theorem call_reversed_str {x : Str} {t : Tok} {Q : Value → Shared → Prop} (hx : x.length ≤ 100000)
    (h : Q (.ref s.heap.objs.size) { s with heap := s.heap.push (rsObj x t ((x.length : Int) - 1)), toks := s.toks + 1 + 1 }) : wpAny (model prog w) A (call (.type "reversed") [.str x t]) Q E s := by
  refine callType_codes (Q₁ := fun obj s₁ => s₁.TypeIs obj "reversed" ∧ Q obj s₁) RT.called_rt (F.typeCall_reversed_1 _) F.entry_object_init
    (code_reversed_str (A := A.in1) hx ⟨⟨_, Heap.get?_push_size _ rfl, rfl⟩, h⟩) fun obj s₁ h₁ => ?_
  exact ⟨h₁.1, F.args_object_init_2 obj _, object_init_meets RT.called_rt.init.lookup RT.called_rt.made (by decide) prog w A.in1 _ s₁ ⟨h₁.1, rfl, h₁.2⟩⟩
theorem next_rs_item {it : Addr} {x : Str} {t : Tok} {i c : Nat} {Q : Option Value → Shared → Prop} (hit : IsRs s.heap it x t (i : Int)) (hc : x.cps[i]? = some c) (hx : x.length ≤ 100000)
    (hQ : ∀ h' t' tk, IsRs h' it x t ((i : Int) - 1) → Heap.SameBut it s.heap h' → Q (some (.str ⟨#[c]⟩ t')) { s with heap := h', toks := tk }) : wpAny (model prog w) A (pyNext (.ref it)) Q E s := by
  obtain ⟨o, ho, hcl, hd⟩ := id hit
  have hi : i < x.length := (Array.getElem?_eq_some_iff.mp hc).1
  have hT : s.TypeIs (.str x t) "str" := typeIs_str s x t
  unfold pyNext
  refine wpAny_bind (wpAny_attempt (wpAny_callSpecial?_slot (name := Str.ofString "__next__") hit.typeIs RT.slot_rt_next
    (wpAny_call_entry RT.slot_rt_next hit.typeIs RT.entry_rt_next ?_ (RT.args_rt_next _))))
  unfold Builtin.«reversed.__next__»
  refine wpAny_bind (wpAny_of_eq (a := (Value.ref it, [])) rfl ?_)
  try dsimp only
  refine wpAny_bind (wpAny_field ho hd (x := .str x t) rfl ?_)
  try dsimp only
  refine wpAny_bind (wpAny_field ho hd (x := rawInt (i : Int)) rfl ?_)
  show wpAny _ _ (if (i : Int) < 0 then _ else _) _ _ s
  rw [if_neg (by omega)]
  try dsimp only
  refine wpAny_bind (wpAny_specialOf hT get_str ?_)
  try dsimp only
  try rw [if_neg (by decide)]
  try dsimp only
  refine wpAny_bind (wpAny_mkInt ?_)
  refine wpAny_bind (wpAny_attempt ?_)
  have fin : (seqIndex? (i : Int) x.length).bind (x.cps[·]?) = some c := by
    rw [seqIndex_of (by omega) (by omega)]
    exact hc
  refine PySem.P.getItem_str (s := { s with toks := s.toks + 1 }) (by
    rw [decide_eq_false (show ¬ ((i : Int) < -(2 ^ 63 : Int)) by omega), decide_eq_false (show ¬ ((i : Int) ≥ 2 ^ 63) by omega)]
    rfl) fin ?_
  try dsimp only
  refine wpAny_bind (wpAny_field (s := { s with toks := s.toks + 1 + 1 }) ho hd (x := rawInt (i : Int)) rfl ?_)
  try dsimp only
  refine wpAny_bind (wpAny_setField (s := { s with toks := s.toks + 1 + 1 }) ho hd (by simp) ?_)
  first
  | refine wpAny_pure ⟨_, rfl, wpAny_pure (hQ _ _ _ ?_ (Heap.SameBut.update ..))⟩
  | refine wpAny_bind (wpAny_pure (wpAny_pure ⟨_, rfl, wpAny_pure (hQ _ _ _ ?_ (Heap.SameBut.update ..))⟩))
  exact ⟨_, Heap.get?_update_self _ ho (Obj.isFreed_of_fields (Obj.data_mapFields hd _)), (Obj.cls_mapFields ..).trans hcl, by
    rw [Obj.data_mapFields hd]; simp⟩
theorem next_rs_end {it : Addr} {x : Str} {t : Tok} {Q : Option Value → Shared → Prop} (hh : A.handled = none) (hit : IsRs s.heap it x t (-1))
    (hQ : ∀ h', Heap.ExtBut it s.heap h' → Q none { s with heap := h' }) : wpAny (model prog w) A (pyNext (.ref it)) Q E s := by
  obtain ⟨o, ho, hc, hd⟩ := id hit
  unfold pyNext
  refine wpAny_bind (wpAny_attempt (wpAny_callSpecial?_slot (name := Str.ofString "__next__") hit.typeIs RT.slot_rt_next
    (wpAny_call_entry RT.slot_rt_next hit.typeIs RT.entry_rt_next ?_ (RT.args_rt_next _))))
  unfold Builtin.«reversed.__next__»
  refine wpAny_bind (wpAny_of_eq (a := (Value.ref it, [])) rfl ?_)
  try dsimp only
  refine wpAny_bind (wpAny_field ho hd (x := .str x t) rfl ?_)
  try dsimp only
  refine wpAny_bind (wpAny_field ho hd (x := rawInt (-1)) rfl ?_)
  show wpAny _ _ (if (-1 : Int) < 0 then _ else _) _ _ s
  rw [if_pos (by decide)]
  try dsimp only
  refine wpAny_bind (wpAny_rule ?_)
  refine wpAny_bind ?_
  wp_delta
  refine wpAny_bind (wpAny_setField ho hd (by simp) ?_)
  have ho2 := Heap.get?_update_self (Obj.mapFields (·.setIfInBounds 1 (rawInt (-1)))) ho (Obj.isFreed_of_fields (Obj.data_mapFields hd _))
  refine wpAny_setField (s := { s with heap := s.heap.update it (Obj.mapFields (·.setIfInBounds 1 (rawInt (-1)))) }) ho2 (Obj.data_mapFields hd _) (by simp) ?_
  try dsimp only
  first
  | show wpAny _ _ (newExc (.type "StopIteration") [] >>= _) _ _ _
  | (refine wpAny_bind ?_; show wpAny _ _ (newExc (.type "StopIteration") [] >>= _) _ _ _)
  | (refine wpAny_bind ?_; wp_delta; show wpAny _ _ (newExc (.type "StopIteration") [] >>= _) _ _ _)
  refine wpAny_bind ?_
  simp only [newExc, newTuple]
  refine wpAny_bind (wpAny_newObj_type ?_ (by size_fits))
  refine wpAny_bind (m := firstArgMember _ _) (wpAny_of_eq (a := Value.none) (by first | rfl | (simp only [firstArgMember]; rfl)) ?_)
  refine wpAny_newObj_type ?_ (by size_fits)
  simp only [raiseNew]
  refine wpAny_bind (wpAny_handled ?_)
  first | rw [show A.in1.handled = none from hh] | rw [hh]
  refine wpAny_bind (wpAny_pure (wpAny_throw ?_))
  refine wpAny_bind (wpAny_isInstance (T := "StopIteration") (b := true) ⟨_, Heap.get?_push_size _ rfl, rfl⟩ isSubtype_stop ?_)
  refine wpAny_pure (hQ _ ?_)
  refine ((?_ : Heap.ExtBut it s.heap _).push _).push _
  exact fun b ob hb e => (Heap.get?_update_other _ _ (Ne.symm hb)).trans ((Heap.get?_update_other _ _ (Ne.symm hb)).trans e)
theorem iter_rs {it : Addr} {x : Str} {t : Tok} {i : Int} {Q : Value → Shared → Prop} (hit : IsRs s.heap it x t i) (h : Q (.ref it) s) : wpAny (model prog w) A (pyIter (.ref it)) Q E s := by
  refine wpAny_pyIter_slot hit.typeIs RT.slot_rt_iter (wpAny_call_entry RT.slot_rt_iter hit.typeIs RT.entry_rt_iter ?_ (RT.args_rt_iter _))
  show wpAny _ _ (ret (.ref it)) _ _ s
  exact wpAny_pure ⟨_, rfl, "reversed", _, hit.typeIs, RT.slot_rt_next.lookup, h⟩
end
theorem walks_rs {prog : Program} {w : World} {A : Around} (hh : A.handled = none) (I : Addr) (x : Str) (t : Tok) (hx : x.length ≤ 100000) :
    Walks prog w A I [I] [I] x.length (fun i v => SignAt x (x.length - 1 - i) v) (fun i h => i ≤ x.length ∧ IsRs h I x t ((x.length : Int) - 1 - (i : Int))) where
  sub := fun b hb => hb
  frame := fun _ _ _ r hk => ⟨r.1, r.2.at fun o e => hk I (by simp) o e⟩
  item := fun i s Q E hi r hQ => by
    have e : (x.length : Int) - 1 - (i : Int) = ((x.length - 1 - i : Nat) : Int) := by omega
    have hit := r.2
    rw [e] at hit
    have hlt : x.length - 1 - i < x.cps.size := by
      show x.length - 1 - i < x.length
      omega
    have hc : x.cps[x.length - 1 - i]? = some (x.cps[x.length - 1 - i]'hlt) := Array.getElem?_eq_getElem hlt
    refine next_rs_item hit hc hx fun h' t' tk hit' hs' => ?_
    have e2 : ((x.length - 1 - i : Nat) : Int) - 1 = (x.length : Int) - 1 - ((i + 1 : Nat) : Int) := by omega
    rw [e2] at hit'
    exact hQ _ h' tk ⟨_, _, hc, rfl⟩ ⟨hi, hit'⟩ fun b o hb eo => hs'.extBut b o (fun h => hb (by simp [h])) eo
  done := fun s Q E r hQ => by
    have e : (x.length : Int) - 1 - (x.length : Int) = -1 := by omega
    have hit := r.2
    rw [e] at hit
    exact next_rs_end hh hit fun h' he' => hQ h' s.toks fun b o hb eo => he' b o (fun h => hb (by simp [h])) eo
  self := fun _ _ _ _ r hQ => iter_rs r.2 hQ
section
variable {prog : Program} {w : World} {A : Around} {E : Value → Shared → Prop} {s : Shared}
theorem call_rs_hint {it : Addr} {x : Str} {t : Tok} {Q : Value → Shared → Prop} (hx : x.length ≤ 100000) (hit : IsRs s.heap it x t ((x.length : Int) - 1))
    (hQ : ∀ u k, Q (.int x.length u) { s with toks := k }) : wpAny (model prog w) A (call (.builtin "reversed.__length_hint__") [.ref it]) Q E s := by
  obtain ⟨o, ho, hc, hd⟩ := id hit
  refine wpAny_call_entry slot_rt_hint hit.typeIs entry_rt_hint ?_ (args_rt_hint _)
  unfold Builtin.«reversed.__length_hint__»
  refine wpAny_bind (wpAny_of_eq (a := Value.ref it) rfl ?_)
  try dsimp only
  refine wpAny_bind (wpAny_field ho hd (x := .str x t) rfl ?_)
  try dsimp only
  rw [if_neg (show ¬ ((Value.str x t == Value.none) = true) from Bool.false_ne_true)]
  refine wpAny_bind (PySem.P.len_str (by omega) ?_)
  refine wpAny_bind (wpAny_of_eq (a := some ((x.length : Nat) : Int)) rfl ?_)
  try dsimp only
  refine wpAny_bind (wpAny_field (s := { s with toks := s.toks + 1 + 1 }) ho hd (x := rawInt ((x.length : Int) - 1)) rfl ?_)
  show wpAny _ _ (if (x.length : Int) < (x.length : Int) - 1 + 1 then _ else _) _ _ _
  rw [if_neg (by omega)]
  have e : (x.length : Int) - 1 + 1 = (x.length : Int) := by omega
  rw [e]
  show wpAny _ _ (mkInt (x.length : Int) >>= _) _ _ _
  refine wpAny_bind (wpAny_mkInt ?_)
  exact wpAny_pure ⟨_, rfl, hQ _ _⟩
theorem collect_rs {it : Addr} {x : Str} {t : Tok} {Q : List Value → Shared → Prop} (hh : A.handled = none) (hx : x.length ≤ 100000) (hit : IsRs s.heap it x t ((x.length : Int) - 1))
    (hQ : ∀ (h' : Heap) (tk : Nat) (acc : Array Value), (∀ b o, b ≠ it → s.heap.get? b = some o → h'.get? b = some o) → ItemsOf (fun i v => SignAt x (x.length - 1 - i) v) acc x.length → Q acc.toList { s with heap := h', toks := tk }) :
    wpAny (model prog w) A (collect (.ref it)) Q E s := by
  have hn : x.length ≤ sizeLine := Nat.le_trans hx (by decide)
  have W := (walks_rs (prog := prog) (w := w) (A := A.in1) hh it x t hx).toS
  obtain ⟨oi, hoi, _⟩ := id hit
  have hSi : s.heap.objs.size ≠ it := Nat.ne_of_gt (Heap.lt_size hoi)
  have hSf : s.heap.objs.size ∉ [it] := fun hm => hSi (List.mem_singleton.mp hm)
  unfold collect
  refine wpAny_bind (wpAny_runValue (codeAny_builtin F.entry_proto_collect ?_))
  rw [Around.under_plainId F.plain_proto_collect _]
  show wpAny _ A.in1 (newList [] >>= fun l' => again (.builtin "list.__iadd__" ⟨[l', .ref it], []⟩)) _ _ s
  refine wpAny_bind (wpAny_newObj_type ?_)
  refine wpAny_pure ⟨plainId_quiet F.plain_list_iadd _, codeAny_builtin F.entry_list_iadd ?_⟩
  rw [Around.under_plainId F.plain_list_iadd _]
  have hS₁ : (s.heap.push { cls := .type "list", data := .seq ([] : List Value).toArray }).get? s.heap.objs.size = some { cls := .type "list", data := .seq ([] : List Value).toArray } := Heap.get?_push_size _ rfl
  have hit1 : IsRs (s.heap.push { cls := .type "list", data := .seq ([] : List Value).toArray }) it x t ((x.length : Int) - 1) := hit.at fun o e => Heap.get?_push_of_some _ e
  generalize hH : s.heap.push { cls := .type "list", data := .seq ([] : List Value).toArray } = h1 at hS₁ hit1 ⊢
  have hT : ∀ k, ({ s with heap := h1, toks := k } : Shared).TypeIs (.ref it) "reversed" := fun k => IsRs.typeIs (s := { s with heap := h1, toks := k }) hit1
  have hl1 : Builtin.List.listSameRef (.ref s.heap.objs.size) (.ref it) = false := by simp [Builtin.List.listSameRef, hSi]
  show wpAny _ A.in1 (Builtin.List.listExtendWith (.ref s.heap.objs.size) (.ref it) (.ref s.heap.objs.size)) _ _ _
  unfold Builtin.List.listExtendWith
  refine wpAny_bind (wpAny_typeOf (hT s.toks) ?_)
  rw [if_neg (by rw [hl1]; decide)]
  refine wpAny_bind (iter_rs (s := { s with heap := h1 }) hit1 ?_)
  refine wpAny_bind (wpAny_holding ?_)
  unfold Builtin.List.listLengthHint
  refine wpAny_bind (wpAny_specialOf (hT s.toks) nolen_rt ?_)
  show wpAny _ A.in1 (specialOf (Value.ref it) (Str.ofString "__length_hint__") >>= _) _ _ _
  refine wpAny_bind (wpAny_specialOf (hT s.toks) hint_rt ?_)
  generalize hid : ("reversed.__length_hint__" : String) = id0
  wp_delta
  rw [show splitId id0 = some ("reversed", "__length_hint__") from by subst hid; decide +kernel]
  subst hid
  refine wpAny_bind (wpAny_isInstance (b := true) (hT s.toks) (by rw [isSubtype_type]; kernel_rfl) ?_)
  rw [if_neg (by decide)]
  try dsimp only
  rw [if_neg (by decide +kernel)]
  refine wpAny_bind (wpAny_rule ?_)
  refine wpAny_bind (wpAny_of_eq (slot_rt_hint.bind _) ?_)
  try dsimp only
  refine wpAny_bind (wpAny_attempt (call_rs_hint (s := { s with heap := h1 }) hx hit1 fun u k => ?_))
  try dsimp only
  have ea : asInt? (Value.int (x.length : Int) u) = pure (some (x.length : Int)) := rfl
  refine wpAny_bind ?_
  rw [ea]
  refine wpAny_pure ?_
  dsimp only
  have f1 : Builtin.List.listFitsIndex (x.length : Int) = true := by
    unfold Builtin.List.listFitsIndex
    rw [Bool.and_eq_true, decide_eq_true_iff, decide_eq_true_iff]
    omega
  have f2 : Builtin.List.listTooLong (x.length : Int).toNat = false := by
    unfold Builtin.List.listTooLong
    rw [Int.toNat_natCast]
    exact decide_eq_false (by omega)
  show wpAny _ _ (if (!Builtin.List.listFitsIndex (x.length : Int)) = true then _ else _) _ _ _
  rw [if_neg (by rw [f1]; exact Bool.false_ne_true)]
  show wpAny _ _ (if (x.length : Int) < 0 then _ else _) _ _ _
  rw [if_neg (by omega)]
  show wpAny _ _ (if Builtin.List.listTooLong (x.length : Int).toNat = true then _ else _) _ _ _
  rw [if_neg (by rw [f2]; exact Bool.false_ne_true)]
  refine wpAny_pure ?_
  have hlt1 : ∀ b o, s.heap.get? b = some o → b ≠ s.heap.objs.size := fun b o e => Nat.ne_of_lt (Heap.lt_size e)
  have h1o : ∀ b o, s.heap.get? b = some o → h1.get? b = some o := fun b o e => by
    rw [← hH]
    exact Heap.get?_push_of_some _ e
  have fin : ∀ (h2 : Heap) (c₁ : Nat), (∀ b o, b ≠ s.heap.objs.size → h1.get? b = some o → h2.get? b = some o) → h2.get? s.heap.objs.size = some { cls := .type "list", data := .seq #[] c₁ } →
      wpAny (model prog w) A.in1 (again (.builtin "list.extend.loop" ⟨[.ref s.heap.objs.size, .ref it, .ref s.heap.objs.size], []⟩) : Sem Fin) (fun fin s' =>
          match fin with
          | Fin.done f =>
            match (Except.ok f : Result) with
            | Except.ok (Flow.ret v) =>
              wpAny (model prog w) A
                (match v with
                | Value.ref a => do
                  let __do_lift ← load a
                  match __do_lift.data with
                    | Data.seq xs epoch => pure xs.toList
                    | x => unsupported "internal:collect"
                | x => unsupported "internal:collect")
                Q E s'
            | Except.ok a => False
            | Except.error e => E e s'
          | Fin.again c' =>
            c'.quiet = true ∧
              codeAny (model prog w) A c'
                (fun r s' =>
                  match r with
                  | Except.ok (Flow.ret v) =>
                    wpAny (model prog w) A
                      (match v with
                      | Value.ref a => do
                        let __do_lift ← load a
                        match __do_lift.data with
                          | Data.seq xs epoch => pure xs.toList
                          | x => unsupported "internal:collect"
                      | x => unsupported "internal:collect")
                      Q E s'
                  | Except.ok a => False
                  | Except.error e => E e s')
                s') (fun e s' => E e s') { s with heap := h2, toks := k } := by
    intro h2 c₁ hk hS₂
    have hst : IsRs h2 it x t ((x.length : Int) - 1 - ((0 : Nat) : Int)) := by
      have e0 : (x.length : Int) - 1 - ((0 : Nat) : Int) = (x.length : Int) - 1 := by omega
      rw [e0]
      exact hit1.at fun o e => hk it o hSi.symm e
    refine wpAny_pure ⟨plainId_quiet F.plain_extend_loop _, codeAny_extend_loopS W hn _ hSf _ x.length 0 _ _ _ rfl (Nat.zero_le _) ⟨Nat.zero_le _, hst⟩ hS₂ (ItemsOf.nil _) fun s' acc' c' hm hS' hacc => ?_⟩
    show wpAny _ A (load s.heap.objs.size >>= _) _ _ s'
    refine wpAny_bind (wpAny_load hS' ?_)
    refine wpAny_pure ?_
    rw [Moved.eq_with hm]
    refine hQ s'.heap s'.toks acc' (fun b o hb e => hm.heap b o (fun hmem => ?_) (hk b o (hlt1 b o e) (h1o b o e))) hacc
    rcases List.mem_cons.mp hmem with e' | hmem
    · exact hlt1 b o e e'
    · exact hb (List.mem_singleton.mp hmem)
  refine wpAny_ite_split (fun _ => ?_) (fun _ => fin h1 _ (fun _ _ _ e => e) hS₁)
  refine wpAny_bind (wpAny_rule ?_)
  refine wpAny_bind ?_
  show wpAny _ _ (updateSeq s.heap.objs.size (·.push .none) >>= fun _ => updateSeq s.heap.objs.size (·.pop)) _ _ _
  have z1 : 1 ≤ sizeLine := by decide
  refine wpAny_bind (wpAny_updateSeq (s := { s with heap := h1, toks := k }) hS₁ rfl ?_ (Nat.zero_le _) (Nat.le_succ_of_le z1))
  have hS₂ := Heap.get?_update_self (Obj.mapSeq (·.push Value.none)) hS₁ rfl
  refine wpAny_updateSeq hS₂ rfl ?_ z1 (Nat.zero_le _)
  have hS₃ := Heap.get?_update_self (Obj.mapSeq (·.pop)) hS₂ rfl
  exact fin _ _ (fun b o hb e => (Heap.get?_update_other _ _ (Ne.symm hb)).trans ((Heap.get?_update_other _ _ (Ne.symm hb)).trans e)) hS₃
end
end RJ
set_option Elab.async false
set_option linter.all false
set_option maxRecDepth 100000
set_option maxHeartbeats 2000000
namespace RJ
open PySem PySem.Spec PyProof.Rows L2
section
variable {prog : Program} {w : World} {A : Around} {E : Value → Shared → Prop} {s : Shared}
theorem join_rs {x z : Str} {t t2 : Tok} {it : Addr} {Q : Value → Shared → Prop} (hh : A.handled = none) (hz : z.length ≤ 100000) (hit : IsRs s.heap it z t2 ((z.length : Int) - 1))
    (hok : ((signs z).map (·.length)).sum + (signs z).length * x.length ≤ 16777216)
    (hq : ∀ h' t' k, (∀ b o, b ≠ it → s.heap.get? b = some o → h'.get? b = some o) → Q (.str (Txt.join x (signs z).reverse) t') { s with heap := h', toks := k }) :
    wpAny (model prog w) A (call (.builtin "str.join") [.str x t, .ref it]) Q E s := by
  refine wpAny_call (codeAny_call_builtin F.slot_str_join.plain F.entry_str_join (F.slot_str_join.check _ _ _ _ _ _ _ _ (typeIs_str _ _ _) (F.args_str_join_2 _ _) ?_))
  rw [join_tree_other]
  refine wpAny_bind (wpAny_typeOf (T := "reversed") hit.typeIs ?_)
  show wpAny _ A.in1 ((pyIter (.ref it)).tryCatch _ >>= fun it => collect it >>= fun items => joinTail x items) _ _ s
  refine wpAny_bind (wpAny_tryCatch (iter_rs hit ?_))
  refine wpAny_bind (collect_rs (A := A.in1) hh hz hit fun h' tk acc hk hacc => ?_)
  have hS2 : StrsAre acc.toList (signs z).reverse := by
    have h0 : ItemsOf (SignAt z) acc.reverse z.cps.size := by
      obtain ⟨h1, h2⟩ := hacc
      have e0 : z.cps.size = z.length := rfl
      refine ⟨by rw [Array.size_reverse, h1, e0], fun i v hv => ?_⟩
      have hi : i < acc.size := by
        have := (Array.getElem?_eq_some_iff.mp hv).1
        rwa [Array.size_reverse] at this
      rw [Array.getElem?_reverse hi] at hv
      have h3 : SignAt z (z.length - 1 - (acc.size - 1 - i)) v := h2 _ _ hv
      rw [show z.length - 1 - (acc.size - 1 - i) = i by omega] at h3
      exact h3
    have h1 := strs_rev (strsAre_signs h0)
    rw [Array.toList_reverse, List.reverse_reverse] at h1
    exact h1
  obtain ⟨l2, hl2, ht2, g, hf⟩ := join_fit hS2 (x := x) (by
    rw [List.map_reverse, List.sum_reverse, List.length_reverse]
    exact hok)
  rw [hl2]
  exact g prog w A (wants Q E) _ (post_join l2 ⟨joinFit_length hf, fun t' k => by rw [ht2]; exact hq h' t' k hk⟩)
end
/-- sep.join(reversed(e)), e a list of texts or a text -/
def tJoinRev (K : PySem.W.Frag) (to : TE) (ta : TA) : TE := fun σ H Q => to σ H fun x H1 => (∃ a, x = .str a) ∧ ta σ H1 fun vs H2 => ∃ a, x = .str a ∧
  ((∃ (p : Addr) (ys : List Str), vs = [.ref p] ∧ SqL K H2 p (ys.map V.str) ∧ (ys.map (·.length)).sum + ys.length * a.length ≤ 16777216 ∧ Q (.str (Txt.join a ys.reverse)) H2) ∨
   (∃ z : Str, vs = [.str z] ∧ z.length ≤ 100000 ∧ ((signs z).map (·.length)).sum + (signs z).length * a.length ≤ 16777216 ∧ Q (.str (Txt.join a (signs z).reverse)) H2))
theorem pe_joinRev {X : Cx} {o e : Expr} {to : TE} {ta : TA} {apos pos p pos2 : Pos} (hc : X.calm = true) (ho : PE X o to) (hg : Gl X "reversed") (hm : X.mg "reversed" = none) (ha : PA X [e] ta)
    (hs1 : starEach [.Call (.Name "reversed" p) [e] [] pos2] X.env = [(false, eval (.Call (.Name "reversed" p) [e] [] pos2) X.env)] := by rfl)
    (hs : starEach [e] X.env = [(false, eval e X.env)] := by rfl)
    (hbase : attributeBase o "join" X.env (eval o X.env) = eval o X.env := by rfl) (hline : (apos.endLine == pos.line) = true := by rfl) :
    PE X (.Call (.Attribute o "join" apos) [.Call (.Name "reversed" p) [e] [] pos2] [] pos) (tJoinRev X.K to ta) := by
  refine ⟨fun pins s σ H Q I h => ?_⟩
  refine PySem.Call_method1 hbase hs1 hline (thn (ho.run pins s σ H _ I h) fun v s1 ⟨x, H1, I1, r1, q1⟩ => ?_)
  obtain ⟨⟨a, rfl⟩, q1⟩ := q1
  obtain ⟨t, rfl⟩ := _root_.id r1
  refine ⟨"str", _, F.plainAttrs_str, F.slot_str_join, F.type_str_join, typeIs_str _ _ _, (fun _ e => nomatch e), Calls.callWith_builtin rfl (Calls.evalArgs_plain (Calls.spliced_cons ?_))⟩
  refine Call_ (ld_blt I1 hg hm PyProof.Rows.boot_reversed (PyProof.Rows.callWith_type1 (thn (ha.run pos2 pins s1 σ H1 _ I1 q1) fun us s3 ⟨vs, H2, I3, r3, q3⟩ => ?_) hs rfl))
  obtain ⟨a', ea, q3⟩ := q3
  cases ea
  rcases q3 with ⟨q, ys, rfl, hq, hz, q3⟩ | ⟨z, rfl, hzl, hz, q3⟩
  · cases r3 with
    | cons r rr =>
      cases rr
      cases r
      obtain ⟨its, rv, pl, hsz⟩ := I3.list hq
      have hlen : its.length = (ys.map V.str).length := rv.length.symm
      have hlt : q < s3.heap.objs.size := by
        obtain ⟨o, n, ho, _⟩ := pl
        exact Heap.lt_size ho
      refine call_reversed_list pl.isList (Calls.spliced_nil ?_)
      refine join_rev (items := its.toArray) (l := q) (I3.ok.hd hc) ⟨_, Heap.get?_push_size _ rfl, rfl, rfl⟩ (pl.isList.push _) (Nat.ne_of_lt hlt) (by simp only [List.size_toArray]; omega) (by simpa using rv.strs) hz fun h' t' k hk => ?_
      exact ⟨.str _, H2, I3.kept (t' := k) fun b o e => hk b o (Nat.ne_of_lt (Heap.lt_size e)) (Heap.get?_push_of_some _ e), ⟨t', rfl⟩, q3⟩
  · cases r3 with
    | cons r rr =>
      cases rr
      obtain ⟨t2, rfl⟩ := r
      refine call_reversed_str hzl (Calls.spliced_nil ?_)
      refine join_rs (z := z) (t2 := t2) (I3.ok.hd hc) hzl ⟨_, Heap.get?_push_size _ rfl, rfl, rfl⟩ hz fun h' t' k hk => ?_
      exact ⟨.str _, H2, I3.kept (t' := k) fun b o e => hk b o (Nat.ne_of_lt (Heap.lt_size e)) (Heap.get?_push_of_some _ e), ⟨t', rfl⟩, q3⟩
/-! zip(a list, a text) of one length -/
def ItzLS (K : PySem.W.Frag) (a : Addr) (z : Str) : It :=
  ⟨fun i H => ∃ (xs : List V) (x : V), SqL K H a xs ∧ xs[i]? = some x ∧ i < z.cps.size,
    fun i H v H' => ∃ T x c, v = .ref T ∧ H T = none ∧ H' = upd H T (.tup [x, .str ⟨#[c]⟩]) ∧ (∀ xs, SqL K H a xs → xs[i]? = some x) ∧ z.cps[i]? = some c,
    fun i H => ∃ xs : List V, SqL K H a xs ∧ xs.length = i ∧ z.cps.size = i⟩
theorem turn_zipLS {P : Program} {w : World} {K : PySem.W.Frag} {elts : List Expr} {kk : Nat} {tpos : Pos} {a zz TI TO i1 i2 : Addr} {x : Str} {t : Tok} (hne : a ≠ i1) (D : ZipSep2 zz TI TO i1 i2 [i1, a] [i2]) :
    Turn P w K (.Tuple elts kk tpos) (ItzLS K a x) [zz, TI, TO, i1, i2] zz (fun i h => IsZip h zz TI TO .none ∧ IsTupOf2 h TI (.ref i1) (.ref i2) ∧ (∃ x y, IsTupOf2 h TO x y) ∧ h.IsListIter i1 a i ∧ h.IsStrIter i2 (strIterType x) x t i) where
  mem := by simp
  obj := fun i h st c hc => by
    obtain ⟨hz, hTI, ⟨x0, y0, hTO⟩, ⟨o1, e1, _, d1⟩, ⟨o2, e2, _, d2⟩⟩ := st
    have e' : c = zz ∨ c = TI ∨ c = TO ∨ c = i1 ∨ c = i2 := by simpa using hc
    rcases e' with q | q | q | q | q
    · rw [q]; exact ⟨_, hz, fun v q => nomatch q⟩
    · rw [q]; exact ⟨_, hTI, fun v q => nomatch q⟩
    · rw [q]; exact ⟨_, hTO, fun v q => nomatch q⟩
    · rw [q]; exact ⟨o1, e1, fun v q => by rw [d1] at q; cases q⟩
    · rw [q]; exact ⟨o2, e2, fun v q => by rw [d2] at q; cases q⟩
  keep := fun i h h' st k => by
    obtain ⟨hz, hTI, ⟨x0, y0, hTO⟩, h1, ⟨o2, e2, r2⟩⟩ := st
    exact ⟨k zz (by simp) _ hz, k TI (by simp) _ hTI, ⟨x0, y0, k TO (by simp) _ hTO⟩, h1.at fun o q => k i1 (by simp) o q, ⟨o2, k i2 (by simp) _ e2, r2⟩⟩
  item := by
    intro X hP hw hK hc i pins s σ H E I hf st hg
    subst hP hw hK
    obtain ⟨hz, hTI, ⟨x0, y0, hTO⟩, h1, h2⟩ := st
    obtain ⟨xs, y, hqx, hx, hi2⟩ := hg
    obtain ⟨its, rv, p, _⟩ := I.list hqx
    obtain ⟨u, hu, ru⟩ := rv.get hx
    have hzl : zz < s.heap.objs.size := Heap.lt_size hz
    have hi1 : i < its.toArray.size := by
      have := (List.getElem?_eq_some_iff.mp hu).1
      simpa using this
    refine wpAny_pyNext_zipD2_item D (Draws.list (A := X.A.in1) (I.ok.hd hc) i1 a hne its.toArray) (Draws.text (A := X.A.in1) (I.ok.hd hc) i2 x t) hz hTI hTO ⟨h1, p.isList⟩ h2 hi1 hi2 fun x1 x2 h' tk y1 y2 z' TO' h1' h2' hT hsz hk => ?_
    obtain ⟨c, t2, hc2, rfl⟩ := y2
    have eu : u = x1 := by
      have y1' : its[i]? = some x1 := by simpa using y1
      exact Option.some.inj (hu.symm.trans y1')
    subst eu
    refine ⟨_, rfl, wpAny_letOwnedTupleGo_zip (s := { s with heap := h', toks := tk }) z' fun h'' z'' sb => ?_⟩
    have hT2 : h''.get? s.heap.objs.size = some { cls := .type "tuple", data := .seq #[u, .str ⟨#[c]⟩ t2] } := (sb.2 _ (Nat.ne_of_gt hzl)).trans hT
    have new : ObjOk X.prog X.w (upd H s.heap.objs.size (.tup [y, .str ⟨#[c]⟩])) h'' s.heap.objs.size (.tup [y, .str ⟨#[c]⟩]) :=
      ⟨by show 2 ≤ sizeLine; decide, [u, .str ⟨#[c]⟩ t2], .cons ru (.cons ⟨t2, rfl⟩ .nil), ⟨_, hT2, rfl, _, rfl⟩⟩
    have I1 : Inv X pins σ (upd H s.heap.objs.size (.tup [y, .str ⟨#[c]⟩])) { s with heap := h'', toks := tk } :=
      I.turnedNew (t' := tk) (ch := [zz, TI, TO, i1, i2]) (fun c o hb q => (sb.2 c (fun q' => hb (by simp [q']))).trans (hk c o (fun q' => hb (by simp [q'])) (fun q' => hb (by simp [q'])) (fun q' => hb (by simp [q'])) (fun q' => hb (by simp [q'])) q)) hf (Nat.le_refl _) new
    have i1z : i1 ≠ zz := D.zi1.symm
    have i2z : i2 ≠ zz := D.zi2.symm
    refine ⟨.ref s.heap.objs.size, _, I1, rfl, ⟨_, y, c, rfl, I.hok.fresh (Nat.le_refl _), rfl, fun l hl => by rw [I.list_inj hl hqx]; exact hx, hc2⟩, ⟨z'', ?_, ⟨u, .str ⟨#[c]⟩ t2, ?_⟩, ?_, ?_⟩, fun c hcm => ?_⟩
    · exact (sb.2 _ D.TIz).trans (hk _ _ D.TIz D.TITO D.TIi1 D.TIi2 hTI)
    · exact (sb.2 _ D.TOz).trans TO'
    · exact h1'.1.at fun o q => (sb.2 _ i1z).trans q
    · obtain ⟨o2, e2, r2⟩ := h2'
      exact ⟨o2, (sb.2 _ i2z).trans e2, r2⟩
    · have hlt : c < s.heap.objs.size := by
        have e' : c = zz ∨ c = TI ∨ c = TO ∨ c = i1 ∨ c = i2 := by simpa using hcm
        rcases e' with q | q | q | q | q
        · rw [q]; exact hzl
        · rw [q]; exact Heap.lt_size hTI
        · rw [q]; exact Heap.lt_size hTO
        · rw [q]; obtain ⟨_, e1, _⟩ := h1; exact Heap.lt_size e1
        · rw [q]; obtain ⟨_, e2, _⟩ := h2; exact Heap.lt_size e2
      rw [upd_ne (Nat.ne_of_lt hlt)]
      exact (hf c hcm).1
  done := by
    intro X hP hw hK hc i pins s σ H E I hf st hg
    subst hP hw hK
    obtain ⟨hz, hTI, ⟨x0, y0, hTO⟩, h1, h2⟩ := st
    obtain ⟨xs, hqx, hl, hi2⟩ := hg
    obtain ⟨its, rv, p, _⟩ := I.list hqx
    have l1 := rv.length
    have hi1 : its.toArray.size = i := by simp only [List.size_toArray]; omega
    exact wpAny_pyNext_zipD2_end D (Draws.list (A := X.A.in1) (I.ok.hd hc) i1 a hne its.toArray) (Draws.text (A := X.A.in1) (I.ok.hd hc) i2 x t) hz hTI hTO ⟨h1, p.isList⟩ h2 (by omega) (by omega) (.inl hi1.symm) fun h' tk hk => ⟨rfl, I.turnedL (t' := tk) (ch := [zz, TI, TO, i1, i2]) (fun c o hb q =>
      hk c o (fun q' => hb (by simp [q'])) (fun q' => hb (by simp [q'])) (fun q' => hb (by simp [q'])) (fun q' => hb (by simp [q'])) q) hf⟩
  self := fun A i s Q E st h => wpAny_pyIter_zip st.1 h
def iZipLS (K : PySem.W.Frag) (ta : TA) : TI := fun σ H R => ta σ H fun vs H1 => ∃ (a : Addr) (xs : List V) (x : Str), vs = [.ref a, .str x] ∧ SqL K H1 a xs ∧ R (ItzLS K a x) H1
theorem pi_zipLS {X : Cx} {e e2 : Expr} {ta : TA} {p pos tpos : Pos} {elts : List Expr} {kk : Nat} (hg : Gl X "zip") (hm : X.mg "zip" = none) (ha : PA X [e, e2] ta)
    (hs : starEach [e, e2] X.env = (false, eval e X.env) :: starEach [e2] X.env := by rfl) (hpl : (backTo pos (starEach [e2] X.env)).any (·.1) = false := by rfl) :
    PI X (.Tuple elts kk tpos) (.Call (.Name "zip" p) [e, e2] [] pos) (iZipLS X.K ta) := by
  refine ⟨fun pins s σ H R I h => ?_⟩
  refine Call_ (ld_blt I hg hm PyProof.Rows.boot_zip (PyProof.Rows.callWith_type1 (thn (ha.run pos pins s σ H _ I h) fun us s1 ⟨vs, H1, I1, r1, q1⟩ => ?_) hs hpl))
  obtain ⟨a, xs, x, ex, hqx, q⟩ := q1
  subst ex
  cases r1 with
  | cons r rr =>
    cases rr with
    | cons r' rr =>
      cases rr
      cases r
      obtain ⟨t, rfl⟩ := r'
      obtain ⟨its, rv, p1, _⟩ := I1.list hqx
      have la : a < s1.heap.objs.size := by
        obtain ⟨o, n, ho, _⟩ := p1
        exact Heap.lt_size ho
      refine zip_begins2 (begins_list a its.toArray) (begins_text x t) p1.isList trivial fun h' hz hTI hTO h1 h2 hsz hk => wpAny_pyIter_zip hz ?_
      have I2 : Inv X pins σ H1 { s1 with heap := h' } := I1.kept (t' := s1.toks) hk
      have sep := zip_sep2 (N := s1.heap.objs.size) (fp1 := [a]) (fp2 := []) (fun b hb => by rw [List.mem_singleton.mp hb]; exact la) (fun b hb => nomatch hb)
      refine ⟨s1.heap.objs.size + 4, [s1.heap.objs.size + 4, s1.heap.objs.size + 2, s1.heap.objs.size + 3, s1.heap.objs.size, s1.heap.objs.size + 1], _, _, H1, rfl, I2, turn_zipLS (x := x) (t := t) (Nat.ne_of_lt la) sep, ⟨hz, hTI, ⟨_, _, hTO⟩, ⟨_, h1, rfl, rfl⟩, ⟨_, h2, rfl, rfl⟩⟩, fun c hcm => ?_, q⟩
      have e' : c = s1.heap.objs.size + 4 ∨ c = s1.heap.objs.size + 2 ∨ c = s1.heap.objs.size + 3 ∨ c = s1.heap.objs.size ∨ c = s1.heap.objs.size + 1 := by simpa using hcm
      have hle : s1.heap.objs.size ≤ c := by
        rcases e' with z | z | z | z | z
        · rw [z]; exact Nat.le_add_right _ _
        · rw [z]; exact Nat.le_add_right _ _
        · rw [z]; exact Nat.le_add_right _ _
        · rw [z]; exact Nat.le_refl _
        · rw [z]; exact Nat.le_add_right _ _
      exact I1.fpOk hle (I1.hok.fresh hle)
/-- a walk over zip of a list and a text of one length -/
theorem walk_zipLS {K : PySem.W.Frag} {a : Addr} {xs : List V} {z : Str} (hl : xs.length = z.cps.size) : Walk (ItzLS K a z) xs.length (fun H => SqL K H a xs)
    (fun i H v H' => ∃ T x c, v = .ref T ∧ H T = none ∧ H' = upd H T (.tup [x, .str ⟨#[c]⟩]) ∧ xs[i]? = some x ∧ z.cps[i]? = some c) :=
  ⟨fun i _ hi q => ⟨xs, xs[i], q, by simp [hi], by omega⟩, fun _ q => ⟨xs, q, rfl, hl.symm⟩, fun _ _ _ _ _ q y => by
    obtain ⟨T, x, c, h1, h2, h3, h4, h5⟩ := y
    exact ⟨T, x, c, h1, h2, h3, h4 xs q, h5⟩⟩
end RJ
set_option Elab.async false
set_option linter.all false
set_option maxRecDepth 100000
set_option maxHeartbeats 4000000
namespace RJ
open PySem PySem.Spec PyProof.Rows L2

def top (i : Nat) : Stmt := PySem.Challenge.pw_onceround_k50_whole_rounds_joined.main.body.getD i (.Pass ⟨0, 0, 0, 0⟩)
abbrev s_letters : Stmt := top 13
abbrev s_looked : Stmt := top 14
abbrev s_number_of : Stmt := top 15
abbrev s_count_of : Stmt := top 16
abbrev s_word_of : Stmt := top 17
abbrev s_all_words : Stmt := top 18
abbrev s_windows : Stmt := top 19
abbrev s_word_count : Stmt := top 22
abbrev s_size_asked : Stmt := top 26
abbrev s_has_letters : Stmt := top 27
abbrev s_init : Stmt := inClass (top 28) 0
abbrev s_word_asked : Stmt := top 29
abbrev s_next_word : Stmt := top 30
abbrev s_partners : Stmt := top 31
abbrev s_is_fair : Stmt := top 32
abbrev s_put_at : Stmt := top 33
abbrev s_exchanged : Stmt := top 34
abbrev s_made_of : Stmt := top 35
abbrev s_fair_asked : Stmt := top 37
abbrev s_words_from : Stmt := top 38
abbrev s_round_told : Stmt := top 39
abbrev s_rounds : Stmt := top 40
abbrev s_joined : Stmt := top 41
abbrev s_law_power : Stmt := top 43
abbrev s_law_stir : Stmt := top 44
abbrev s_law_folded : Stmt := top 45
abbrev s_law_size : Stmt := top 46
abbrev s_law_words : Stmt := top 47
abbrev s_law_fair : Stmt := top 48
abbrev s_law_behind : Stmt := top 49
abbrev s_law_rounds : Stmt := top 50
abbrev s_law_same_round : Stmt := top 51
abbrev s_law_pairs : Stmt := top 52
abbrev s_law_joined : Stmt := top 53
abbrev s_law_slips : Stmt := top 54
abbrev s_law_made : Stmt := top 55
abbrev s_law_slips_right : Stmt := top 56
abbrev s_law : Stmt := top 57
def d_letters : He.DefD := ⟨("letters", none), "letters", "letters", defArgs s_letters, defBody s_letters, defScope s_letters, [], []⟩
def d_looked : He.DefD := ⟨("looked", none), "looked", "looked", defArgs s_looked, defBody s_looked, defScope s_looked, [], []⟩
def d_number_of : He.DefD := ⟨("number_of", none), "number_of", "number_of", defArgs s_number_of, defBody s_number_of, defScope s_number_of, [], []⟩
def d_count_of : He.DefD := ⟨("count_of", none), "count_of", "count_of", defArgs s_count_of, defBody s_count_of, defScope s_count_of, [], []⟩
def d_word_of : He.DefD := ⟨("word_of", none), "word_of", "word_of", defArgs s_word_of, defBody s_word_of, defScope s_word_of, [], []⟩
def d_all_words : He.DefD := ⟨("all_words", none), "all_words", "all_words", defArgs s_all_words, defBody s_all_words, defScope s_all_words, [], []⟩
def d_windows : He.DefD := ⟨("windows", none), "windows", "windows", defArgs s_windows, defBody s_windows, defScope s_windows, [], []⟩
def d_word_count : He.DefD := ⟨("word_count", none), "word_count", "word_count", defArgs s_word_count, defBody s_word_count, defScope s_word_count, [], []⟩
def d_size_asked : He.DefD := ⟨("size_asked", none), "size_asked", "size_asked", defArgs s_size_asked, defBody s_size_asked, defScope s_size_asked, [], []⟩
def d_has_letters : He.DefD := ⟨("has_letters", none), "has_letters", "has_letters", defArgs s_has_letters, defBody s_has_letters, defScope s_has_letters, [], []⟩
def d_init : He.DefD := ⟨("Rule", some "__init__"), "__init__", "Rule.__init__", defArgs s_init, defBody s_init, defScope s_init, [], []⟩
def d_word_asked : He.DefD := ⟨("word_asked", none), "word_asked", "word_asked", defArgs s_word_asked, defBody s_word_asked, defScope s_word_asked, [], []⟩
def d_next_word : He.DefD := ⟨("next_word", none), "next_word", "next_word", defArgs s_next_word, defBody s_next_word, defScope s_next_word, [], []⟩
def d_partners : He.DefD := ⟨("partners", none), "partners", "partners", defArgs s_partners, defBody s_partners, defScope s_partners, [], []⟩
def d_is_fair : He.DefD := ⟨("is_fair", none), "is_fair", "is_fair", defArgs s_is_fair, defBody s_is_fair, defScope s_is_fair, [], []⟩
def d_put_at : He.DefD := ⟨("put_at", none), "put_at", "put_at", defArgs s_put_at, defBody s_put_at, defScope s_put_at, [], []⟩
def d_exchanged : He.DefD := ⟨("exchanged", none), "exchanged", "exchanged", defArgs s_exchanged, defBody s_exchanged, defScope s_exchanged, [], []⟩
def d_made_of : He.DefD := ⟨("made_of", none), "made_of", "made_of", defArgs s_made_of, defBody s_made_of, defScope s_made_of, [], []⟩
def d_fair_asked : He.DefD := ⟨("fair_asked", none), "fair_asked", "fair_asked", defArgs s_fair_asked, defBody s_fair_asked, defScope s_fair_asked, [], []⟩
def d_words_from : He.DefD := ⟨("words_from", none), "words_from", "words_from", defArgs s_words_from, defBody s_words_from, defScope s_words_from, [], []⟩
def d_round_told : He.DefD := ⟨("round_told", none), "round_told", "round_told", defArgs s_round_told, defBody s_round_told, defScope s_round_told, [], []⟩
def d_rounds : He.DefD := ⟨("rounds", none), "rounds", "rounds", defArgs s_rounds, defBody s_rounds, defScope s_rounds, [], []⟩
def d_joined : He.DefD := ⟨("joined", none), "joined", "joined", defArgs s_joined, defBody s_joined, defScope s_joined, [], []⟩
def d_law_power : He.DefD := ⟨("_law_power", none), "_law_power", "_law_power", defArgs s_law_power, defBody s_law_power, defScope s_law_power, [], []⟩
def d_law_stir : He.DefD := ⟨("_law_stir", none), "_law_stir", "_law_stir", defArgs s_law_stir, defBody s_law_stir, defScope s_law_stir, [], []⟩
def d_law_folded : He.DefD := ⟨("_law_folded", none), "_law_folded", "_law_folded", defArgs s_law_folded, defBody s_law_folded, defScope s_law_folded, [], []⟩
def d_law_size : He.DefD := ⟨("_law_size", none), "_law_size", "_law_size", defArgs s_law_size, defBody s_law_size, defScope s_law_size, [], []⟩
def d_law_words : He.DefD := ⟨("_law_words", none), "_law_words", "_law_words", defArgs s_law_words, defBody s_law_words, defScope s_law_words, [], []⟩
def d_law_fair : He.DefD := ⟨("_law_fair", none), "_law_fair", "_law_fair", defArgs s_law_fair, defBody s_law_fair, defScope s_law_fair, [], []⟩
def d_law_behind : He.DefD := ⟨("_law_behind", none), "_law_behind", "_law_behind", defArgs s_law_behind, defBody s_law_behind, defScope s_law_behind, [], []⟩
def d_law_rounds : He.DefD := ⟨("_law_rounds", none), "_law_rounds", "_law_rounds", defArgs s_law_rounds, defBody s_law_rounds, defScope s_law_rounds, [], []⟩
def d_law_same_round : He.DefD := ⟨("_law_same_round", none), "_law_same_round", "_law_same_round", defArgs s_law_same_round, defBody s_law_same_round, defScope s_law_same_round, [], []⟩
def d_law_pairs : He.DefD := ⟨("_law_pairs", none), "_law_pairs", "_law_pairs", defArgs s_law_pairs, defBody s_law_pairs, defScope s_law_pairs, [], []⟩
def d_law_joined : He.DefD := ⟨("_law_joined", none), "_law_joined", "_law_joined", defArgs s_law_joined, defBody s_law_joined, defScope s_law_joined, [], []⟩
def d_law_slips : He.DefD := ⟨("_law_slips", none), "_law_slips", "_law_slips", defArgs s_law_slips, defBody s_law_slips, defScope s_law_slips, [], []⟩
def d_law_made : He.DefD := ⟨("_law_made", none), "_law_made", "_law_made", defArgs s_law_made, defBody s_law_made, defScope s_law_made, [], []⟩
def d_law_slips_right : He.DefD := ⟨("_law_slips_right", none), "_law_slips_right", "_law_slips_right", defArgs s_law_slips_right, defBody s_law_slips_right, defScope s_law_slips_right, [], []⟩
def d_law : He.DefD := ⟨("law", none), "law", "law", defArgs s_law, defBody s_law, defScope s_law, [], []⟩
def fn : List He.DefD := [d_letters, d_looked, d_number_of, d_count_of, d_word_of, d_all_words, d_windows, d_word_count, d_size_asked, d_has_letters, d_init, d_word_asked, d_next_word, d_partners, d_is_fair, d_put_at, d_exchanged, d_made_of, d_fair_asked, d_words_from] ++ [d_round_told, d_rounds, d_joined, d_law_power, d_law_stir, d_law_folded, d_law_size, d_law_words, d_law_fair, d_law_behind, d_law_rounds, d_law_same_round, d_law_pairs, d_law_joined, d_law_slips, d_law_made, d_law_slips_right, d_law]
def fa : List He.Fa := [.glo "letters", .glo "looked", .glo "number_of", .glo "count_of", .glo "word_of", .glo "all_words", .glo "windows", .glo "word_count", .glo "size_asked", .glo "has_letters", .glo "Rule", .glo "word_asked", .glo "next_word", .glo "partners", .glo "is_fair", .glo "put_at", .glo "exchanged", .glo "made_of", .glo "fair_asked", .glo "words_from"] ++ ([.glo "round_told", .glo "rounds", .glo "joined", .glo "_law_power", .glo "_law_stir", .glo "_law_folded", .glo "_law_size", .glo "_law_words", .glo "_law_fair", .glo "_law_behind", .glo "_law_rounds", .glo "_law_same_round", .glo "_law_pairs", .glo "_law_joined", .glo "_law_slips", .glo "_law_made", .glo "_law_slips_right", .glo "law", .glo "NotOne"] ++ [.free "len", .free "range", .free "reversed", .free "sorted", .free "enumerate", .free "min", .free "zip", .free "list", .free "sum", .free "isinstance", .free "tuple", .str "LETTERS" "abcdef", .int "LONGEST" 24, .int "MOST_WORDS_words" 4096, .int "MOST_LETTERS" 24, .int "MOST_LENGTH" 8, .int "MOST_WORDS_rules" 64, .cls "Rule", .noat "Rule" "length", .noat "Rule" "kinds", .noat "Rule" "told", .mkr "Rule", .exc "NotOne", .exm "NotOne" "NotOne" true])
def loose1 : List PySem.Str := ["OnceError", "BadKinds", "BadWord", "TooMany", "NotOne", "NoSuch", "BadRule", "BadDeed", "LETTERS", "LONGEST", "MOST_WORDS_words", "letters", "looked", "number_of", "count_of", "word_of", "all_words", "windows", "MOST_LETTERS", "word_count", "MOST_LENGTH", "MOST_WORDS_rules", "size_asked", "has_letters", "Rule", "word_asked", "next_word", "partners", "is_fair", "put_at"]
def loose2 : List PySem.Str := ["exchanged", "made_of", "fair_asked", "words_from", "round_told", "rounds", "joined", "_law_power", "_law_stir", "_law_folded", "_law_size", "_law_words", "_law_fair", "_law_behind", "_law_rounds", "_law_same_round", "_law_pairs", "_law_joined", "_law_slips", "_law_made", "_law_slips_right"]
def loose : List PySem.Str := loose1 ++ loose2


/-- what the end leans on -/
structure Tx (K : PySem.W.Frag) (mg : Str → Option Value) : Prop where
  ex : ∃ h : Heap, K.In h ∧ h.Ns mainGlobals mg
  c : He.SaysD fa fn K
section
variable {K : PySem.W.Frag} {mg : Str → Option Value}

theorem Tx.g_letters (T : Tx K mg) : mg "letters" = some (.ref (He.ga K "letters")) := by
  obtain ⟨h, X, G⟩ := T.ex
  exact He.glo_ok X G (T.c.fact 0 (f := .glo "letters") rfl)
theorem Tx.g_looked (T : Tx K mg) : mg "looked" = some (.ref (He.ga K "looked")) := by
  obtain ⟨h, X, G⟩ := T.ex
  exact He.glo_ok X G (T.c.fact 1 (f := .glo "looked") rfl)
theorem Tx.g_number_of (T : Tx K mg) : mg "number_of" = some (.ref (He.ga K "number_of")) := by
  obtain ⟨h, X, G⟩ := T.ex
  exact He.glo_ok X G (T.c.fact 2 (f := .glo "number_of") rfl)
theorem Tx.g_count_of (T : Tx K mg) : mg "count_of" = some (.ref (He.ga K "count_of")) := by
  obtain ⟨h, X, G⟩ := T.ex
  exact He.glo_ok X G (T.c.fact 3 (f := .glo "count_of") rfl)
theorem Tx.g_word_of (T : Tx K mg) : mg "word_of" = some (.ref (He.ga K "word_of")) := by
  obtain ⟨h, X, G⟩ := T.ex
  exact He.glo_ok X G (T.c.fact 4 (f := .glo "word_of") rfl)
theorem Tx.g_all_words (T : Tx K mg) : mg "all_words" = some (.ref (He.ga K "all_words")) := by
  obtain ⟨h, X, G⟩ := T.ex
  exact He.glo_ok X G (T.c.fact 5 (f := .glo "all_words") rfl)
theorem Tx.g_windows (T : Tx K mg) : mg "windows" = some (.ref (He.ga K "windows")) := by
  obtain ⟨h, X, G⟩ := T.ex
  exact He.glo_ok X G (T.c.fact 6 (f := .glo "windows") rfl)
theorem Tx.g_word_count (T : Tx K mg) : mg "word_count" = some (.ref (He.ga K "word_count")) := by
  obtain ⟨h, X, G⟩ := T.ex
  exact He.glo_ok X G (T.c.fact 7 (f := .glo "word_count") rfl)
theorem Tx.g_size_asked (T : Tx K mg) : mg "size_asked" = some (.ref (He.ga K "size_asked")) := by
  obtain ⟨h, X, G⟩ := T.ex
  exact He.glo_ok X G (T.c.fact 8 (f := .glo "size_asked") rfl)
theorem Tx.g_has_letters (T : Tx K mg) : mg "has_letters" = some (.ref (He.ga K "has_letters")) := by
  obtain ⟨h, X, G⟩ := T.ex
  exact He.glo_ok X G (T.c.fact 9 (f := .glo "has_letters") rfl)
theorem Tx.g_Rule (T : Tx K mg) : mg "Rule" = some (.ref (He.ga K "Rule")) := by
  obtain ⟨h, X, G⟩ := T.ex
  exact He.glo_ok X G (T.c.fact 10 (f := .glo "Rule") rfl)
theorem Tx.g_word_asked (T : Tx K mg) : mg "word_asked" = some (.ref (He.ga K "word_asked")) := by
  obtain ⟨h, X, G⟩ := T.ex
  exact He.glo_ok X G (T.c.fact 11 (f := .glo "word_asked") rfl)
theorem Tx.g_next_word (T : Tx K mg) : mg "next_word" = some (.ref (He.ga K "next_word")) := by
  obtain ⟨h, X, G⟩ := T.ex
  exact He.glo_ok X G (T.c.fact 12 (f := .glo "next_word") rfl)
theorem Tx.g_partners (T : Tx K mg) : mg "partners" = some (.ref (He.ga K "partners")) := by
  obtain ⟨h, X, G⟩ := T.ex
  exact He.glo_ok X G (T.c.fact 13 (f := .glo "partners") rfl)
theorem Tx.g_is_fair (T : Tx K mg) : mg "is_fair" = some (.ref (He.ga K "is_fair")) := by
  obtain ⟨h, X, G⟩ := T.ex
  exact He.glo_ok X G (T.c.fact 14 (f := .glo "is_fair") rfl)
theorem Tx.g_put_at (T : Tx K mg) : mg "put_at" = some (.ref (He.ga K "put_at")) := by
  obtain ⟨h, X, G⟩ := T.ex
  exact He.glo_ok X G (T.c.fact 15 (f := .glo "put_at") rfl)
theorem Tx.g_exchanged (T : Tx K mg) : mg "exchanged" = some (.ref (He.ga K "exchanged")) := by
  obtain ⟨h, X, G⟩ := T.ex
  exact He.glo_ok X G (T.c.fact 16 (f := .glo "exchanged") rfl)
theorem Tx.g_made_of (T : Tx K mg) : mg "made_of" = some (.ref (He.ga K "made_of")) := by
  obtain ⟨h, X, G⟩ := T.ex
  exact He.glo_ok X G (T.c.fact 17 (f := .glo "made_of") rfl)
theorem Tx.g_fair_asked (T : Tx K mg) : mg "fair_asked" = some (.ref (He.ga K "fair_asked")) := by
  obtain ⟨h, X, G⟩ := T.ex
  exact He.glo_ok X G (T.c.fact 18 (f := .glo "fair_asked") rfl)
theorem Tx.g_words_from (T : Tx K mg) : mg "words_from" = some (.ref (He.ga K "words_from")) := by
  obtain ⟨h, X, G⟩ := T.ex
  exact He.glo_ok X G (T.c.fact 19 (f := .glo "words_from") rfl)
theorem Tx.g_round_told (T : Tx K mg) : mg "round_told" = some (.ref (He.ga K "round_told")) := by
  obtain ⟨h, X, G⟩ := T.ex
  exact He.glo_ok X G (T.c.fact 20 (f := .glo "round_told") rfl)
theorem Tx.g_rounds (T : Tx K mg) : mg "rounds" = some (.ref (He.ga K "rounds")) := by
  obtain ⟨h, X, G⟩ := T.ex
  exact He.glo_ok X G (T.c.fact 21 (f := .glo "rounds") rfl)
theorem Tx.g_joined (T : Tx K mg) : mg "joined" = some (.ref (He.ga K "joined")) := by
  obtain ⟨h, X, G⟩ := T.ex
  exact He.glo_ok X G (T.c.fact 22 (f := .glo "joined") rfl)
theorem Tx.g_law_power (T : Tx K mg) : mg "_law_power" = some (.ref (He.ga K "_law_power")) := by
  obtain ⟨h, X, G⟩ := T.ex
  exact He.glo_ok X G (T.c.fact 23 (f := .glo "_law_power") rfl)
theorem Tx.g_law_stir (T : Tx K mg) : mg "_law_stir" = some (.ref (He.ga K "_law_stir")) := by
  obtain ⟨h, X, G⟩ := T.ex
  exact He.glo_ok X G (T.c.fact 24 (f := .glo "_law_stir") rfl)
theorem Tx.g_law_folded (T : Tx K mg) : mg "_law_folded" = some (.ref (He.ga K "_law_folded")) := by
  obtain ⟨h, X, G⟩ := T.ex
  exact He.glo_ok X G (T.c.fact 25 (f := .glo "_law_folded") rfl)
theorem Tx.g_law_size (T : Tx K mg) : mg "_law_size" = some (.ref (He.ga K "_law_size")) := by
  obtain ⟨h, X, G⟩ := T.ex
  exact He.glo_ok X G (T.c.fact 26 (f := .glo "_law_size") rfl)
theorem Tx.g_law_words (T : Tx K mg) : mg "_law_words" = some (.ref (He.ga K "_law_words")) := by
  obtain ⟨h, X, G⟩ := T.ex
  exact He.glo_ok X G (T.c.fact 27 (f := .glo "_law_words") rfl)
theorem Tx.g_law_fair (T : Tx K mg) : mg "_law_fair" = some (.ref (He.ga K "_law_fair")) := by
  obtain ⟨h, X, G⟩ := T.ex
  exact He.glo_ok X G (T.c.fact 28 (f := .glo "_law_fair") rfl)
theorem Tx.g_law_behind (T : Tx K mg) : mg "_law_behind" = some (.ref (He.ga K "_law_behind")) := by
  obtain ⟨h, X, G⟩ := T.ex
  exact He.glo_ok X G (T.c.fact 29 (f := .glo "_law_behind") rfl)
theorem Tx.g_law_rounds (T : Tx K mg) : mg "_law_rounds" = some (.ref (He.ga K "_law_rounds")) := by
  obtain ⟨h, X, G⟩ := T.ex
  exact He.glo_ok X G (T.c.fact 30 (f := .glo "_law_rounds") rfl)
theorem Tx.g_law_same_round (T : Tx K mg) : mg "_law_same_round" = some (.ref (He.ga K "_law_same_round")) := by
  obtain ⟨h, X, G⟩ := T.ex
  exact He.glo_ok X G (T.c.fact 31 (f := .glo "_law_same_round") rfl)
theorem Tx.g_law_pairs (T : Tx K mg) : mg "_law_pairs" = some (.ref (He.ga K "_law_pairs")) := by
  obtain ⟨h, X, G⟩ := T.ex
  exact He.glo_ok X G (T.c.fact 32 (f := .glo "_law_pairs") rfl)
theorem Tx.g_law_joined (T : Tx K mg) : mg "_law_joined" = some (.ref (He.ga K "_law_joined")) := by
  obtain ⟨h, X, G⟩ := T.ex
  exact He.glo_ok X G (T.c.fact 33 (f := .glo "_law_joined") rfl)
theorem Tx.g_law_slips (T : Tx K mg) : mg "_law_slips" = some (.ref (He.ga K "_law_slips")) := by
  obtain ⟨h, X, G⟩ := T.ex
  exact He.glo_ok X G (T.c.fact 34 (f := .glo "_law_slips") rfl)
theorem Tx.g_law_made (T : Tx K mg) : mg "_law_made" = some (.ref (He.ga K "_law_made")) := by
  obtain ⟨h, X, G⟩ := T.ex
  exact He.glo_ok X G (T.c.fact 35 (f := .glo "_law_made") rfl)
theorem Tx.g_law_slips_right (T : Tx K mg) : mg "_law_slips_right" = some (.ref (He.ga K "_law_slips_right")) := by
  obtain ⟨h, X, G⟩ := T.ex
  exact He.glo_ok X G (T.c.fact 36 (f := .glo "_law_slips_right") rfl)
theorem Tx.g_law (T : Tx K mg) : mg "law" = some (.ref (He.ga K "law")) := by
  obtain ⟨h, X, G⟩ := T.ex
  exact He.glo_ok X G (T.c.fact 37 (f := .glo "law") rfl)
theorem Tx.g_NotOne (T : Tx K mg) : mg "NotOne" = some (.ref (He.ga K "NotOne")) := by
  obtain ⟨h, X, G⟩ := T.ex
  exact He.glo_ok X G (T.c.fact 38 (f := .glo "NotOne") rfl)
theorem Tx.n_len (T : Tx K mg) : mg "len" = none := by
  obtain ⟨h, X, G⟩ := T.ex
  exact He.free_ok X G (T.c.fact 39 (f := .free "len") rfl)
theorem Tx.n_range (T : Tx K mg) : mg "range" = none := by
  obtain ⟨h, X, G⟩ := T.ex
  exact He.free_ok X G (T.c.fact 40 (f := .free "range") rfl)
theorem Tx.n_reversed (T : Tx K mg) : mg "reversed" = none := by
  obtain ⟨h, X, G⟩ := T.ex
  exact He.free_ok X G (T.c.fact 41 (f := .free "reversed") rfl)
theorem Tx.n_sorted (T : Tx K mg) : mg "sorted" = none := by
  obtain ⟨h, X, G⟩ := T.ex
  exact He.free_ok X G (T.c.fact 42 (f := .free "sorted") rfl)
theorem Tx.n_enumerate (T : Tx K mg) : mg "enumerate" = none := by
  obtain ⟨h, X, G⟩ := T.ex
  exact He.free_ok X G (T.c.fact 43 (f := .free "enumerate") rfl)
theorem Tx.n_min (T : Tx K mg) : mg "min" = none := by
  obtain ⟨h, X, G⟩ := T.ex
  exact He.free_ok X G (T.c.fact 44 (f := .free "min") rfl)
theorem Tx.n_zip (T : Tx K mg) : mg "zip" = none := by
  obtain ⟨h, X, G⟩ := T.ex
  exact He.free_ok X G (T.c.fact 45 (f := .free "zip") rfl)
theorem Tx.n_list (T : Tx K mg) : mg "list" = none := by
  obtain ⟨h, X, G⟩ := T.ex
  exact He.free_ok X G (T.c.fact 46 (f := .free "list") rfl)
theorem Tx.n_sum (T : Tx K mg) : mg "sum" = none := by
  obtain ⟨h, X, G⟩ := T.ex
  exact He.free_ok X G (T.c.fact 47 (f := .free "sum") rfl)
theorem Tx.n_isinstance (T : Tx K mg) : mg "isinstance" = none := by
  obtain ⟨h, X, G⟩ := T.ex
  exact He.free_ok X G (T.c.fact 48 (f := .free "isinstance") rfl)
theorem Tx.n_tuple (T : Tx K mg) : mg "tuple" = none := by
  obtain ⟨h, X, G⟩ := T.ex
  exact He.free_ok X G (T.c.fact 49 (f := .free "tuple") rfl)
theorem Tx.v_LETTERS (T : Tx K mg) : ∃ t, mg "LETTERS" = some (.str "abcdef" t) := by
  obtain ⟨h, X, G⟩ := T.ex
  exact He.str_ok X G (T.c.fact 50 (f := .str "LETTERS" "abcdef") rfl)
theorem Tx.v_LONGEST (T : Tx K mg) : ∃ t, mg "LONGEST" = some (.int 24 t) := by
  obtain ⟨h, X, G⟩ := T.ex
  exact He.int_ok X G (T.c.fact 51 (f := .int "LONGEST" 24) rfl)
theorem Tx.v_MOST_WORDS_words (T : Tx K mg) : ∃ t, mg "MOST_WORDS_words" = some (.int 4096 t) := by
  obtain ⟨h, X, G⟩ := T.ex
  exact He.int_ok X G (T.c.fact 52 (f := .int "MOST_WORDS_words" 4096) rfl)
theorem Tx.v_MOST_LETTERS (T : Tx K mg) : ∃ t, mg "MOST_LETTERS" = some (.int 24 t) := by
  obtain ⟨h, X, G⟩ := T.ex
  exact He.int_ok X G (T.c.fact 53 (f := .int "MOST_LETTERS" 24) rfl)
theorem Tx.v_MOST_LENGTH (T : Tx K mg) : ∃ t, mg "MOST_LENGTH" = some (.int 8 t) := by
  obtain ⟨h, X, G⟩ := T.ex
  exact He.int_ok X G (T.c.fact 54 (f := .int "MOST_LENGTH" 8) rfl)
theorem Tx.v_MOST_WORDS_rules (T : Tx K mg) : ∃ t, mg "MOST_WORDS_rules" = some (.int 64 t) := by
  obtain ⟨h, X, G⟩ := T.ex
  exact He.int_ok X G (T.c.fact 55 (f := .int "MOST_WORDS_rules" 64) rfl)
theorem Tx.cls (T : Tx K mg) : Cls K (He.ga K "Rule") := He.cls_ok (T.c.fact 56 (f := .cls "Rule") rfl)
theorem Tx.no_length (T : Tx K mg) : NoAttr K (He.ga K "Rule") "length" := He.noat_ok (T.c.fact 57 (f := .noat "Rule" "length") rfl)
theorem Tx.no_kinds (T : Tx K mg) : NoAttr K (He.ga K "Rule") "kinds" := He.noat_ok (T.c.fact 58 (f := .noat "Rule" "kinds") rfl)
theorem Tx.no_told (T : Tx K mg) : NoAttr K (He.ga K "Rule") "told" := He.noat_ok (T.c.fact 59 (f := .noat "Rule" "told") rfl)
theorem Tx.mkr (T : Tx K mg) : Mk K (He.ga K "Rule") (He.ma K (He.ga K "Rule") "__init__") := He.mkr_ok (T.c.fact 60 (f := .mkr "Rule") rfl)
theorem Tx.exc (T : Tx K mg) : PySem.W.excIn K (He.ga K "NotOne") He.veBase "ValueError.__new__" = true ∧ PySem.W.keepIn K (.ref (He.ga K "NotOne")) = true ∧ PySem.W.subIn K (.ref (He.ga K "NotOne")) (.type "BaseException") = some true ∧ PySem.W.typeIn K (.ref (He.ga K "NotOne")) = some (.type "type") := He.exc_ok (T.c.fact 61 (f := .exc "NotOne") rfl)
theorem Tx.exm (T : Tx K mg) : PySem.W.exmOne K (.ref (He.ga K "NotOne")) (.ref (He.ga K "NotOne")) = some true := He.exm_ok (T.c.fact 62 (f := .exm "NotOne" "NotOne" true) rfl)
theorem Tx.f_letters (T : Tx K mg) : ∃ fd, FunD K "letters" "letters" (defArgs s_letters) (defBody s_letters) (defScope s_letters) [] [] (He.ga K "letters") fd := T.c.def_ 0 (d := d_letters) rfl
theorem Tx.f_looked (T : Tx K mg) : ∃ fd, FunD K "looked" "looked" (defArgs s_looked) (defBody s_looked) (defScope s_looked) [] [] (He.ga K "looked") fd := T.c.def_ 1 (d := d_looked) rfl
theorem Tx.f_number_of (T : Tx K mg) : ∃ fd, FunD K "number_of" "number_of" (defArgs s_number_of) (defBody s_number_of) (defScope s_number_of) [] [] (He.ga K "number_of") fd := T.c.def_ 2 (d := d_number_of) rfl
theorem Tx.f_count_of (T : Tx K mg) : ∃ fd, FunD K "count_of" "count_of" (defArgs s_count_of) (defBody s_count_of) (defScope s_count_of) [] [] (He.ga K "count_of") fd := T.c.def_ 3 (d := d_count_of) rfl
theorem Tx.f_word_of (T : Tx K mg) : ∃ fd, FunD K "word_of" "word_of" (defArgs s_word_of) (defBody s_word_of) (defScope s_word_of) [] [] (He.ga K "word_of") fd := T.c.def_ 4 (d := d_word_of) rfl
theorem Tx.f_all_words (T : Tx K mg) : ∃ fd, FunD K "all_words" "all_words" (defArgs s_all_words) (defBody s_all_words) (defScope s_all_words) [] [] (He.ga K "all_words") fd := T.c.def_ 5 (d := d_all_words) rfl
theorem Tx.f_windows (T : Tx K mg) : ∃ fd, FunD K "windows" "windows" (defArgs s_windows) (defBody s_windows) (defScope s_windows) [] [] (He.ga K "windows") fd := T.c.def_ 6 (d := d_windows) rfl
theorem Tx.f_word_count (T : Tx K mg) : ∃ fd, FunD K "word_count" "word_count" (defArgs s_word_count) (defBody s_word_count) (defScope s_word_count) [] [] (He.ga K "word_count") fd := T.c.def_ 7 (d := d_word_count) rfl
theorem Tx.f_size_asked (T : Tx K mg) : ∃ fd, FunD K "size_asked" "size_asked" (defArgs s_size_asked) (defBody s_size_asked) (defScope s_size_asked) [] [] (He.ga K "size_asked") fd := T.c.def_ 8 (d := d_size_asked) rfl
theorem Tx.f_has_letters (T : Tx K mg) : ∃ fd, FunD K "has_letters" "has_letters" (defArgs s_has_letters) (defBody s_has_letters) (defScope s_has_letters) [] [] (He.ga K "has_letters") fd := T.c.def_ 9 (d := d_has_letters) rfl
theorem Tx.f_init (T : Tx K mg) : ∃ fd, FunD K "__init__" "Rule.__init__" (defArgs s_init) (defBody s_init) (defScope s_init) [] [] (He.ma K (He.ga K "Rule") "__init__") fd := T.c.def_ 10 (d := d_init) rfl
theorem Tx.f_word_asked (T : Tx K mg) : ∃ fd, FunD K "word_asked" "word_asked" (defArgs s_word_asked) (defBody s_word_asked) (defScope s_word_asked) [] [] (He.ga K "word_asked") fd := T.c.def_ 11 (d := d_word_asked) rfl
theorem Tx.f_next_word (T : Tx K mg) : ∃ fd, FunD K "next_word" "next_word" (defArgs s_next_word) (defBody s_next_word) (defScope s_next_word) [] [] (He.ga K "next_word") fd := T.c.def_ 12 (d := d_next_word) rfl
theorem Tx.f_partners (T : Tx K mg) : ∃ fd, FunD K "partners" "partners" (defArgs s_partners) (defBody s_partners) (defScope s_partners) [] [] (He.ga K "partners") fd := T.c.def_ 13 (d := d_partners) rfl
theorem Tx.f_is_fair (T : Tx K mg) : ∃ fd, FunD K "is_fair" "is_fair" (defArgs s_is_fair) (defBody s_is_fair) (defScope s_is_fair) [] [] (He.ga K "is_fair") fd := T.c.def_ 14 (d := d_is_fair) rfl
theorem Tx.f_put_at (T : Tx K mg) : ∃ fd, FunD K "put_at" "put_at" (defArgs s_put_at) (defBody s_put_at) (defScope s_put_at) [] [] (He.ga K "put_at") fd := T.c.def_ 15 (d := d_put_at) rfl
theorem Tx.f_exchanged (T : Tx K mg) : ∃ fd, FunD K "exchanged" "exchanged" (defArgs s_exchanged) (defBody s_exchanged) (defScope s_exchanged) [] [] (He.ga K "exchanged") fd := T.c.def_ 16 (d := d_exchanged) rfl
theorem Tx.f_made_of (T : Tx K mg) : ∃ fd, FunD K "made_of" "made_of" (defArgs s_made_of) (defBody s_made_of) (defScope s_made_of) [] [] (He.ga K "made_of") fd := T.c.def_ 17 (d := d_made_of) rfl
theorem Tx.f_fair_asked (T : Tx K mg) : ∃ fd, FunD K "fair_asked" "fair_asked" (defArgs s_fair_asked) (defBody s_fair_asked) (defScope s_fair_asked) [] [] (He.ga K "fair_asked") fd := T.c.def_ 18 (d := d_fair_asked) rfl
theorem Tx.f_words_from (T : Tx K mg) : ∃ fd, FunD K "words_from" "words_from" (defArgs s_words_from) (defBody s_words_from) (defScope s_words_from) [] [] (He.ga K "words_from") fd := T.c.def_ 19 (d := d_words_from) rfl
theorem Tx.f_round_told (T : Tx K mg) : ∃ fd, FunD K "round_told" "round_told" (defArgs s_round_told) (defBody s_round_told) (defScope s_round_told) [] [] (He.ga K "round_told") fd := T.c.def_ 20 (d := d_round_told) rfl
theorem Tx.f_rounds (T : Tx K mg) : ∃ fd, FunD K "rounds" "rounds" (defArgs s_rounds) (defBody s_rounds) (defScope s_rounds) [] [] (He.ga K "rounds") fd := T.c.def_ 21 (d := d_rounds) rfl
theorem Tx.f_joined (T : Tx K mg) : ∃ fd, FunD K "joined" "joined" (defArgs s_joined) (defBody s_joined) (defScope s_joined) [] [] (He.ga K "joined") fd := T.c.def_ 22 (d := d_joined) rfl
theorem Tx.f_law_power (T : Tx K mg) : ∃ fd, FunD K "_law_power" "_law_power" (defArgs s_law_power) (defBody s_law_power) (defScope s_law_power) [] [] (He.ga K "_law_power") fd := T.c.def_ 23 (d := d_law_power) rfl
theorem Tx.f_law_stir (T : Tx K mg) : ∃ fd, FunD K "_law_stir" "_law_stir" (defArgs s_law_stir) (defBody s_law_stir) (defScope s_law_stir) [] [] (He.ga K "_law_stir") fd := T.c.def_ 24 (d := d_law_stir) rfl
theorem Tx.f_law_folded (T : Tx K mg) : ∃ fd, FunD K "_law_folded" "_law_folded" (defArgs s_law_folded) (defBody s_law_folded) (defScope s_law_folded) [] [] (He.ga K "_law_folded") fd := T.c.def_ 25 (d := d_law_folded) rfl
theorem Tx.f_law_size (T : Tx K mg) : ∃ fd, FunD K "_law_size" "_law_size" (defArgs s_law_size) (defBody s_law_size) (defScope s_law_size) [] [] (He.ga K "_law_size") fd := T.c.def_ 26 (d := d_law_size) rfl
theorem Tx.f_law_words (T : Tx K mg) : ∃ fd, FunD K "_law_words" "_law_words" (defArgs s_law_words) (defBody s_law_words) (defScope s_law_words) [] [] (He.ga K "_law_words") fd := T.c.def_ 27 (d := d_law_words) rfl
theorem Tx.f_law_fair (T : Tx K mg) : ∃ fd, FunD K "_law_fair" "_law_fair" (defArgs s_law_fair) (defBody s_law_fair) (defScope s_law_fair) [] [] (He.ga K "_law_fair") fd := T.c.def_ 28 (d := d_law_fair) rfl
theorem Tx.f_law_behind (T : Tx K mg) : ∃ fd, FunD K "_law_behind" "_law_behind" (defArgs s_law_behind) (defBody s_law_behind) (defScope s_law_behind) [] [] (He.ga K "_law_behind") fd := T.c.def_ 29 (d := d_law_behind) rfl
theorem Tx.f_law_rounds (T : Tx K mg) : ∃ fd, FunD K "_law_rounds" "_law_rounds" (defArgs s_law_rounds) (defBody s_law_rounds) (defScope s_law_rounds) [] [] (He.ga K "_law_rounds") fd := T.c.def_ 30 (d := d_law_rounds) rfl
theorem Tx.f_law_same_round (T : Tx K mg) : ∃ fd, FunD K "_law_same_round" "_law_same_round" (defArgs s_law_same_round) (defBody s_law_same_round) (defScope s_law_same_round) [] [] (He.ga K "_law_same_round") fd := T.c.def_ 31 (d := d_law_same_round) rfl
theorem Tx.f_law_pairs (T : Tx K mg) : ∃ fd, FunD K "_law_pairs" "_law_pairs" (defArgs s_law_pairs) (defBody s_law_pairs) (defScope s_law_pairs) [] [] (He.ga K "_law_pairs") fd := T.c.def_ 32 (d := d_law_pairs) rfl
theorem Tx.f_law_joined (T : Tx K mg) : ∃ fd, FunD K "_law_joined" "_law_joined" (defArgs s_law_joined) (defBody s_law_joined) (defScope s_law_joined) [] [] (He.ga K "_law_joined") fd := T.c.def_ 33 (d := d_law_joined) rfl
theorem Tx.f_law_slips (T : Tx K mg) : ∃ fd, FunD K "_law_slips" "_law_slips" (defArgs s_law_slips) (defBody s_law_slips) (defScope s_law_slips) [] [] (He.ga K "_law_slips") fd := T.c.def_ 34 (d := d_law_slips) rfl
theorem Tx.f_law_made (T : Tx K mg) : ∃ fd, FunD K "_law_made" "_law_made" (defArgs s_law_made) (defBody s_law_made) (defScope s_law_made) [] [] (He.ga K "_law_made") fd := T.c.def_ 35 (d := d_law_made) rfl
theorem Tx.f_law_slips_right (T : Tx K mg) : ∃ fd, FunD K "_law_slips_right" "_law_slips_right" (defArgs s_law_slips_right) (defBody s_law_slips_right) (defScope s_law_slips_right) [] [] (He.ga K "_law_slips_right") fd := T.c.def_ 36 (d := d_law_slips_right) rfl
theorem Tx.f_law (T : Tx K mg) : ∃ fd, FunD K "law" "law" (defArgs s_law) (defBody s_law) (defScope s_law) [] [] (He.ga K "law") fd := T.c.def_ 37 (d := d_law) rfl
end
def n_letters : List Str := ["kinds"]
theorem sc_letters : FnScope n_letters ["kinds"] (defScope s_letters) := ⟨rfl, rfl, rfl, by decide +kernel, rfl, by decide +kernel, by decide +kernel⟩
def n_looked : List Str := ["word", "kinds", "signs", "sign"]
theorem sc_looked : FnScope n_looked ["word", "kinds"] (defScope s_looked) := ⟨rfl, rfl, rfl, by decide +kernel, rfl, by decide +kernel, by decide +kernel⟩
def n_number_of : List Str := ["word", "kinds", "number", "sign"]
theorem sc_number_of : FnScope n_number_of ["word", "kinds"] (defScope s_number_of) := ⟨rfl, rfl, rfl, by decide +kernel, rfl, by decide +kernel, by decide +kernel⟩
def n_count_of : List Str := ["length", "kinds", "count", "k"]
theorem sc_count_of : FnScope n_count_of ["length", "kinds"] (defScope s_count_of) := ⟨rfl, rfl, rfl, by decide +kernel, rfl, by decide +kernel, by decide +kernel⟩
def n_word_of : List Str := ["number", "length", "kinds", "count", "signs", "k"]
theorem sc_word_of : FnScope n_word_of ["number", "length", "kinds"] (defScope s_word_of) := ⟨rfl, rfl, rfl, by decide +kernel, rfl, by decide +kernel, by decide +kernel⟩
def n_all_words : List Str := ["length", "kinds", "count", "number"]
theorem sc_all_words : FnScope n_all_words ["length", "kinds"] (defScope s_all_words) := ⟨rfl, rfl, rfl, by decide +kernel, rfl, by decide +kernel, by decide +kernel⟩
def n_windows : List Str := ["text", "length", "ring", "longer", "k"]
theorem sc_windows : FnScope n_windows ["text", "length", "ring"] (defScope s_windows) := ⟨rfl, rfl, rfl, by decide +kernel, rfl, by decide +kernel, by decide +kernel⟩
def n_word_count : List Str := ["length", "kinds", "many", "k"]
theorem sc_word_count : FnScope n_word_count ["length", "kinds"] (defScope s_word_count) := ⟨rfl, rfl, rfl, by decide +kernel, rfl, by decide +kernel, by decide +kernel⟩
def n_size_asked : List Str := ["length", "kinds", "size"]
theorem sc_size_asked : FnScope n_size_asked ["length", "kinds"] (defScope s_size_asked) := ⟨rfl, rfl, rfl, by decide +kernel, rfl, by decide +kernel, by decide +kernel⟩
def n_has_letters : List Str := ["text", "kinds", "some", "sign"]
theorem sc_has_letters : FnScope n_has_letters ["text", "kinds"] (defScope s_has_letters) := ⟨rfl, rfl, rfl, by decide +kernel, rfl, by decide +kernel, by decide +kernel⟩
def n_init : List Str := ["self", "length", "kinds", "told"]
theorem sc_init : FnScope n_init ["self", "length", "kinds", "told"] (defScope s_init) := ⟨rfl, rfl, rfl, by decide +kernel, rfl, by decide +kernel, by decide +kernel⟩
def n_word_asked : List Str := ["rule", "word"]
theorem sc_word_asked : FnScope n_word_asked ["rule", "word"] (defScope s_word_asked) := ⟨rfl, rfl, rfl, by decide +kernel, rfl, by decide +kernel, by decide +kernel⟩
def n_next_word : List Str := ["rule", "word"]
theorem sc_next_word : FnScope n_next_word ["rule", "word"] (defScope s_next_word) := ⟨rfl, rfl, rfl, by decide +kernel, rfl, by decide +kernel, by decide +kernel⟩
def n_partners : List Str := ["rule", "word", "letter"]
theorem sc_partners : FnScope n_partners ["rule", "word"] (defScope s_partners) := ⟨rfl, rfl, rfl, by decide +kernel, rfl, by decide +kernel, by decide +kernel⟩
def n_is_fair : List Str := ["rule", "behind", "word"]
theorem sc_is_fair : FnScope n_is_fair ["rule"] (defScope s_is_fair) := ⟨rfl, rfl, rfl, by decide +kernel, rfl, by decide +kernel, by decide +kernel⟩
def n_put_at : List Str := ["text", "at", "letter"]
theorem sc_put_at : FnScope n_put_at ["text", "at", "letter"] (defScope s_put_at) := ⟨rfl, rfl, rfl, by decide +kernel, rfl, by decide +kernel, by decide +kernel⟩
def n_exchanged : List Str := ["rule", "one", "two", "here", "there", "told"]
theorem sc_exchanged : FnScope n_exchanged ["rule", "one", "two"] (defScope s_exchanged) := ⟨rfl, rfl, rfl, by decide +kernel, rfl, by decide +kernel, by decide +kernel⟩
def n_made_of : List Str := ["ring", "length", "kinds", "size", "found", "behind", "at", "word"]
theorem sc_made_of : FnScope n_made_of ["ring", "length", "kinds"] (defScope s_made_of) := ⟨rfl, rfl, rfl, by decide +kernel, rfl, by decide +kernel, by decide +kernel⟩
def n_fair_asked : List Str := ["rule"]
theorem sc_fair_asked : FnScope n_fair_asked ["rule"] (defScope s_fair_asked) := ⟨rfl, rfl, rfl, by decide +kernel, rfl, by decide +kernel, by decide +kernel⟩
def n_words_from : List Str := ["rule", "word", "found", "here"]
theorem sc_words_from : FnScope n_words_from ["rule", "word"] (defScope s_words_from) := ⟨rfl, rfl, rfl, by decide +kernel, rfl, by decide +kernel, by decide +kernel⟩
def n_round_told : List Str := ["found", "at", "word"]
theorem sc_round_told : FnScope n_round_told ["found"] (defScope s_round_told) := ⟨rfl, rfl, rfl, by decide +kernel, rfl, by decide +kernel, by decide +kernel⟩
def n_rounds : List Str := ["rule", "met", "told", "word", "found", "one"]
theorem sc_rounds : FnScope n_rounds ["rule"] (defScope s_rounds) := ⟨rfl, rfl, rfl, by decide +kernel, rfl, by decide +kernel, by decide +kernel⟩
def n_joined : List Str := ["rule", "pairs", "one", "two"]
theorem sc_joined : FnScope n_joined ["rule"] (defScope s_joined) := ⟨rfl, rfl, rfl, by decide +kernel, rfl, by decide +kernel, by decide +kernel⟩
def n_law_power : List Str := ["base", "many", "made", "k"]
theorem sc_law_power : FnScope n_law_power ["base", "many"] (defScope s_law_power) := ⟨rfl, rfl, rfl, by decide +kernel, rfl, by decide +kernel, by decide +kernel⟩
def n_law_stir : List Str := ["cell", "k", "m"]
theorem sc_law_stir : FnScope n_law_stir ["cell", "k"] (defScope s_law_stir) := ⟨rfl, rfl, rfl, by decide +kernel, rfl, by decide +kernel, by decide +kernel⟩
def n_law_folded : List Str := ["script", "many", "found", "k", "cell"]
theorem sc_law_folded : FnScope n_law_folded ["script", "many"] (defScope s_law_folded) := ⟨rfl, rfl, rfl, by decide +kernel, rfl, by decide +kernel, by decide +kernel⟩
def n_law_size : List Str := ["cell", "sizes"]
theorem sc_law_size : FnScope n_law_size ["cell"] (defScope s_law_size) := ⟨rfl, rfl, rfl, by decide +kernel, rfl, by decide +kernel, by decide +kernel⟩
def n_law_words : List Str := ["length", "kinds", "words", "k", "longer", "word", "letter"]
theorem sc_law_words : FnScope n_law_words ["length", "kinds"] (defScope s_law_words) := ⟨rfl, rfl, rfl, by decide +kernel, rfl, by decide +kernel, by decide +kernel⟩
def n_law_fair : List Str := ["script", "length", "kinds", "ends", "cells", "told", "digits", "j", "order", "part", "c"]
theorem sc_law_fair : FnScope n_law_fair ["script", "length", "kinds"] (defScope s_law_fair) := ⟨rfl, rfl, rfl, by decide +kernel, rfl, by decide +kernel, by decide +kernel⟩
def n_law_behind : List Str := ["words", "told", "behind", "word", "letter"]
theorem sc_law_behind : FnScope n_law_behind ["words", "told"] (defScope s_law_behind) := ⟨rfl, rfl, rfl, by decide +kernel, rfl, by decide +kernel, by decide +kernel⟩
def n_law_rounds : List Str := ["words", "behind", "met", "found", "word", "text", "here"]
theorem sc_law_rounds : FnScope n_law_rounds ["words", "behind"] (defScope s_law_rounds) := ⟨rfl, rfl, rfl, by decide +kernel, rfl, by decide +kernel, by decide +kernel⟩
def n_law_same_round : List Str := ["behind", "one", "two", "here"]
theorem sc_law_same_round : FnScope n_law_same_round ["behind", "one", "two"] (defScope s_law_same_round) := ⟨rfl, rfl, rfl, by decide +kernel, rfl, by decide +kernel, by decide +kernel⟩
def n_law_pairs : List Str := ["words", "pairs", "one", "two"]
theorem sc_law_pairs : FnScope n_law_pairs ["words"] (defScope s_law_pairs) := ⟨rfl, rfl, rfl, by decide +kernel, rfl, by decide +kernel, by decide +kernel⟩
def n_law_joined : List Str := ["words", "told", "behind", "due", "one", "two", "kept"]
theorem sc_law_joined : FnScope n_law_joined ["words", "told"] (defScope s_law_joined) := ⟨rfl, rfl, rfl, by decide +kernel, rfl, by decide +kernel, by decide +kernel⟩
def n_law_slips : List Str := ["ring", "n", "at", "to", "letter", "rest", "swapped", "some"]
theorem sc_law_slips : FnScope n_law_slips ["ring", "n"] (defScope s_law_slips) := ⟨rfl, rfl, rfl, by decide +kernel, rfl, by decide +kernel, by decide +kernel⟩
def n_law_made : List Str := ["text", "length", "kinds", "told"]
theorem sc_law_made : FnScope n_law_made ["text", "length", "kinds"] (defScope s_law_made) := ⟨rfl, rfl, rfl, by decide +kernel, rfl, by decide +kernel, by decide +kernel⟩
def n_law_slips_right : List Str := ["ring", "words", "length", "kinds", "n", "text", "round_text", "k", "found", "due", "behind", "word"]
theorem sc_law_slips_right : FnScope n_law_slips_right ["ring", "words", "length", "kinds", "n"] (defScope s_law_slips_right) := ⟨rfl, rfl, rfl, by decide +kernel, rfl, by decide +kernel, by decide +kernel⟩
def n_law : List Str := ["script", "n", "length", "kinds", "words", "told", "rule", "many", "behind", "due", "found", "told_rounds", "ring", "round_text", "by", "text", "again", "word", "k"]
theorem sc_law : FnScope n_law ["script"] (defScope s_law) := ⟨rfl, rfl, rfl, by decide +kernel, rfl, by decide +kernel, by decide +kernel⟩

/-! a def that keeps a promise, by its name -/
structure Dok (P : Program) (w : World) (K : PySem.W.Frag) (mg : Str → Option Value) (base : Heap) (CX : CXT) (k : Nat) (x : Str) (ps : List Str) (sp : Sp) : Prop where
  ex : ∃ (f : Addr) (fd : FuncData), mg x = some (.ref f) ∧ PySem.W.keepIn K (.ref f) = true ∧ Binds K fd ps [] ∧ FnOk P w K mg base CX k f fd ps sp
section
variable {P : Program} {w : World} {K : PySem.W.Frag} {mg : Str → Option Value} {base : Heap} {k : Nat} {x : Str} {N ps : List Str} {sp : Sp}
theorem Dok.of {params : Arguments} {body : List Stmt} {scope : Scope} {f : Addr} {fd : FuncData} (F : FunD K x x params body scope [] [] f fd) (hg : mg x = some (.ref f)) (S : FnScope N ps scope)
    (hb : ∀ (kV doc pm : Value) (an : Option Addr) (cdv ct : Value) (us : List Value), us.length = ps.length → bindArgs (PySem.W.fnOf x x params body scope .none kV doc pm an cdv ct) ⟨us, []⟩ = pure (ps.zip us))
    (len : ∀ vs H Q E, sp vs H Q E → vs.length = ps.length)
    (h : ∀ (cdv : Value) (A : Around) (outer : List Env) (s : Shared) (H : Hp) (vs : List V) (Q : VK) (E : XK), Room k (A.deeper (envOfC x scope s.heap.objs.size f cdv)) → sp vs H Q E →
      ∃ t, PSs (cxOf CX0 P w K mg base N x scope f cdv A outer s H E).nox body t ∧ t { nx := fun _ H' => Q .non H', rt := Q } (start N vs) H) : Dok P w K mg base CX0 (k + 1) x ps sp :=
  ⟨f, fd, hg, F.kp, F.bindsN hb, F.ok S len fun cdv A outer s H vs Q E hr hs => by
    obtain ⟨t, h1, h2⟩ := h cdv A outer s H vs Q E hr hs
    exact ⟨t, h1.nox, h2⟩⟩
theorem Dok.mono {CX : CXT} {j : Nat} (D : Dok P w K mg base CX k x ps sp) (h : k ≤ j) : Dok P w K mg base CX j x ps sp := by
  obtain ⟨f, fd, a, b, c, d⟩ := D.ex
  exact ⟨f, fd, a, b, c, d.mono h⟩
theorem Dok.imp {CX : CXT} {sp' : Sp} (D : Dok P w K mg base CX k x ps sp) (h : ∀ vs H Q E, sp' vs H Q E → sp vs H Q E) : Dok P w K mg base CX k x ps sp' := by
  obtain ⟨f, fd, a, b, c, d⟩ := D.ex
  exact ⟨f, fd, a, b, c, d.imp h⟩
end
section
variable {X : Cx} {x : Str} {p pos : Pos} {e : Expr} {es : List Expr} {k : Nat} {ps : List Str} {sp : Sp} {t : TA}
theorem pcall (D : Dok X.prog X.w X.K X.mg X.base CX0 k x ps sp) (hr : Room k X.A) (ha : PA X (e :: es) t) (hg : Gl X x := by rfl)
    (hdb : (x == ("__debug__" : Str)) = false := by decide) (he : starEach (e :: es) X.env = (false, eval e X.env) :: starEach es X.env := by rfl) (hpl : (backTo pos (starEach es X.env)).any (·.1) = false := by rfl) :
    PE X (.Call (.Name x p) (e :: es) [] pos) (tCall sp [] E0 t) := by
  obtain ⟨f, fd, hm, hk, hb, G⟩ := D.ex
  exact pe_call G hr hg hm hk hb .nil pass0 ha hdb he hpl
end
end RJ
set_option Elab.async false
set_option linter.all false
set_option maxRecDepth 100000
set_option maxHeartbeats 4000000
namespace RJ
open PySem PySem.Spec PyProof.Rows L2
section
variable {P : Program} {w : World} {K : PySem.W.Frag} {mg : Str → Option Value} {base : Heap}
theorem ifN {c : Prop} [Decidable c] {A B : Prop} (h : ¬ c) (b : B) : if decide c = true then A else B := by
  rw [decide_eq_false h]
  exact iteF b
theorem ifY {c : Prop} [Decidable c] {A B : Prop} (h : c) (a : A) : if decide c = true then A else B := by
  rw [decide_eq_true h]
  exact iteT a
theorem ifB {c : Prop} [Decidable c] {A B : Prop} (h1 : c → A) (h2 : ¬ c → B) : if decide c = true then A else B := by
  by_cases h : c
  · exact ifY h (h1 h)
  · exact ifN h (h2 h)
theorem rel_s (x : Str) (t : Tok) : L2.RelV (.str x) (.str x t) := ⟨t, rfl⟩
theorem rel_i (x : Int) (t : Tok) : L2.RelV (.int x) (.int x t) := ⟨t, rfl⟩
theorem Tx.LETTERS (T : Tx K mg) : ∃ t, mg "LETTERS" = some (.str (tx (List.range 6)) t) := by
  obtain ⟨t, h⟩ := T.v_LETTERS
  exact ⟨t, by rw [h, ← tx_abc]⟩
theorem lts_abc : ("abcdef" : Str) = tx (List.range 6) := tx_abc
/-! letters -/
def spLetters : Sp := fun vs H Q _ => ∃ k : Nat, vs = [.int k] ∧ 1 ≤ k ∧ k ≤ 6 ∧ Q (.str (tx (List.range k))) H
theorem ok_letters (T : Tx K mg) : Dok P w K mg base CX0 1 "letters" ["kinds"] spLetters := by
  obtain ⟨fd, F⟩ := T.f_letters
  obtain ⟨tL, hL⟩ := T.LETTERS
  refine Dok.of F T.g_letters sc_letters (fun _ _ _ _ _ _ us hl => match us, hl with | [_], _ => rfl) (fun vs H Q E h => ?_) (fun cdv A outer s H vs Q E hr h => ?_)
  · obtain ⟨k, rfl, _⟩ := h
    rfl
  · obtain ⟨k, rfl, h1, h6, q⟩ := h
    refine ⟨_, pss_cons (ps_if (PW.pt (pw_or (pt_cmpR op_lt (pv 0) pe_int (nomark _)) (pw_or1 (pt_cmpR op_gt (pv 0) (pe_callB call_len_str (by rfl) T.n_len PySem.boot_len (pa_cons (pe_glob rfl hL (rel_s _ _)) pa_nil)) (nomark _))))) pss_never pss_nil)
      (pss_one (ps_ret (pe_slice sl_str (pe_glob rfl hL (rel_s _ _)) po_none (po_some (pv 0))))), ?_⟩
    refine ⟨_, rfl, _, _, rfl, rfl, _, rfl, ifN (by omega) ?_⟩
    refine ⟨_, rfl, _, rfl, by rw [tx_len]; decide, _, _, rfl, rfl, _, rfl, ifN (by rw [tx_len, List.length_range]; omega) ?_⟩
    refine ⟨_, rfl, _, rfl, _, rfl, by rw [tx_len]; decide, ?_⟩
    have e : cutS (tx (List.range 6)) none (some (k : Int)) = tx (List.range k) := by
      rw [cut_to]
      congr 1
      refine List.ext_getElem? fun i => ?_
      rw [List.getElem?_take]
      by_cases c : i < k
      · rw [if_pos c, List.getElem?_range c, List.getElem?_range (by omega)]
      · rw [if_neg c, List.getElem?_eq_none (by rw [List.length_range]; omega)]
    rw [e]
    exact q
end
end RJ
set_option Elab.async false
set_option linter.all false
set_option maxRecDepth 100000
set_option maxHeartbeats 4000000
namespace RJ
open PySem PySem.Spec PyProof.Rows L2
section
variable {P : Program} {w : World} {K : PySem.W.Frag} {mg : Str → Option Value} {base : Heap}
theorem szl {n : Nat} (h : n ≤ 100000) : n ≤ sizeLine := Nat.le_trans h (by decide)
theorem szlt {n : Nat} (h : n ≤ 100000) : n < sizeLine := Nat.lt_of_le_of_lt h (by decide)
/-! looked -/
def spLooked : Sp := fun vs H Q _ => ∃ (l : List Nat) (k : Nat), vs = [.str (tx l), .int k] ∧ 1 ≤ k ∧ k ≤ 6 ∧ 1 ≤ l.length ∧ l.length ≤ 24 ∧ (∀ d ∈ l, d < k) ∧ Q .non H
theorem ok_looked (T : Tx K mg) : Dok P w K mg base CX0 2 "looked" ["word", "kinds"] spLooked := by
  obtain ⟨fd, F⟩ := T.f_looked
  obtain ⟨tL, hL⟩ := T.v_LONGEST
  have D1 : Dok P w K mg base CX0 1 "letters" ["kinds"] spLetters := ok_letters T
  refine Dok.of F T.g_looked sc_looked (fun _ _ _ _ _ _ us hl => match us, hl with | [_, _], _ => rfl) (fun vs H Q E h => ?_) (fun cdv A outer s H vs Q E hr h => ?_)
  · obtain ⟨l, k, rfl, _⟩ := h
    rfl
  · obtain ⟨l, k, rfl, h1, h6, hl1, hl24, hd, q⟩ := h
    refine ⟨_, pss_cons (ps_set (i := 2) sc_looked.nd rfl (.inl rfl) (pcall D1 hr (pa_cons (pv 1) pa_nil)))
      (pss_cons (ps_if (PW.pt (pw_or (pt_cmpR op_lt (pe_callB call_len_str (by rfl) T.n_len PySem.boot_len (pa_cons (pv 0) pa_nil)) pe_int (nomark _)) (pw_or1 (pt_cmpR op_gt (pe_callB call_len_str (by rfl) T.n_len PySem.boot_len (pa_cons (pv 0) pa_nil)) (pe_glob rfl hL (rel_i _ _)) (nomark _))))) pss_never pss_nil)
      (pss_one (ps_for PassesOwn.never rfl (pi_str (pv 0)) (pg_name (i := 3) sc_looked.nd rfl (.inl rfl)) (pss_one (ps_if (pt_cmpR op_notIn_sign (pv 3) (pv 2) rfl) pss_never pss_nil))))), ?_⟩
    refine ⟨_, rfl, k, rfl, h1, h6, ?_⟩
    refine ⟨_, rfl, _, rfl, by rw [tx_len]; exact szl (by omega), _, _, rfl, rfl, _, rfl, ifN (by rw [tx_len]; omega) ?_⟩
    refine ⟨_, rfl, _, rfl, by rw [tx_len]; exact szl (by omega), _, _, rfl, rfl, _, rfl, ifN (by rw [tx_len]; omega) ?_⟩
    refine ⟨_, rfl, _, rfl, for_it walk_str (fun i σ H' => ∃ y, σ = [some (.str (tx l)), some (.int k), some (.str (tx (List.range k))), y] ∧ H' = H) ⟨none, rfl, rfl⟩ (fun _ _ _ _ _ => trivial) ?_ ?_⟩
    · rintro i x σ H1 H2 hi ⟨y, rfl, rfl⟩ ⟨rfl, c, hc, rfl⟩
      obtain ⟨d, hd1, rfl⟩ := tx_get hc
      have hdk := hd d (List.mem_of_getElem? hd1)
      refine ⟨_, rfl, _, rfl, _, _, rfl, rfl, _, rfl, ?_⟩
      rw [decide_eq_true ((mem_tx d _).mpr (List.mem_range.mpr hdk))]
      exact iteF ⟨_, rfl, rfl⟩
    · rintro σ H' ⟨y, rfl, rfl⟩
      exact q
/-! number_of -/
def spNumber : Sp := fun vs H Q _ => ∃ (l : List Nat) (k : Nat), vs = [.str (tx l), .int k] ∧ 1 ≤ k ∧ k ≤ 6 ∧ 1 ≤ l.length ∧ l.length ≤ 24 ∧ (∀ d ∈ l, d < k) ∧ Q (.int (num k l)) H
theorem occ_abc : ∀ d, d < 6 → Builtin.Str.occurrences (tx (List.range 6)) (⟨#[97 + d]⟩ : Str) 0 (tx (List.range 6)).length 1 = [d] := by decide +kernel
theorem num_take {k : Nat} {l : List Nat} {i d : Nat} (h : l[i]? = some d) : num k (l.take (i + 1)) = num k (l.take i) * k + d := by
  rw [List.take_add_one, h]
  exact num_snoc k _ d
theorem ok_number_of (T : Tx K mg) : Dok P w K mg base CX0 3 "number_of" ["word", "kinds"] spNumber := by
  obtain ⟨fd, F⟩ := T.f_number_of
  obtain ⟨tL, hL⟩ := T.LETTERS
  have D2 : Dok P w K mg base CX0 2 "looked" ["word", "kinds"] spLooked := ok_looked T
  refine Dok.of F T.g_number_of sc_number_of (fun _ _ _ _ _ _ us hl => match us, hl with | [_, _], _ => rfl) (fun vs H Q E h => ?_) (fun cdv A outer s H vs Q E hr h => ?_)
  · obtain ⟨l, k, rfl, _⟩ := h
    rfl
  · obtain ⟨l, k, rfl, h1, h6, hl1, hl24, hd, q⟩ := h
    refine ⟨_, pss_cons (ps_expr (pcall D2 hr (pa_cons (pv 0) (pa_cons (pv 1) pa_nil))))
      (pss_cons (ps_set (i := 2) sc_number_of.nd rfl (.inl rfl) pe_int)
      (pss_cons (ps_for PassesOwn.never rfl (pi_str (pv 0)) (pg_name (i := 3) sc_number_of.nd rfl (.inl rfl)) (pss_one (ps_set (i := 2) sc_number_of.nd rfl (.inl rfl) (pe_op op_add (pe_op op_mul (pv 2) (pv 1)) (pe_m1 PySem.F.slot_str_index PySem.F.type_str_index mt_sindex (pe_glob rfl hL (rel_s _ _)) (pv 3))))))
      (pss_one (ps_ret (pv 2))))), ?_⟩
    refine ⟨_, rfl, _, rfl, l, k, rfl, h1, h6, hl1, hl24, hd, ?_⟩
    refine ⟨_, rfl, _, rfl, for_it walk_str (fun i σ H' => ∃ y, σ = [some (.str (tx l)), some (.int k), some (.int (num k (l.take i))), y] ∧ H' = H) ⟨none, rfl, rfl⟩ (fun _ _ _ _ _ => trivial) ?_ ?_⟩
    · rintro i x σ H1 H2 hi ⟨y, rfl, rfl⟩ ⟨rfl, c, hc, rfl⟩
      obtain ⟨d, hd1, rfl⟩ := tx_get hc
      have hdk := hd d (List.mem_of_getElem? hd1)
      refine ⟨_, rfl, _, rfl, _, _, rfl, rfl, .inr ⟨by omega, by omega⟩, ⟨_, rfl⟩, _, rfl, _, _, d, [], rfl, rfl, occ_abc d (by omega), _, _, rfl, rfl, ?_⟩
      refine ⟨some (.str ⟨#[97 + d]⟩), ?_, rfl⟩
      rw [num_take hd1, Int.natCast_add, Int.natCast_mul]
      rfl
    · rintro σ H' ⟨y, rfl, rfl⟩
      refine ⟨_, rfl, ?_⟩
      rw [tx_size, List.take_length]
      exact q
/-! has_letters -/
def spHas : Sp := fun vs H Q _ => ∃ (l : List Nat) (k : Nat), vs = [.str (tx l), .int k] ∧ 1 ≤ k ∧ k ≤ 6 ∧ Q (.bl (decide (∀ d ∈ l, d < k))) H
theorem ok_has_letters (T : Tx K mg) : Dok P w K mg base CX0 2 "has_letters" ["text", "kinds"] spHas := by
  obtain ⟨fd, F⟩ := T.f_has_letters
  have D1 : Dok P w K mg base CX0 1 "letters" ["kinds"] spLetters := ok_letters T
  refine Dok.of F T.g_has_letters sc_has_letters (fun _ _ _ _ _ _ us hl => match us, hl with | [_, _], _ => rfl) (fun vs H Q E h => ?_) (fun cdv A outer s H vs Q E hr h => ?_)
  · obtain ⟨l, k, rfl, _⟩ := h
    rfl
  · obtain ⟨l, k, rfl, h1, h6, q⟩ := h
    refine ⟨_, pss_cons (ps_set (i := 2) sc_has_letters.nd rfl (.inl rfl) (pcall D1 hr (pa_cons (pv 1) pa_nil)))
      (pss_cons (ps_for PassesOwn.never rfl (pi_str (pv 0)) (pg_name (i := 3) sc_has_letters.nd rfl (.inl rfl)) (pss_one (ps_if (pt_cmpR op_notIn_sign (pv 3) (pv 2) rfl) (pss_one (ps_ret pe_bl)) pss_nil)))
      (pss_one (ps_ret pe_bl))), ?_⟩
    refine ⟨_, rfl, k, rfl, h1, h6, ?_⟩
    refine ⟨_, rfl, _, rfl, for_it walk_str (fun i σ H' => ∃ y, σ = [some (.str (tx l)), some (.int k), some (.str (tx (List.range k))), y] ∧ H' = H ∧ ∀ d ∈ l.take i, d < k) ⟨none, rfl, rfl, fun d hd => by simp at hd⟩ (fun _ _ _ _ _ => trivial) ?_ ?_⟩
    · rintro i x σ H1 H2 hi ⟨y, rfl, rfl, hlt⟩ ⟨rfl, c, hc, rfl⟩
      obtain ⟨d, hd1, rfl⟩ := tx_get hc
      refine ⟨_, rfl, _, rfl, _, _, rfl, rfl, _, rfl, ?_⟩
      by_cases c : d < k
      · rw [decide_eq_true ((mem_tx d _).mpr (List.mem_range.mpr c))]
        refine iteF ⟨_, rfl, rfl, fun e he => ?_⟩
        rw [List.take_add_one, hd1] at he
        rcases List.mem_append.mp he with he | he
        · exact hlt e he
        · have : e = d := by simpa using he
          exact this ▸ c
      · rw [decide_eq_false (fun z => c (List.mem_range.mp ((mem_tx d _).mp z)))]
        refine iteT ?_
        rw [decide_eq_false (fun z => c (z d (List.mem_of_getElem? hd1)))] at q
        exact q
    · rintro σ H' ⟨y, rfl, rfl, hlt⟩
      rw [tx_size, List.take_length] at hlt
      rw [decide_eq_true hlt] at q
      exact q
/-! count_of, word_count -/
def spCount : Sp := fun vs H Q _ => ∃ L k : Nat, vs = [.int L, .int k] ∧ 1 ≤ k ∧ k ≤ 6 ∧ 1 ≤ L ∧ L ≤ 24 ∧ Q (.int ((k ^ L : Nat) : Int)) H
theorem pow_step (k i : Nat) : ((k ^ i : Nat) : Int) * (k : Int) = ((k ^ (i + 1) : Nat) : Int) := by
  rw [Nat.pow_succ, Int.natCast_mul]
theorem ok_count_of (T : Tx K mg) : Dok P w K mg base CX0 2 "count_of" ["length", "kinds"] spCount := by
  obtain ⟨fd, F⟩ := T.f_count_of
  obtain ⟨tL, hL⟩ := T.v_LONGEST
  have D1 : Dok P w K mg base CX0 1 "letters" ["kinds"] spLetters := ok_letters T
  refine Dok.of F T.g_count_of sc_count_of (fun _ _ _ _ _ _ us hl => match us, hl with | [_, _], _ => rfl) (fun vs H Q E h => ?_) (fun cdv A outer s H vs Q E hr h => ?_)
  · obtain ⟨L, k, rfl, _⟩ := h
    rfl
  · obtain ⟨L, k, rfl, h1, h6, hL1, hL24, q⟩ := h
    refine ⟨_, pss_cons (ps_expr (pcall D1 hr (pa_cons (pv 1) pa_nil)))
      (pss_cons (ps_if (PW.pt (pw_or (pt_cmpR op_lt (pv 0) pe_int (nomark _)) (pw_or1 (pt_cmpR op_gt (pv 0) (pe_glob rfl hL (rel_i _ _)) (nomark _))))) pss_never pss_nil)
      (pss_cons (ps_set (i := 2) sc_count_of.nd rfl (.inl rfl) pe_int)
      (pss_cons (ps_for PassesOwn.never rfl (pi_range1 rfl T.n_range (pa_cons (pv 0) pa_nil)) (pg_name (i := 3) sc_count_of.nd rfl (.inl rfl)) (pss_one (ps_set (i := 2) sc_count_of.nd rfl (.inl rfl) (pe_op op_mul (pv 2) (pv 1)))))
      (pss_one (ps_ret (pv 2)))))), ?_⟩
    refine ⟨_, rfl, k, rfl, h1, h6, ?_⟩
    refine ⟨_, rfl, _, _, rfl, rfl, _, rfl, ifN (by omega) ?_⟩
    refine ⟨_, rfl, _, _, rfl, rfl, _, rfl, ifN (by omega) ?_⟩
    refine ⟨_, rfl, _, rfl, by omega, by omega, for_it (walk_range (lo := 0) (n := (L : Int).toNat)) (fun i σ H' => ∃ y, σ = [some (.int L), some (.int k), some (.int ((k ^ i : Nat) : Int)), y] ∧ H' = H) ⟨none, rfl, rfl⟩ (fun _ _ _ _ _ => trivial) ?_ ?_⟩
    · rintro i x σ H1 H2 hi ⟨y, rfl, rfl⟩ ⟨rfl, rfl⟩
      refine ⟨_, rfl, _, rfl, _, _, rfl, rfl, .inr ⟨by omega, by omega⟩, ⟨some (.int (0 + (i : Int))), ?_, rfl⟩⟩
      rw [← pow_step]
      rfl
    · rintro σ H' ⟨y, rfl, rfl⟩
      refine ⟨_, rfl, ?_⟩
      rw [Int.toNat_natCast]
      exact q
theorem ok_word_count (T : Tx K mg) : Dok P w K mg base CX0 2 "word_count" ["length", "kinds"] spCount := by
  obtain ⟨fd, F⟩ := T.f_word_count
  obtain ⟨tL, hL⟩ := T.v_MOST_LETTERS
  have D1 : Dok P w K mg base CX0 1 "letters" ["kinds"] spLetters := ok_letters T
  refine Dok.of F T.g_word_count sc_word_count (fun _ _ _ _ _ _ us hl => match us, hl with | [_, _], _ => rfl) (fun vs H Q E h => ?_) (fun cdv A outer s H vs Q E hr h => ?_)
  · obtain ⟨L, k, rfl, _⟩ := h
    rfl
  · obtain ⟨L, k, rfl, h1, h6, hL1, hL24, q⟩ := h
    refine ⟨_, pss_cons (ps_expr (pcall D1 hr (pa_cons (pv 1) pa_nil)))
      (pss_cons (ps_if (PW.pt (pw_or (pt_cmpR op_lt (pv 0) pe_int (nomark _)) (pw_or1 (pt_cmpR op_gt (pv 0) (pe_glob rfl hL (rel_i _ _)) (nomark _))))) pss_never pss_nil)
      (pss_cons (ps_set (i := 2) sc_word_count.nd rfl (.inl rfl) pe_int)
      (pss_cons (ps_for PassesOwn.never rfl (pi_range1 rfl T.n_range (pa_cons (pv 0) pa_nil)) (pg_name (i := 3) sc_word_count.nd rfl (.inl rfl)) (pss_one (ps_set (i := 2) sc_word_count.nd rfl (.inl rfl) (pe_op op_mul (pv 2) (pv 1)))))
      (pss_one (ps_ret (pv 2)))))), ?_⟩
    refine ⟨_, rfl, k, rfl, h1, h6, ?_⟩
    refine ⟨_, rfl, _, _, rfl, rfl, _, rfl, ifN (by omega) ?_⟩
    refine ⟨_, rfl, _, _, rfl, rfl, _, rfl, ifN (by omega) ?_⟩
    refine ⟨_, rfl, _, rfl, by omega, by omega, for_it (walk_range (lo := 0) (n := (L : Int).toNat)) (fun i σ H' => ∃ y, σ = [some (.int L), some (.int k), some (.int ((k ^ i : Nat) : Int)), y] ∧ H' = H) ⟨none, rfl, rfl⟩ (fun _ _ _ _ _ => trivial) ?_ ?_⟩
    · rintro i x σ H1 H2 hi ⟨y, rfl, rfl⟩ ⟨rfl, rfl⟩
      refine ⟨_, rfl, _, rfl, _, _, rfl, rfl, .inr ⟨by omega, by omega⟩, ⟨some (.int (0 + (i : Int))), ?_, rfl⟩⟩
      rw [← pow_step]
      rfl
    · rintro σ H' ⟨y, rfl, rfl⟩
      refine ⟨_, rfl, ?_⟩
      rw [Int.toNat_natCast]
      exact q
end
end RJ
set_option Elab.async false
set_option linter.all false
set_option maxRecDepth 100000
set_option maxHeartbeats 4000000
namespace RJ
open PySem PySem.Spec PyProof.Rows L2
section
variable {P : Program} {w : World} {K : PySem.W.Frag} {mg : Str → Option Value} {base : Heap}
theorem same_new {H : Hp} {p : Addr} {o : HO} (h : H p = none) : Same H (upd H p o) := fun b x e => by
  rw [upd_ne (ne_of_none e h)]
  exact e
/-- an object that H does not know may change -/
theorem same_mut {H H' : Hp} {p : Addr} {o : HO} (s : Same H H') (h : H p = none) : Same H (upd H' p o) := fun b x e => by
  rw [upd_ne (ne_of_none e h)]
  exact s b x e
theorem yes_if {σ : L2.St} {H : Hp} {A B : Hp → Prop} (h : A H) : tYes σ H (fun b H3 => if b = true then A H3 else B H3) := by
  show if true = true then A H else B H
  exact iteT h
theorem walk_rng {n : Nat} : Walk (Itr 0 n) n (fun _ => True) (YFn fun i => .int (i : Nat)) :=
  walk_range.mono (fun _ h => h) fun i H x H' _ _ y => ⟨y.1, y.2.trans (by show V.int (0 + (i : Int)) = V.int (i : Int); rw [Int.zero_add])⟩
/-! word_of -/
def spWordOf : Sp := fun vs H Q _ => ∃ i L k : Nat, vs = [.int i, .int L, .int k] ∧ 1 ≤ k ∧ k ≤ 6 ∧ 1 ≤ L ∧ L ≤ 24 ∧ i < k ^ L ∧ ∀ H', Same H H' → Q (.str (word L k i)) H'
theorem digs_rev (k i L : Nat) : ((List.range L).map fun t => i / k ^ t % k).reverse = wdig L k i := by
  refine List.ext_getElem? fun j => ?_
  rcases Nat.lt_or_ge j L with c | c
  · rw [List.getElem?_reverse (by rw [List.length_map, List.length_range]; exact c), List.length_map, List.length_range, wdig_get c, List.getElem?_map, List.getElem?_range (by omega)]
    rfl
  · rw [List.getElem?_eq_none (by rw [List.length_reverse, List.length_map, List.length_range]; exact c), List.getElem?_eq_none (by rw [wdig_len]; exact c)]
theorem map_tx_ones (l : List Nat) : (l.map fun d => tx [d]) = (l.map fun d => [d]).map tx := by
  rw [List.map_map]
  rfl
theorem join_ones (l : List Nat) : Txt.join (Str.ofString "") (l.map fun d => tx [d]) = tx l := by
  rw [map_tx_ones, join_tx, flat_ones]
theorem ones_len (l : List Nat) (a : Str) : ((l.map fun d => tx [d]).map (·.length)).sum = l.length := by
  rw [map_tx_ones, join_len, flat_ones]
theorem ok_word_of (T : Tx K mg) : Dok P w K mg base CX0 3 "word_of" ["number", "length", "kinds"] spWordOf := by
  obtain ⟨fd, F⟩ := T.f_word_of
  obtain ⟨tL, hL⟩ := T.LETTERS
  have D1 : Dok P w K mg base CX0 2 "count_of" ["length", "kinds"] spCount := ok_count_of T
  refine Dok.of F T.g_word_of sc_word_of (fun _ _ _ _ _ _ us hl => match us, hl with | [_, _, _], _ => rfl) (fun vs H Q E h => ?_) (fun cdv A outer s H vs Q E hr h => ?_)
  · obtain ⟨i, L, k, rfl, _⟩ := h
    rfl
  · obtain ⟨i, L, k, rfl, h1, h6, hL1, hL24, hi, q⟩ := h
    have hc : ∀ j, i / k ^ j % k < k := fun j => Nat.mod_lt _ h1
    refine ⟨_, pss_cons (ps_set (i := 3) sc_word_of.nd rfl (.inl rfl) (pcall D1 hr (pa_cons (pv 1) (pa_cons (pv 2) pa_nil))))
      (pss_cons (ps_if (PW.pt (pw_or (pt_cmpR op_lt (pv 0) pe_int (nomark _)) (pw_or1 (pt_cmpR op_ge (pv 0) (pv 3) (nomark _))))) pss_never pss_nil)
      (pss_cons (ps_set (i := 4) sc_word_of.nd rfl (.inl rfl) (pe_lst pa_nil))
      (pss_cons (ps_for PassesOwn.never rfl (pi_range1 rfl T.n_range (pa_cons (pv 1) pa_nil)) (pg_name (i := 5) sc_word_of.nd rfl (.inl rfl))
        (pss_cons (ps_expr (pe_bm PySem.F.plainAttrs_list PySem.F.slot_list_append PySem.F.type_list_append mt_append (pv 4) (pa_cons (pe_ix ix_str (pe_glob rfl hL (rel_s _ _)) (pe_op op_mod (pv 0) (pv 2)) (fun _ _ => rfl)) pa_nil)))
        (pss_one (ps_set (i := 0) sc_word_of.nd rfl (.inl rfl) (pe_op op_fdiv (pv 0) (pv 2))))))
      (pss_one (ps_ret (pe_joinRev rfl pe_str rfl T.n_reversed (pa_cons (pv 4) pa_nil))))))), ?_⟩
    refine ⟨_, rfl, _, rfl, L, k, rfl, h1, h6, hL1, hL24, ?_⟩
    refine ⟨_, rfl, _, _, rfl, rfl, _, rfl, ifN (by omega) ?_⟩
    refine ⟨_, rfl, _, rfl, _, _, rfl, rfl, _, rfl, ifN (by omega) ?_⟩
    refine ⟨Nat.zero_le _, fun o no => ?_⟩
    refine ⟨_, rfl, _, rfl, by omega, by omega, for_it (walk_range (lo := 0) (n := (L : Int).toNat)) (fun j σ H' => ∃ y, σ = [some (.int ((i / k ^ j : Nat) : Int)), some (.int L), some (.int k), some (.int ((k ^ L : Nat) : Int)), some (.ref o), y] ∧ Same H H' ∧ H' o = some (.lst (((List.range j).map fun t => tx [i / k ^ t % k]).map V.str)))
      ⟨none, by rw [Nat.pow_zero, Nat.div_one]; rfl, same_new no, upd_same⟩ (fun _ _ _ _ _ => trivial) ?_ ?_⟩
    · rintro j x σ H1 H2 hj ⟨y, rfl, sm, ho⟩ ⟨rfl, rfl⟩
      have hk : ((i / k ^ j : Nat) : Int) % (k : Int) = ((i / k ^ j % k : Nat) : Int) := by omega
      refine ⟨_, rfl, .inl ⟨rfl, _, SqL.of ho⟩, _, rfl, _, rfl, _, _, rfl, rfl, by omega, _, _, 97 + i / k ^ j % k, rfl, rfl, by rw [tx_len]; decide, ?_, ?_⟩
      · rw [hk]
        exact at_tx (List.getElem?_range (by have := hc j; omega))
      · refine ⟨o, _, _, rfl, rfl, ho, ?_, ?_⟩
        · rw [List.length_map, List.length_map, List.length_range]
          exact szlt (by omega)
        · refine ⟨_, rfl, _, rfl, _, _, rfl, rfl, ⟨by omega, by omega⟩, some (.int (0 + (j : Int))), ?_, same_mut sm no, ?_⟩
          · rw [Nat.pow_succ, ← Nat.div_div_eq_div_mul, Int.natCast_ediv]
            rfl
          · rw [upd_same, List.range_succ, List.map_append, List.map_append]
            rfl
    · rintro σ H' ⟨y, rfl, sm, ho⟩
      rw [Int.toNat_natCast] at ho
      refine ⟨⟨_, rfl⟩, _, rfl, _, rfl, .inl ⟨o, _, rfl, SqL.of ho, ?_, ?_⟩⟩
      · have e0 : ((List.range L).map fun t => tx [i / k ^ t % k]) = ((List.range L).map fun t => i / k ^ t % k).map fun d => tx [d] := by
          rw [List.map_map]
          rfl
        rw [e0, ones_len _ (Str.ofString ""), List.length_map, List.length_map, List.length_range, ofs_empty_len]
        omega
      · have e3 : ((List.range L).map fun t => tx [i / k ^ t % k]).reverse = (((List.range L).map fun t => i / k ^ t % k).reverse).map fun d => tx [d] := by
          rw [List.map_reverse, List.map_map]
          rfl
        rw [e3, join_ones, digs_rev]
        exact q H' sm
/-! all_words -/
def spAllWords : Sp := fun vs H Q _ => ∃ L k : Nat, vs = [.int L, .int k] ∧ 1 ≤ k ∧ k ≤ 6 ∧ 1 ≤ L ∧ L ≤ 24 ∧ k ^ L ≤ 64 ∧ ∀ H' p, Same H H' → H p = none → H' p = some (.lst ((words L k).map V.str)) → Q (.ref p) H'
theorem words_take {L k i : Nat} (h : i < k ^ L) : ((List.range (i + 1)).map (word L k)).map V.str = ((List.range i).map (word L k)).map V.str ++ [V.str (word L k i)] := by
  rw [List.range_succ, List.map_append, List.map_append]
  rfl
theorem ok_all_words (T : Tx K mg) : Dok P w K mg base CX0 4 "all_words" ["length", "kinds"] spAllWords := by
  obtain ⟨fd, F⟩ := T.f_all_words
  obtain ⟨tL, hL⟩ := T.v_MOST_WORDS_words
  have D1 : Dok P w K mg base CX0 2 "count_of" ["length", "kinds"] spCount := ok_count_of T
  have D2 : Dok P w K mg base CX0 3 "word_of" ["number", "length", "kinds"] spWordOf := ok_word_of T
  refine Dok.of F T.g_all_words sc_all_words (fun _ _ _ _ _ _ us hl => match us, hl with | [_, _], _ => rfl) (fun vs H Q E h => ?_) (fun cdv A outer s H vs Q E hr h => ?_)
  · obtain ⟨L, k, rfl, _⟩ := h
    rfl
  · obtain ⟨L, k, rfl, h1, h6, hL1, hL24, hn, q⟩ := h
    refine ⟨_, pss_cons (ps_set (i := 2) sc_all_words.nd rfl (.inl rfl) (pcall D1 (hr.mono (by decide)) (pa_cons (pv 0) (pa_cons (pv 1) pa_nil))))
      (pss_cons (ps_if (pt_cmpR op_gt (pv 2) (pe_glob rfl hL (rel_i _ _)) (nomark _)) pss_never pss_nil)
      (pss_one (ps_ret (pe_lc (own := [("number", 3)]) (g := gName 3) (tt := tYes) rfl sc_all_words.nd (pi_range1 rfl T.n_range (pa_cons (pv 2) pa_nil)) (blkOk_by (N := n_all_words) (sc := defScope s_all_words) (by decide +kernel))
        (fun _ _ _ _ _ => pg_name (i := 3) sc_all_words.nd rfl (.inl rfl)) (fun _ _ _ _ _ => pts_nil) (fun _ _ _ _ _ => pcall D2 hr (pa_cons (pv 3) (pa_cons (pv 0) (pa_cons (pv 1) pa_nil)))))))), ?_⟩
    refine ⟨_, rfl, _, rfl, L, k, rfl, h1, h6, hL1, hL24, ?_⟩
    refine ⟨_, rfl, _, _, rfl, rfl, _, rfl, ifN (by omega) ?_⟩
    refine ⟨_, rfl, _, rfl, by omega, by omega, fun D hD => lc_it (walk_rng (n := ((k ^ L : Nat) : Int).toNat)) (fun i H' => Same H H' ∧ H' D = some (.lst (((List.range i).map (word L k)).map V.str))) ⟨same_new hD, upd_same⟩ (fun _ _ _ _ => trivial) ?_ ?_⟩
    · rintro i x H1 H2 hi ⟨sm, hD'⟩ ⟨rfl, rfl⟩
      rw [Int.toNat_natCast] at hi
      refine ⟨rfl, yes_if ⟨_, rfl, _, rfl, _, rfl, i, L, k, rfl, h1, h6, hL1, hL24, hi, fun H' sm' => ⟨_, sm' _ _ hD', ?_, same_mut (sm.trans sm') hD, ?_⟩⟩⟩
      · rw [List.length_map, List.length_map, List.length_range]
        exact szlt (by omega)
      · rw [upd_same, words_take hi]
    · rintro H' ⟨sm, hD'⟩
      rw [Int.toNat_natCast] at hD'
      exact q H' D sm hD hD'
/-! windows of a ring -/
def spWindows : Sp := fun vs H Q _ => ∃ (x : List Nat) (L : Nat), vs = [.str (tx x), .int L, .bl true] ∧ 1 ≤ x.length ∧ x.length ≤ 64 ∧ 1 ≤ L ∧ L ≤ 8 ∧ ∀ H' p, Same H H' → H p = none → H' p = some (.lst (((List.range x.length).map fun k => tx (cyc x L k)).map V.str)) → Q (.ref p) H'
theorem rept_succ (r : Nat) (x : List Nat) : rept (r + 1) x = rept r x ++ x := by
  unfold rept
  rw [List.replicate_succ', List.flatten_append]
  simp
theorem ok_windows (T : Tx K mg) : Dok P w K mg base CX0 1 "windows" ["text", "length", "ring"] spWindows := by
  obtain ⟨fd, F⟩ := T.f_windows
  refine Dok.of F T.g_windows sc_windows (fun _ _ _ _ _ _ us hl => match us, hl with | [_, _, _], _ => rfl) (fun vs H Q E h => ?_) (fun cdv A outer s H vs Q E hr h => ?_)
  · obtain ⟨x, L, rfl, _⟩ := h
    rfl
  · obtain ⟨x, L, rfl, hx1, hx64, hL1, hL8, q⟩ := h
    refine ⟨_, pss_cons (ps_if (pt_not (pt_val (pv 2))) pss_never pss_nil)
      (pss_cons (ps_if (pt_cmpR op_eq (pv 0) pe_str (nomark _)) pss_never pss_nil)
      (pss_cons (ps_set (i := 3) sc_windows.nd rfl (.inr rfl) (pv 0))
      (pss_cons (ps_while PassesOwn.never (pt_cmpR op_lt (pe_callB call_len_str (by rfl) T.n_len PySem.boot_len (pa_cons (pv 3) pa_nil)) (pe_op op_add (pe_callB call_len_str (by rfl) T.n_len PySem.boot_len (pa_cons (pv 0) pa_nil)) (pv 1)) (nomark _))
        (pss_one (ps_set (i := 3) sc_windows.nd rfl (.inr rfl) (pe_op op_add_str (pv 3) (pv 0)))))
      (pss_one (ps_ret (pe_lc (own := [("k", 4)]) (g := gName 4) (tt := tYes) rfl sc_windows.nd (pi_range1 rfl T.n_range (pa_cons (pe_callB call_len_str (by rfl) T.n_len PySem.boot_len (pa_cons (pv 0) pa_nil)) pa_nil)) (blkOk_by (N := n_windows) (sc := defScope s_windows) (by decide +kernel))
        (fun _ _ _ _ _ => pg_name (i := 4) sc_windows.nd rfl (.inl rfl)) (fun _ _ _ _ _ => pts_nil) (fun _ _ _ _ _ => pe_slice sl_str (pv 3) (po_some (pv 4)) (po_some (pe_op op_add (pv 4) (pv 1)))))))))), ?_⟩
    refine ⟨_, rfl, true, rfl, iteF ?_⟩
    refine ⟨_, rfl, rfl, _, rfl, ifN (fun z => ?_) ?_⟩
    · have z1 : tx x = Str.ofString "" := V.str.inj z
      rw [tx_nil] at z1
      have z2 := tx_inj z1
      rw [z2] at hx1
      exact absurd hx1 (by decide)
    refine ⟨_, rfl, ?_⟩
    refine ⟨fun m σ H' => ∃ r, 1 ≤ r ∧ r * x.length ≤ 200 ∧ m = 300 - r * x.length ∧ σ = [some (.str (tx x)), some (.int L), some (.bl true), some (.str (tx (rept r x))), none] ∧ H' = H,
      ⟨_, 1, Nat.le_refl _, by omega, rfl, by
        have e : rept 1 x = x := by simp [rept]
        rw [e]
        rfl, rfl⟩, ?_⟩
    rintro m σ H' ⟨r, hr1, hr2, rfl, rfl, rfl⟩
    have e1 : (tx (rept r x)).length = r * x.length := by rw [tx_len, rept_len]
    refine ⟨_, rfl, _, rfl, by rw [e1]; exact szl (by omega), _, rfl, _, rfl, by rw [tx_len]; exact szl (by omega), _, rfl, _, _, rfl, rfl, _, _, rfl, rfl, _, rfl, ifB (fun c => ?_) (fun c => ?_)⟩
    · rw [e1, tx_len] at c
      have c' : r * x.length < x.length + L := by omega
      have e2 : (r + 1) * x.length = r * x.length + x.length := Nat.succ_mul _ _
      refine ⟨fun σ H'' => ∃ r', r' = r + 1 ∧ σ = [some (.str (tx x)), some (.int L), some (.bl true), some (.str (tx (rept r' x))), none] ∧ H'' = H', ?_, ?_⟩
      · rintro σ H'' ⟨r', rfl, rfl, rfl⟩
        exact ⟨300 - (r + 1) * x.length, by omega, r + 1, by omega, by omega, rfl, rfl, rfl⟩
      · refine ⟨_, rfl, _, rfl, _, _, rfl, rfl, by rw [e1, tx_len]; exact szl (by omega), r + 1, rfl, ?_, rfl⟩
        rw [tx_app, ← rept_succ]
        rfl
    · rw [e1, tx_len] at c
      have c' : x.length + L ≤ r * x.length := by omega
      refine ⟨_, rfl, _, rfl, by rw [tx_len]; exact szl (by omega), _, rfl, by rw [tx_len]; omega, by rw [tx_len]; omega, fun D hD => lc_it walk_rng (fun i H2 => Same H' H2 ∧ H2 D = some (.lst (((List.range i).map fun k => tx (cyc x L k)).map V.str))) ⟨same_new hD, upd_same⟩ (fun _ _ _ _ => trivial) ?_ ?_⟩
      · rintro i y H1 H2 hi ⟨sm, hD'⟩ ⟨rfl, rfl⟩
        have hi' : i < x.length := by
          rw [Int.toNat_natCast, tx_len] at hi
          exact hi
        refine ⟨rfl, yes_if ⟨_, rfl, _, rfl, _, rfl, _, rfl, _, rfl, _, _, rfl, rfl, _, rfl, tx (rept r x), rfl, by rw [e1]; exact szl (by omega), _, hD', ?_, same_mut sm hD, ?_⟩⟩
        · rw [List.length_map, List.length_map, List.length_range]
          exact szlt (by omega)
        · have e3 : (i : Int) + (L : Int) = ((i + L : Nat) : Int) := by omega
          rw [upd_same, e3, cut_mid, Nat.add_sub_cancel_left, rept_cut (by omega), List.range_succ, List.map_append, List.map_append]
          rfl
      · rintro H2 ⟨sm, hD'⟩
        rw [Int.toNat_natCast, tx_len] at hD'
        exact q H2 D sm hD hD'
/-! size_asked -/
/-- a length m + 1 and kinds that rules have -/
structure Cfg (m k : Nat) : Prop where
  m7 : m ≤ 7
  k1 : 1 ≤ k
  k6 : k ≤ 6
  sz : k ^ (m + 1) ≤ 64
theorem Cfg.pos {m k : Nat} (c : Cfg m k) : 0 < k ^ (m + 1) := Nat.pow_pos c.k1
def spSize : Sp := fun vs H Q _ => ∃ m k : Nat, vs = [.int ((m + 1 : Nat) : Int), .int k] ∧ Cfg m k ∧ Q (.int ((k ^ (m + 1) : Nat) : Int)) H
theorem ok_size_asked (T : Tx K mg) : Dok P w K mg base CX0 3 "size_asked" ["length", "kinds"] spSize := by
  obtain ⟨fd, F⟩ := T.f_size_asked
  obtain ⟨t1, hL1⟩ := T.v_MOST_LENGTH
  obtain ⟨t2, hL2⟩ := T.v_MOST_WORDS_rules
  have D1 : Dok P w K mg base CX0 1 "letters" ["kinds"] spLetters := ok_letters T
  have D2 : Dok P w K mg base CX0 2 "word_count" ["length", "kinds"] spCount := ok_word_count T
  refine Dok.of F T.g_size_asked sc_size_asked (fun _ _ _ _ _ _ us hl => match us, hl with | [_, _], _ => rfl) (fun vs H Q E h => ?_) (fun cdv A outer s H vs Q E hr h => ?_)
  · obtain ⟨m, k, rfl, _⟩ := h
    rfl
  · obtain ⟨m, k, rfl, c, q⟩ := h
    have c1 := c.m7
    have c2 := c.sz
    refine ⟨_, pss_cons (ps_expr (pcall D1 (hr.mono (by decide)) (pa_cons (pv 1) pa_nil)))
      (pss_cons (ps_if (PW.pt (pw_or (pt_cmpR op_lt (pv 0) pe_int (nomark _)) (pw_or1 (pt_cmpR op_gt (pv 0) (pe_glob rfl hL1 (rel_i _ _)) (nomark _))))) pss_never pss_nil)
      (pss_cons (ps_set (i := 2) sc_size_asked.nd rfl (.inl rfl) (pcall D2 hr (pa_cons (pv 0) (pa_cons (pv 1) pa_nil))))
      (pss_cons (ps_if (pt_cmpR op_gt (pv 2) (pe_glob rfl hL2 (rel_i _ _)) (nomark _)) pss_never pss_nil)
      (pss_one (ps_ret (pv 2)))))), ?_⟩
    refine ⟨_, rfl, k, rfl, c.k1, c.k6, ?_⟩
    refine ⟨_, rfl, _, _, rfl, rfl, _, rfl, ifN (by omega) ?_⟩
    refine ⟨_, rfl, _, _, rfl, rfl, _, rfl, ifN (by omega) ?_⟩
    refine ⟨_, rfl, _, rfl, m + 1, k, rfl, c.k1, c.k6, by omega, by omega, ?_⟩
    refine ⟨_, rfl, _, _, rfl, rfl, _, rfl, ifN (by omega) ?_⟩
    exact ⟨_, rfl, q⟩
/-! put_at -/
def spPut : Sp := fun vs H Q _ => ∃ (l : List Nat) (i d : Nat), vs = [.str (tx l), .int i, .str (tx [d])] ∧ i < l.length ∧ l.length ≤ 1000 ∧ Q (.str (tx (l.set i d))) H
theorem ok_put_at (T : Tx K mg) : Dok P w K mg base CX0 1 "put_at" ["text", "at", "letter"] spPut := by
  obtain ⟨fd, F⟩ := T.f_put_at
  refine Dok.of F T.g_put_at sc_put_at (fun _ _ _ _ _ _ us hl => match us, hl with | [_, _, _], _ => rfl) (fun vs H Q E h => ?_) (fun cdv A outer s H vs Q E hr h => ?_)
  · obtain ⟨l, i, d, rfl, _⟩ := h
    rfl
  · obtain ⟨l, i, d, rfl, hi, hl, q⟩ := h
    refine ⟨_, pss_one (ps_ret (pe_op op_add_str (pe_op op_add_str (pe_slice sl_str (pv 0) po_none (po_some (pv 1))) (pv 2)) (pe_slice sl_str (pv 0) (po_some (pe_op op_add (pv 1) pe_int)) po_none))), ?_⟩
    refine ⟨_, rfl, _, rfl, _, rfl, _, rfl, by rw [tx_len]; exact szl (by omega), ?_⟩
    have e1 : (i : Int) + 1 = ((i + 1 : Nat) : Int) := by omega
    refine ⟨_, rfl, tx (l.take i), tx [d], by rw [cut_to], rfl, by rw [tx_len, tx_len, List.length_take]; exact szl (by simp; omega), ?_⟩
    refine ⟨_, rfl, _, rfl, _, _, rfl, rfl, _, rfl, _, rfl, by rw [tx_len]; exact szl (by omega), tx (l.take i ++ [d]), tx (l.drop (i + 1)), by rw [tx_app], by rw [e1, cut_from], by rw [tx_len, tx_len, List.length_append, List.length_take, List.length_drop]; exact szl (by simp; omega), ?_⟩
    rw [List.set_eq_take_append_cons_drop, if_pos hi] at q
    rw [tx_app, List.append_assoc, List.singleton_append]
    exact q
end
end RJ
set_option Elab.async false
set_option linter.all false
set_option maxRecDepth 100000
set_option maxHeartbeats 4000000
namespace RJ
open PySem PySem.Spec PyProof.Rows L2
/-! rules -/
abbrev FolR (m k : Nat) (f : Nat → Nat) : Prop := Fol (k ^ (m + 1)) (k ^ m) k f
def tf (m k : Nat) (f : Nat → Nat) : List Nat := (List.range (k ^ (m + 1))).map fun i => f i % k
theorem tf_len (m k : Nat) (f : Nat → Nat) : (tf m k f).length = k ^ (m + 1) := by
  unfold tf
  rw [List.length_map, List.length_range]
theorem tf_lt {m k : Nat} (hk : 0 < k) (f : Nat → Nat) : ∀ d ∈ tf m k f, d < k := fun d h => by
  obtain ⟨i, _, rfl⟩ := List.mem_map.mp h
  exact Nat.mod_lt _ hk
theorem tf_get {m k i : Nat} {f : Nat → Nat} (h : i < k ^ (m + 1)) : (tf m k f)[i]? = some (f i % k) := by
  unfold tf
  rw [List.getElem?_map, List.getElem?_range h]
  rfl
theorem FolR.word {m k i : Nat} {f : Nat → Nat} (F : FolR m k f) (hk : 0 < k) (hi : i < k ^ (m + 1)) : wdig (m + 1) k (f i) = wdig m k i ++ [f i % k] := by
  rw [wdig_snoc, F.d i hi, wdig_mod]
theorem tf_exch {m k a b : Nat} {f : Nat → Nat} (hab : a ≠ b) : tf m k (exch f a b) = ((tf m k f).set a (f b % k)).set b (f a % k) := by
  refine List.ext_getElem? fun i => ?_
  rcases Nat.lt_or_ge i (k ^ (m + 1)) with c | c
  · rw [tf_get c, List.getElem?_set, List.length_set, tf_len, List.getElem?_set, tf_len]
    by_cases h1 : b = i
    · subst h1
      rw [if_pos rfl, if_pos c, exch_b hab]
    · rw [if_neg h1]
      by_cases h2 : a = i
      · subst h2
        rw [if_pos rfl, if_pos c, exch_a]
      · rw [if_neg h2, tf_get c, exch_o (Ne.symm h2) (Ne.symm h1)]
  · rw [List.getElem?_eq_none (by rw [tf_len]; exact c), List.getElem?_eq_none (by rw [List.length_set, List.length_set, tf_len]; exact c)]
def rfs (L k : Int) (t : Str) : List (Str × V) := putF "told" (.str t) (putF "kinds" (.int k) (putF "length" (.int L) []))
theorem n1 : ¬ (("length" : Str) = "kinds") := by decide +kernel
theorem n2 : ¬ (("length" : Str) = "told") := by decide +kernel
theorem n3 : ¬ (("kinds" : Str) = "told") := by decide +kernel
theorem rfs_length (L k : Int) (t : Str) : (rfs L k t).lookup ("length" : Str) = some (.int L) := by
  unfold rfs
  rw [lookup_putF, if_neg n2, lookup_putF, if_neg n1, lookup_putF, if_pos rfl]
theorem rfs_kinds (L k : Int) (t : Str) : (rfs L k t).lookup ("kinds" : Str) = some (.int k) := by
  unfold rfs
  rw [lookup_putF, if_neg n3, lookup_putF, if_pos rfl]
theorem rfs_told (L k : Int) (t : Str) : (rfs L k t).lookup ("told" : Str) = some (.str t) := by
  unfold rfs
  rw [lookup_putF, if_pos rfl]
theorem len_putF (f : Str) (v : V) : ∀ l : List (Str × V), (putF f v l).length ≤ l.length + 1
  | [] => Nat.le_refl _
  | (g, x) :: r => by
    show (if g = f then (g, v) :: r else (g, x) :: putF f v r).length ≤ _
    split
    · exact Nat.le_succ _
    · have := len_putF f v r
      show (putF f v r).length + 1 ≤ r.length + 1 + 1
      omega
/-- a rule at p -/
def RuleT (C : Addr) (H : Hp) (p : Addr) (m k : Nat) (t : List Nat) : Prop := ∃ dx, H p = some (.ins C dx (rfs ((m + 1 : Nat) : Int) (k : Int) (tx t)))
abbrev RuleAt (C : Addr) (H : Hp) (p : Addr) (m k : Nat) (f : Nat → Nat) : Prop := RuleT C H p m k (tf m k f)
theorem RuleT.same {C p : Addr} {H H' : Hp} {m k : Nat} {t : List Nat} (r : RuleT C H p m k t) (s : Same H H') : RuleT C H' p m k t := let ⟨dx, e⟩ := r; ⟨dx, s _ _ e⟩
section
variable {P : Program} {w : World} {K : PySem.W.Frag} {mg : Str → Option Value} {base : Heap}
def spInit (C : Addr) : Sp := fun vs H Q _ => ∃ (p dx : Addr) (m k : Nat) (t : List Nat), vs = [.ref p, .int ((m + 1 : Nat) : Int), .int k, .str (tx t)] ∧ Cfg m k ∧ t.length = k ^ (m + 1) ∧ (∀ d ∈ t, d < k) ∧ H p = some (.ins C dx []) ∧
  Q .non (upd H p (.ins C dx (rfs ((m + 1 : Nat) : Int) (k : Int) (tx t))))
theorem ok_init (T : Tx K mg) : ∃ fd, Binds K fd ["self", "length", "kinds", "told"] [] ∧ FnOk P w K mg base CX0 4 (He.ma K (He.ga K "Rule") "__init__") fd ["self", "length", "kinds", "told"] (spInit (He.ga K "Rule")) := by
  obtain ⟨fd, F⟩ := T.f_init
  have D1 : Dok P w K mg base CX0 3 "size_asked" ["length", "kinds"] spSize := ok_size_asked T
  have D2 : Dok P w K mg base CX0 2 "has_letters" ["text", "kinds"] spHas := ok_has_letters T
  refine ⟨fd, F.bindsN (fun _ _ _ _ _ _ us hl => match us, hl with | [_, _, _, _], _ => rfl), F.ok sc_init (fun vs H Q E h => ?_) (fun cdv A outer s H vs Q E hr h => ?_)⟩
  · obtain ⟨p, dx, m, k, t, rfl, _⟩ := h
    rfl
  · obtain ⟨p, dx, m, k, t, rfl, c, hl, ht, hp, q⟩ := h
    have c2 := c.sz
    refine ⟨_, PSs.nox (pss_cons (ps_if (PW.pt (pw_or (pt_cmpR op_ne (pe_callB call_len_str (by rfl) T.n_len PySem.boot_len (pa_cons (pv 3) pa_nil)) (pcall D1 hr (pa_cons (pv 1) (pa_cons (pv 2) pa_nil))) (nomark _)) (pw_or1 (pt_not (pt_val (pcall D2 (hr.mono (by decide)) (pa_cons (pv 3) (pa_cons (pv 2) pa_nil)))))))) pss_never pss_nil)
      (pss_cons (ps_fld (pv 0) (pv 1) rfl) (pss_cons (ps_fld (pv 0) (pv 2) rfl) (pss_one (ps_fld (pv 0) (pv 3) rfl))))), ?_⟩
    refine ⟨_, rfl, _, rfl, by rw [tx_len]; exact szl (by omega), _, rfl, _, rfl, m, k, rfl, c, rfl, _, rfl, ?_⟩
    refine iteNS (by rw [tx_len, hl]) ?_
    refine ⟨_, rfl, _, rfl, t, k, rfl, c.k1, c.k6, _, rfl, ?_⟩
    rw [decide_eq_true ht]
    refine iteF ?_
    have l0 : ([] : List (Str × V)).length < 1000 := by decide
    refine ⟨_, rfl, _, rfl, p, _, dx, _, rfl, hp, T.cls, T.no_length, l0, _, rfl, _, rfl, p, _, dx, _, rfl, upd_same, T.cls, T.no_kinds, ?_, _, rfl, _, rfl, p, _, dx, _, rfl, upd_same, T.cls, T.no_told, ?_, ?_⟩
    · have := len_putF "length" (.int ((m + 1 : Nat) : Int)) []
      exact Nat.lt_of_le_of_lt this (by decide)
    · have h1 := len_putF "length" (.int ((m + 1 : Nat) : Int)) []
      have h2 := len_putF "kinds" (.int (k : Int)) (putF "length" (.int ((m + 1 : Nat) : Int)) [])
      exact Nat.lt_of_le_of_lt (Nat.le_trans h2 (Nat.succ_le_succ h1)) (by decide)
    · rw [upd_upd, upd_upd]
      exact q
/-- Rule(length, kinds, told) -/
def tRuleMk (K : PySem.W.Frag) (t : TA) : TE := tMake (He.ga K "Rule") (spInit (He.ga K "Rule")) [] E0 t
theorem pe_rule {X : Cx} {e : Expr} {es : List Expr} {t : TA} {p pos : Pos} (T : Tx X.K X.mg) (hr : Room 5 X.A) (ha : PA X (e :: es) t) (hg : Gl X "Rule" := by rfl)
    (he : starEach (e :: es) X.env = (false, eval e X.env) :: starEach es X.env := by rfl) (hpl : (backTo pos (starEach es X.env)).any (·.1) = false := by rfl) : PE X (.Call (.Name "Rule" p) (e :: es) [] pos) (tRuleMk X.K t) := by
  obtain ⟨fd, hb, G⟩ := ok_init (P := X.prog) (w := X.w) (base := X.base) T
  exact pe_make T.mkr G hr hg T.g_Rule hb .nil pass0 ha (by decide) he hpl
/-- how a new rule is read -/
theorem rule_new {C : Addr} {H : Hp} {m k : Nat} {t : List Nat} {Q : VK} (c : Cfg m k) (hl : t.length = k ^ (m + 1)) (ht : ∀ d ∈ t, d < k) (h : ∀ p H', Same H H' → H p = none → RuleT C H' p m k t → Q (.ref p) H') :
    ∀ x dx, H x = none → H dx = none → dx ≠ x → spInit C (.ref x :: ([.int ((m + 1 : Nat) : Int), .int k, .str (tx t)] ++ [])) (upd (upd H dx (.own x)) x (.ins C dx [])) (fun v H2 => v = .non ∧ Q (.ref x) H2) E0 := by
  intro x dx hx hdx hne
  refine ⟨x, dx, m, k, t, rfl, c, hl, ht, upd_same, rfl, h x _ ?_ hx ⟨dx, upd_same⟩⟩
  rw [upd_upd]
  exact same_mut (same_new hdx) hx
/-! word_asked -/
def spAsked (C : Addr) : Sp := fun vs H Q _ => ∃ (p : Addr) (l : List Nat) (m k : Nat) (t : List Nat), vs = [.ref p, .str (tx l)] ∧ Cfg m k ∧ RuleT C H p m k t ∧ l.length = m + 1 ∧ (∀ d ∈ l, d < k) ∧ Q .non H
theorem ok_word_asked (T : Tx K mg) : Dok P w K mg base CX0 3 "word_asked" ["rule", "word"] (spAsked (He.ga K "Rule")) := by
  obtain ⟨fd, F⟩ := T.f_word_asked
  have D2 : Dok P w K mg base CX0 2 "has_letters" ["text", "kinds"] spHas := ok_has_letters T
  refine Dok.of F T.g_word_asked sc_word_asked (fun _ _ _ _ _ _ us hl => match us, hl with | [_, _], _ => rfl) (fun vs H Q E h => ?_) (fun cdv A outer s H vs Q E hr h => ?_)
  · obtain ⟨p, l, m, k, t, rfl, _⟩ := h
    rfl
  · obtain ⟨p, l, m, k, t, rfl, c, ⟨dx, hp⟩, hl, hd, q⟩ := h
    have c1 := c.m7
    refine ⟨_, pss_one (ps_if (PW.pt (pw_or (pt_cmpR op_ne (pe_callB call_len_str (by rfl) T.n_len PySem.boot_len (pa_cons (pv 1) pa_nil)) (pe_fld (pv 0) rfl) (nomark _)) (pw_or1 (pt_not (pt_val (pcall D2 hr (pa_cons (pv 1) (pa_cons (pe_fld (pv 0) rfl) pa_nil)))))))) pss_never pss_nil), ?_⟩
    refine ⟨_, rfl, _, rfl, by rw [tx_len]; exact szl (by omega), _, rfl, p, _, dx, _, _, rfl, hp, T.cls, T.no_length, rfs_length _ _ _, rfl, _, rfl, ?_⟩
    refine iteNS (by rw [tx_len, hl]) ?_
    refine ⟨_, rfl, _, rfl, p, _, dx, _, _, rfl, hp, T.cls, T.no_kinds, rfs_kinds _ _ _, l, k, rfl, c.k1, c.k6, _, rfl, ?_⟩
    rw [decide_eq_true hd]
    exact iteF q
/-! next_word -/
def spNext (C : Addr) : Sp := fun vs H Q _ => ∃ (p : Addr) (i m k : Nat) (f : Nat → Nat), vs = [.ref p, .str (word (m + 1) k i)] ∧ Cfg m k ∧ FolR m k f ∧ RuleAt C H p m k f ∧ i < k ^ (m + 1) ∧ Q (.str (word (m + 1) k (f i))) H
theorem ok_next_word (T : Tx K mg) : Dok P w K mg base CX0 4 "next_word" ["rule", "word"] (spNext (He.ga K "Rule")) := by
  obtain ⟨fd, F⟩ := T.f_next_word
  have D1 : Dok P w K mg base CX0 3 "word_asked" ["rule", "word"] (spAsked (He.ga K "Rule")) := ok_word_asked T
  have D2 : Dok P w K mg base CX0 3 "number_of" ["word", "kinds"] spNumber := ok_number_of T
  refine Dok.of F T.g_next_word sc_next_word (fun _ _ _ _ _ _ us hl => match us, hl with | [_, _], _ => rfl) (fun vs H Q E h => ?_) (fun cdv A outer s H vs Q E hr h => ?_)
  · obtain ⟨p, i, m, k, f, rfl, _⟩ := h
    rfl
  · obtain ⟨p, i, m, k, f, rfl, c, Fo, R, hi, q⟩ := h
    obtain ⟨dx, hp⟩ := id R
    have c1 := c.m7
    have c2 := c.sz
    have wl := wdig_len (m + 1) k i
    have wd := wdig_lt (L := m + 1) (i := i) c.k1
    refine ⟨_, pss_cons (ps_expr (pcall D1 hr (pa_cons (pv 0) (pa_cons (pv 1) pa_nil))))
      (pss_one (ps_ret (pe_op op_add_str (pe_slice sl_str (pv 1) (po_some pe_int) po_none) (pe_ix ix_str (pe_fld (pv 0) rfl) (pcall D2 hr (pa_cons (pv 1) (pa_cons (pe_fld (pv 0) rfl) pa_nil))) (fun _ _ => rfl))))), ?_⟩
    refine ⟨_, rfl, _, rfl, p, wdig (m + 1) k i, m, k, _, rfl, c, R, wl, wd, ?_⟩
    refine ⟨_, rfl, _, rfl, tx (wdig (m + 1) k i), rfl, by rw [tx_len, wl]; exact szl (by omega), ?_⟩
    refine ⟨_, rfl, p, _, dx, _, _, rfl, hp, T.cls, T.no_told, rfs_told _ _ _, _, rfl, _, rfl, p, _, dx, _, _, rfl, hp, T.cls, T.no_kinds, rfs_kinds _ _ _, wdig (m + 1) k i, k, rfl, c.k1, c.k6, by omega, by omega, wd, ?_⟩
    rw [num_wdig k (m + 1) i hi]
    refine ⟨_, _, 97 + f i % k, rfl, rfl, by rw [tx_len, tf_len]; exact szl (by omega), at_tx (tf_get hi), ?_⟩
    refine ⟨tx (wdig m k i), tx [f i % k], ?_, rfl, by rw [tx_len, tx_len, wdig_len]; exact szl (by simp; omega), ?_⟩
    · rw [show (1 : Int) = ((1 : Nat) : Int) from rfl, cut_from, wdig_head hi]
      rfl
    · rw [tx_app, ← FolR.word Fo c.k1 hi]
      exact q
end
end RJ
set_option Elab.async false
set_option linter.all false
set_option maxRecDepth 100000
set_option maxHeartbeats 4000000
namespace RJ
open PySem PySem.Spec PyProof.Rows L2
/-- the partners of a word, of the letters below c -/
def prt (m k i c : Nat) : List Nat := ((List.range c).filter fun d => decide (d ≠ i / k ^ m)).map fun d => d * k ^ m + i % k ^ m
theorem prt_succ (m k i c : Nat) : prt m k i (c + 1) = prt m k i c ++ (if c = i / k ^ m then [] else [c * k ^ m + i % k ^ m]) := by
  unfold prt
  rw [List.range_succ, List.filter_append, List.map_append]
  congr 1
  by_cases h : c = i / k ^ m
  · rw [if_pos h, List.filter_cons_of_neg (by simp [h])]
    rfl
  · rw [if_neg h, List.filter_cons_of_pos (by simp [h])]
    rfl
theorem prt_len (m k i c : Nat) : (prt m k i c).length ≤ c := by
  unfold prt
  rw [List.length_map]
  exact Nat.le_trans (List.length_filter_le _ _) (by rw [List.length_range]; exact Nat.le_refl _)
theorem cut1_word {m k i : Nat} (hi : i < k ^ (m + 1)) : cutS (word (m + 1) k i) (some 1) none = tx (wdig m k i) := by
  unfold word
  rw [show (1 : Int) = ((1 : Nat) : Int) from rfl, cut_from, wdig_head hi]
  rfl
theorem at0_word {m k i : Nat} (hi : i < k ^ (m + 1)) : atI (word (m + 1) k i).cps.toList 0 = some (97 + i / k ^ m) := by
  unfold word
  rw [show (0 : Int) = ((0 : Nat) : Int) from rfl]
  refine at_tx ?_
  rw [wdig_head hi]
  rfl
theorem wlen {m k i : Nat} (h : m ≤ 7) : (word (m + 1) k i).length ≤ sizeLine := by
  rw [word_len]
  exact szl (by omega)
section
variable {P : Program} {w : World} {K : PySem.W.Frag} {mg : Str → Option Value} {base : Heap}
def spPartners (C : Addr) : Sp := fun vs H Q _ => ∃ (p : Addr) (i m k : Nat) (t : List Nat), vs = [.ref p, .str (word (m + 1) k i)] ∧ Cfg m k ∧ RuleT C H p m k t ∧ i < k ^ (m + 1) ∧
  ∀ H' q, Same H H' → H q = none → H' q = some (.lst (((prt m k i k).map (word (m + 1) k)).map V.str)) → Q (.ref q) H'
theorem ok_partners (T : Tx K mg) : Dok P w K mg base CX0 4 "partners" ["rule", "word"] (spPartners (He.ga K "Rule")) := by
  obtain ⟨fd, F⟩ := T.f_partners
  have D1 : Dok P w K mg base CX0 3 "word_asked" ["rule", "word"] (spAsked (He.ga K "Rule")) := ok_word_asked T
  have D2 : Dok P w K mg base CX0 1 "letters" ["kinds"] spLetters := ok_letters T
  refine Dok.of F T.g_partners sc_partners (fun _ _ _ _ _ _ us hl => match us, hl with | [_, _], _ => rfl) (fun vs H Q E h => ?_) (fun cdv A outer s H vs Q E hr h => ?_)
  · obtain ⟨p, i, m, k, t, rfl, _⟩ := h
    rfl
  · obtain ⟨p, i, m, k, t, rfl, c, R, hi, q⟩ := h
    obtain ⟨dx, hp⟩ := id R
    have c1 := c.m7
    have c2 := c.sz
    have c6 := c.k6
    have wl := wdig_len (m + 1) k i
    have wd := wdig_lt (L := m + 1) (i := i) c.k1
    refine ⟨_, pss_cons (ps_expr (pcall D1 hr (pa_cons (pv 0) (pa_cons (pv 1) pa_nil))))
      (pss_one (ps_ret (pe_lc (own := [("letter", 2)]) (g := gName 2) rfl sc_partners.nd (pi_str (pcall D2 (hr.mono (by decide)) (pa_cons (pe_fld (pv 0) rfl) pa_nil))) (blkOk_by (N := n_partners) (sc := defScope s_partners) (by decide +kernel))
        (fun _ _ _ _ _ => pg_name (i := 2) sc_partners.nd rfl (.inl rfl)) (fun _ _ _ _ _ => pts_one (pt_cmpR op_ne (pv 2) (pe_ix ix_str (pv 1) pe_int (fun _ _ => rfl)) (nomark _))) (fun _ _ _ _ _ => pe_op op_add_str (pv 2) (pe_slice sl_str (pv 1) (po_some pe_int) po_none))))), ?_⟩
    refine ⟨_, rfl, _, rfl, p, wdig (m + 1) k i, m, k, _, rfl, c, R, wl, wd, ?_⟩
    refine ⟨_, rfl, p, _, dx, _, _, rfl, hp, T.cls, T.no_kinds, rfs_kinds _ _ _, k, rfl, c.k1, c.k6, _, rfl, fun D hD => lc_it walk_str (fun j H' => Same H H' ∧ H' D = some (.lst (((prt m k i j).map (word (m + 1) k)).map V.str))) ⟨same_new hD, upd_same⟩ (fun _ _ _ _ => trivial) ?_ ?_⟩
    · rintro j x H1 H2 hj ⟨sm, hD'⟩ ⟨rfl, c, hc, rfl⟩
      obtain ⟨d, hd1, rfl⟩ := tx_get hc
      obtain ⟨hjk, ed⟩ := List.getElem?_eq_some_iff.mp hd1
      rw [List.getElem_range] at ed
      rw [List.length_range] at hjk
      subst ed
      refine ⟨rfl, ?_⟩
      refine ⟨_, rfl, _, rfl, _, _, _, rfl, rfl, wlen c1, at0_word hi, rfl, _, rfl, ?_⟩
      by_cases h : j = i / k ^ m
      · rw [decide_eq_true (show V.str (⟨#[97 + j]⟩ : Str) = V.str ⟨#[97 + i / k ^ m]⟩ by rw [h])]
        refine iteF ⟨sm, ?_⟩
        rw [prt_succ, if_pos h, List.append_nil]
        exact hD'
      · rw [decide_eq_false (show ¬ V.str (⟨#[97 + j]⟩ : Str) = V.str ⟨#[97 + i / k ^ m]⟩ from fun z => h (by
          have := tx_inj (a := [j]) (b := [i / k ^ m]) (V.str.inj z)
          simpa using this))]
        refine iteT ?_
        have hw := wdig_first (m := m) (K := k) (i := i) c.k1 hjk
        refine ⟨_, rfl, _, rfl, _, rfl, word (m + 1) k i, rfl, wlen c1, tx [j], tx (wdig m k i), rfl, by rw [cut1_word hi], by rw [tx_len, tx_len, wdig_len]; exact szl (by simp; omega), _, hD', ?_, same_mut sm hD, ?_⟩
        · rw [List.length_map, List.length_map]
          have := prt_len m k i j
          exact szlt (by omega)
        · rw [upd_same, prt_succ, if_neg h, List.map_append, List.map_append, tx_app]
          show some (HO.lst (_ ++ [V.str (tx (j :: wdig m k i))])) = some (HO.lst (_ ++ [V.str (word (m + 1) k (j * k ^ m + i % k ^ m))]))
          rw [show word (m + 1) k (j * k ^ m + i % k ^ m) = tx (j :: wdig m k i) from congrArg tx hw.1]
    · rintro H' ⟨sm, hD'⟩
      rw [tx_size, List.length_range] at hD'
      exact q H' D sm hD hD'
/-! is_fair -/
def spFair (C : Addr) : Sp := fun vs H Q _ => ∃ (p : Addr) (m k : Nat) (f : Nat → Nat), vs = [.ref p] ∧ Cfg m k ∧ FolR m k f ∧ RuleAt C H p m k f ∧ ∀ H', Same H H' → Q (.bl true) H'
theorem ok_is_fair (T : Tx K mg) : Dok P w K mg base CX0 5 "is_fair" ["rule"] (spFair (He.ga K "Rule")) := by
  obtain ⟨fd, F⟩ := T.f_is_fair
  have D1 : Dok P w K mg base CX0 4 "all_words" ["length", "kinds"] spAllWords := ok_all_words T
  have D2 : Dok P w K mg base CX0 4 "next_word" ["rule", "word"] (spNext (He.ga K "Rule")) := ok_next_word T
  refine Dok.of F T.g_is_fair sc_is_fair (fun _ _ _ _ _ _ us hl => match us, hl with | [_], _ => rfl) (fun vs H Q E h => ?_) (fun cdv A outer s H vs Q E hr h => ?_)
  · obtain ⟨p, m, k, f, rfl, _⟩ := h
    rfl
  · obtain ⟨p, m, k, f, rfl, c, Fo, R, q⟩ := h
    obtain ⟨dx, hp⟩ := id R
    have c1 := c.m7
    have c2 := c.sz
    have hu := hu_of hr
    refine ⟨_, pss_cons (ps_set (i := 1) sc_is_fair.nd rfl (.inl rfl) pe_dnewK)
      (pss_cons (ps_for PassesOwn.never rfl (pi_list (pcall D1 hr (pa_cons (pe_fld (pv 0) rfl) (pa_cons (pe_fld (pv 0) rfl) pa_nil)))) (pg_name (i := 2) sc_is_fair.nd rfl (.inl rfl)) (pss_one (ps_dput hu (pv 1) (pcall D2 hr (pa_cons (pv 0) (pa_cons (pv 2) pa_nil))) pe_bl rfl)))
      (pss_one (ps_ret (pe_cmpR op_eq (pe_callB call_lenD (by rfl) T.n_len PySem.boot_len (pa_cons (pv 1) pa_nil)) (pe_callB call_len_str (by rfl) T.n_len PySem.boot_len (pa_cons (pe_fld (pv 0) rfl) pa_nil)) (nomark _))))), ?_⟩
    intro d hd
    have hpd : p ≠ d := ne_of_none hp hd
    refine ⟨_, rfl, p, _, dx, _, _, rfl, same_new hd _ _ hp, T.cls, T.no_length, rfs_length _ _ _, _, rfl, p, _, dx, _, _, rfl, same_new hd _ _ hp, T.cls, T.no_kinds, rfs_kinds _ _ _, m + 1, k, rfl, c.k1, c.k6, by omega, by omega, c2, fun H1 a sm1 ha hA => ?_⟩
    have sA : SqL K H1 a ((words (m + 1) k).map V.str) := SqL.of hA
    have hda : d ≠ a := ne_of_none upd_same ha
    have hd1 : H1 d = some (.dK []) := sm1 _ _ upd_same
    have s1 : Same H H1 := (same_new hd).trans sm1
    refine ⟨a, rfl, ⟨_, sA⟩, for_it walk_list (fun i σ H' => ∃ y, σ = [some (.ref p), some (.ref d), y] ∧ Same H H' ∧ H' a = some (.lst ((words (m + 1) k).map V.str)) ∧ H' d = some (.dK ((List.range i).map fun j => (Sum.inr (word (m + 1) k (f j)), V.bl true))))
      ⟨none, rfl, s1, hA, hd1⟩ (fun i σ H' _ ⟨_, _, _, z, _⟩ => SqL.of z) ?_ ?_⟩
    · rintro i x σ H2 H3 hi ⟨y, rfl, sm, hA2, hd2⟩ ⟨rfl, hx⟩
      have hi' : i < k ^ (m + 1) := by
        rw [List.length_map, words_len] at hi
        exact hi
      rw [List.getElem?_map, words_get hi'] at hx
      have ex : V.str (word (m + 1) k i) = x := Option.some.inj hx
      subst ex
      refine ⟨_, rfl, _, rfl, _, rfl, p, i, m, k, f, rfl, c, Fo, R.same sm, hi', d, _, rfl, DPut.k (k := Sum.inr (word (m + 1) k (f i))) hd2 ?_, ?_⟩
      · rw [List.length_map, List.length_range]
        exact szlt (by omega)
      · refine ⟨_, rfl, same_mut sm hd, ?_, ?_⟩
        · rw [upd_ne hda.symm]
          exact hA2
        · rw [upd_same]
          have hn : valV ((List.range i).map fun j => ((Sum.inr (word (m + 1) k (f j)) : Key), V.bl true)) (Sum.inr (word (m + 1) k (f i))) = none := by
            unfold valV
            rw [List.find?_eq_none.mpr]
            · rfl
            · intro y hy
              obtain ⟨j, hj, rfl⟩ := List.mem_map.mp hy
              have hj' := List.mem_range.mp hj
              simp only [decide_eq_true_eq]
              intro z
              have z2 := word_inj (Fo.b.lt j (by omega)) (Fo.b.lt i hi') (Sum.inr.inj z)
              have z3 := Fo.b.inj j i (by omega) hi' z2
              omega
          rw [putK_new _ hn, List.range_succ, List.map_append]
          rfl
    · rintro σ H' ⟨y, rfl, sm, hA2, hd2⟩
      refine ⟨_, rfl, d, _, rfl, hd2, _, rfl, p, _, dx, _, _, rfl, sm _ _ hp, T.cls, T.no_told, rfs_told _ _ _, _, rfl, by rw [tx_len, tf_len]; exact szl (by omega), rfl, ?_⟩
      have e : decide (V.int (((List.range ((words (m + 1) k).map V.str).length).map fun j => ((Sum.inr (word (m + 1) k (f j)) : Key), V.bl true)).length : Nat) = V.int ((tx (tf m k f)).length : Nat)) = true := by
        rw [List.length_map, List.length_range, List.length_map, words_len, tx_len, tf_len]
        exact decide_eq_true rfl
      rw [e]
      exact q H' sm
/-! fair_asked -/
def spFairAsked (C : Addr) : Sp := fun vs H Q _ => ∃ (p : Addr) (m k : Nat) (f : Nat → Nat), vs = [.ref p] ∧ Cfg m k ∧ FolR m k f ∧ RuleAt C H p m k f ∧ ∀ H', Same H H' → Q .non H'
theorem ok_fair_asked (T : Tx K mg) : Dok P w K mg base CX0 6 "fair_asked" ["rule"] (spFairAsked (He.ga K "Rule")) := by
  obtain ⟨fd, F⟩ := T.f_fair_asked
  have D1 : Dok P w K mg base CX0 5 "is_fair" ["rule"] (spFair (He.ga K "Rule")) := ok_is_fair T
  refine Dok.of F T.g_fair_asked sc_fair_asked (fun _ _ _ _ _ _ us hl => match us, hl with | [_], _ => rfl) (fun vs H Q E h => ?_) (fun cdv A outer s H vs Q E hr h => ?_)
  · obtain ⟨p, m, k, f, rfl, _⟩ := h
    rfl
  · obtain ⟨p, m, k, f, rfl, c, Fo, R, q⟩ := h
    refine ⟨_, pss_one (ps_if (pt_not (pt_val (pcall D1 hr (pa_cons (pv 0) pa_nil)))) pss_never pss_nil), ?_⟩
    refine ⟨_, rfl, p, m, k, f, rfl, c, Fo, R, fun H' sm => ⟨true, rfl, iteF (q H' sm)⟩⟩
end
end RJ
set_option Elab.async false
set_option linter.all false
set_option maxRecDepth 100000
set_option maxHeartbeats 4000000
namespace RJ
open PySem PySem.Spec PyProof.Rows L2
theorem ne_head {m k a b : Nat} (hab : a ≠ b) (e : a % k ^ m = b % k ^ m) : a / k ^ m ≠ b / k ^ m := fun z => hab (by
  have h1 := Nat.div_add_mod a (k ^ m)
  have h2 := Nat.div_add_mod b (k ^ m)
  rw [z, e] at h1
  omega)
section
variable {P : Program} {w : World} {K : PySem.W.Frag} {mg : Str → Option Value} {base : Heap}
def spExch (C : Addr) : Sp := fun vs H Q _ => ∃ (p : Addr) (a b m k : Nat) (f : Nat → Nat), vs = [.ref p, .str (word (m + 1) k a), .str (word (m + 1) k b)] ∧ Cfg m k ∧ FolR m k f ∧ RuleAt C H p m k f ∧ a < k ^ (m + 1) ∧ b < k ^ (m + 1) ∧ a ≠ b ∧ a % k ^ m = b % k ^ m ∧
  ∀ H' q, Same H H' → H q = none → RuleAt C H' q m k (exch f a b) → Q (.ref q) H'
theorem ok_exchanged (T : Tx K mg) : Dok P w K mg base CX0 6 "exchanged" ["rule", "one", "two"] (spExch (He.ga K "Rule")) := by
  obtain ⟨fd, F⟩ := T.f_exchanged
  have D1 : Dok P w K mg base CX0 3 "word_asked" ["rule", "word"] (spAsked (He.ga K "Rule")) := ok_word_asked T
  have D2 : Dok P w K mg base CX0 3 "number_of" ["word", "kinds"] spNumber := ok_number_of T
  have D3 : Dok P w K mg base CX0 1 "put_at" ["text", "at", "letter"] spPut := ok_put_at T
  refine Dok.of F T.g_exchanged sc_exchanged (fun _ _ _ _ _ _ us hl => match us, hl with | [_, _, _], _ => rfl) (fun vs H Q E h => ?_) (fun cdv A outer s H vs Q E hr h => ?_)
  · obtain ⟨p, a, b, m, k, f, rfl, _⟩ := h
    rfl
  · obtain ⟨p, a, b, m, k, f, rfl, c, Fo, R, ha, hb, hab, hm, q⟩ := h
    obtain ⟨dx, hp⟩ := id R
    have c1 := c.m7
    have c2 := c.sz
    have wl := wdig_len (m + 1) k
    have wd : ∀ i, ∀ d ∈ wdig (m + 1) k i, d < k := fun i => wdig_lt (L := m + 1) (i := i) c.k1
    have hr3 := hr.mono (j := 3) (by decide)
    have hr1 := hr.mono (j := 1) (by decide)
    refine ⟨_, pss_cons (ps_expr (pcall D1 hr3 (pa_cons (pv 0) (pa_cons (pv 1) pa_nil))))
      (pss_cons (ps_expr (pcall D1 hr3 (pa_cons (pv 0) (pa_cons (pv 2) pa_nil))))
      (pss_cons (ps_if (PW.pt (pw_or (pt_cmpR op_eq (pe_ix ix_str (pv 1) pe_int (fun _ _ => rfl)) (pe_ix ix_str (pv 2) pe_int (fun _ _ => rfl)) (nomark _)) (pw_or1 (pt_cmpR op_ne (pe_slice sl_str (pv 1) (po_some pe_int) po_none) (pe_slice sl_str (pv 2) (po_some pe_int) po_none) (nomark _))))) pss_never pss_nil)
      (pss_cons (ps_set (i := 3) sc_exchanged.nd rfl (.inl rfl) (pcall D2 hr3 (pa_cons (pv 1) (pa_cons (pe_fld (pv 0) rfl) pa_nil))))
      (pss_cons (ps_set (i := 4) sc_exchanged.nd rfl (.inl rfl) (pcall D2 hr3 (pa_cons (pv 2) (pa_cons (pe_fld (pv 0) rfl) pa_nil))))
      (pss_cons (ps_set (i := 5) sc_exchanged.nd rfl (.inl rfl) (pcall D3 hr1 (pa_cons (pe_fld (pv 0) rfl) (pa_cons (pv 3) (pa_cons (pe_ix ix_str (pe_fld (pv 0) rfl) (pv 4) (fun _ _ => rfl)) pa_nil)))))
      (pss_cons (ps_set (i := 5) sc_exchanged.nd rfl (.inl rfl) (pcall D3 hr1 (pa_cons (pv 5) (pa_cons (pv 4) (pa_cons (pe_ix ix_str (pe_fld (pv 0) rfl) (pv 3) (fun _ _ => rfl)) pa_nil)))))
      (pss_one (ps_ret (pe_rule T hr (pa_cons (pe_fld (pv 0) rfl) (pa_cons (pe_fld (pv 0) rfl) (pa_cons (pv 5) pa_nil)))))))))))), ?_⟩
    refine ⟨_, rfl, _, rfl, p, wdig (m + 1) k a, m, k, _, rfl, c, R, wl a, wd a, ?_⟩
    refine ⟨_, rfl, _, rfl, p, wdig (m + 1) k b, m, k, _, rfl, c, R, wl b, wd b, ?_⟩
    refine ⟨_, rfl, _, _, _, rfl, rfl, wlen c1, at0_word ha, _, rfl, _, _, _, rfl, rfl, wlen c1, at0_word hb, rfl, _, rfl, ?_⟩
    rw [decide_eq_false (show ¬ V.str (⟨#[97 + a / k ^ m]⟩ : Str) = V.str ⟨#[97 + b / k ^ m]⟩ from fun z => ne_head hab hm (by
      have := tx_inj (a := [a / k ^ m]) (b := [b / k ^ m]) (V.str.inj z)
      simpa using this))]
    refine iteF ?_
    refine ⟨_, rfl, _, rfl, word (m + 1) k a, rfl, wlen c1, _, rfl, _, rfl, word (m + 1) k b, rfl, wlen c1, rfl, _, rfl, ?_⟩
    refine iteNS (by rw [cut1_word ha, cut1_word hb, wdig_eq.mpr hm]) ?_
    refine ⟨_, rfl, _, rfl, p, _, dx, _, _, rfl, hp, T.cls, T.no_kinds, rfs_kinds _ _ _, wdig (m + 1) k a, k, rfl, c.k1, c.k6, by rw [wl]; omega, by rw [wl]; omega, wd a, ?_⟩
    rw [num_wdig k (m + 1) a ha]
    refine ⟨_, rfl, _, rfl, p, _, dx, _, _, rfl, hp, T.cls, T.no_kinds, rfs_kinds _ _ _, wdig (m + 1) k b, k, rfl, c.k1, c.k6, by rw [wl]; omega, by rw [wl]; omega, wd b, ?_⟩
    rw [num_wdig k (m + 1) b hb]
    have tlen : (tx (tf m k f)).length ≤ sizeLine := by rw [tx_len, tf_len]; exact szl (by omega)
    refine ⟨_, rfl, p, _, dx, _, _, rfl, hp, T.cls, T.no_told, rfs_told _ _ _, _, rfl, _, rfl, p, _, dx, _, _, rfl, hp, T.cls, T.no_told, rfs_told _ _ _, _, rfl, _, _, 97 + f b % k, rfl, rfl, tlen, at_tx (tf_get hb), tf m k f, a, f b % k, rfl, by rw [tf_len]; exact ha, by rw [tf_len]; omega, ?_⟩
    refine ⟨_, rfl, _, rfl, _, rfl, p, _, dx, _, _, rfl, hp, T.cls, T.no_told, rfs_told _ _ _, _, rfl, _, _, 97 + f a % k, rfl, rfl, tlen, at_tx (tf_get ha), (tf m k f).set a (f b % k), b, f a % k, rfl, by rw [List.length_set, tf_len]; exact hb, by rw [List.length_set, tf_len]; omega, ?_⟩
    rw [← tf_exch hab]
    refine ⟨_, rfl, p, _, dx, _, _, rfl, hp, T.cls, T.no_length, rfs_length _ _ _, _, rfl, p, _, dx, _, _, rfl, hp, T.cls, T.no_kinds, rfs_kinds _ _ _, _, rfl, rule_new c (tf_len _ _ _) (tf_lt c.k1 _) fun p' H' sm hn R' => q H' p' sm hn R'⟩
/-! words_from -/
def spFrom (C : Addr) : Sp := fun vs H Q _ => ∃ (p : Addr) (i m k : Nat) (f : Nat → Nat), vs = [.ref p, .str (word (m + 1) k i)] ∧ Cfg m k ∧ FolR m k f ∧ RuleAt C H p m k f ∧ i < k ^ (m + 1) ∧
  ∀ H' q, Same H H' → H q = none → H' q = some (.lst (((orb f (k ^ (m + 1)) i).map (word (m + 1) k)).map V.str)) → Q (.ref q) H'
theorem ok_words_from (T : Tx K mg) : Dok P w K mg base CX0 5 "words_from" ["rule", "word"] (spFrom (He.ga K "Rule")) := by
  obtain ⟨fd, F⟩ := T.f_words_from
  have D1 : Dok P w K mg base CX0 4 "next_word" ["rule", "word"] (spNext (He.ga K "Rule")) := ok_next_word T
  refine Dok.of F T.g_words_from sc_words_from (fun _ _ _ _ _ _ us hl => match us, hl with | [_, _], _ => rfl) (fun vs H Q E h => ?_) (fun cdv A outer s H vs Q E hr h => ?_)
  · obtain ⟨p, i, m, k, f, rfl, _⟩ := h
    rfl
  · obtain ⟨p, i, m, k, f, rfl, c, Fo, R, hi, q⟩ := h
    have c2 := c.sz
    have hpl := Fo.b.per_le hi
    have hp0 := per_pos f (k ^ (m + 1)) i
    refine ⟨_, pss_cons (ps_set (i := 2) sc_words_from.nd rfl (.inl rfl) (pe_lst (pa_cons (pv 1) pa_nil)))
      (pss_cons (ps_set (i := 3) sc_words_from.nd rfl (.inl rfl) (pcall D1 hr (pa_cons (pv 0) (pa_cons (pv 1) pa_nil))))
      (pss_cons (ps_while PassesOwn.never (pt_cmpR op_ne (pv 3) (pv 1) (nomark _))
        (pss_cons (ps_expr (pe_bm PySem.F.plainAttrs_list PySem.F.slot_list_append PySem.F.type_list_append mt_append (pv 2) (pa_cons (pv 3) pa_nil)))
        (pss_one (ps_set (i := 3) sc_words_from.nd rfl (.inl rfl) (pcall D1 hr (pa_cons (pv 0) (pa_cons (pv 3) pa_nil)))))))
      (pss_one (ps_ret (pv 2))))), ?_⟩
    refine ⟨_, rfl, by show 1 ≤ sizeLine; exact szl (by decide), fun o no => ?_⟩
    have s0 : Same H (upd H o (.lst [V.str (word (m + 1) k i)])) := same_new no
    refine ⟨_, rfl, _, rfl, p, i, m, k, f, rfl, c, Fo, R.same s0, hi, ?_⟩
    refine ⟨fun M σ H' => ∃ j, 1 ≤ j ∧ j ≤ per f (k ^ (m + 1)) i ∧ M = per f (k ^ (m + 1)) i - j ∧ σ = [some (.ref p), some (.str (word (m + 1) k i)), some (.ref o), some (.str (word (m + 1) k (it f j i)))] ∧ Same H H' ∧ H' o = some (.lst (((List.range j).map fun t => word (m + 1) k (it f t i)).map V.str)),
      ⟨_, 1, Nat.le_refl _, hp0, rfl, rfl, s0, upd_same⟩, ?_⟩
    rintro M σ H' ⟨j, hj1, hj2, rfl, rfl, sm, ho⟩
    have hl := Fo.b.it_lt j i hi
    refine ⟨_, rfl, _, rfl, rfl, _, rfl, ?_⟩
    by_cases e : j = per f (k ^ (m + 1)) i
    · subst e
      rw [Fo.b.per_it hi]
      refine iteNS rfl ⟨_, rfl, q H' o sm no ?_⟩
      rw [ho]
      unfold orb
      simp only [List.map_map]
      rfl
    · rw [decide_eq_false (show ¬ V.str (word (m + 1) k (it f j i)) = V.str (word (m + 1) k i) from fun z => Fo.b.per_min hi hj1 (by omega) (word_inj hl hi (V.str.inj z)))]
      refine iteT ⟨fun σ H'' => σ = [some (.ref p), some (.str (word (m + 1) k i)), some (.ref o), some (.str (word (m + 1) k (it f (j + 1) i)))] ∧ Same H H'' ∧ H'' o = some (.lst (((List.range (j + 1)).map fun t => word (m + 1) k (it f t i)).map V.str)), ?_, ?_⟩
      · rintro σ H'' ⟨rfl, sm2, ho2⟩
        exact ⟨per f (k ^ (m + 1)) i - (j + 1), by omega, j + 1, by omega, by omega, rfl, rfl, sm2, ho2⟩
      · refine ⟨_, rfl, .inl ⟨rfl, _, SqL.of ho⟩, _, rfl, o, _, _, rfl, rfl, ho, ?_, ?_⟩
        · rw [List.length_map, List.length_map, List.length_range]
          exact szlt (by omega)
        · have s2 := same_mut (o := .lst (((List.range j).map fun t => word (m + 1) k (it f t i)).map V.str ++ [V.str (word (m + 1) k (it f j i))])) sm no
          refine ⟨_, rfl, _, rfl, p, it f j i, m, k, f, rfl, c, Fo, R.same s2, hl, ?_, s2, ?_⟩
          · rw [it_succ]
            rfl
          · rw [upd_same, List.range_succ, List.map_append, List.map_append]
            rfl
/-! round_told -/
theorem cutV_all (xs : List V) : cutV xs (some 0) none = xs := by
  unfold cutV
  rw [show (0 : Int) = ((0 : Nat) : Int) from rfl, HT.sIx_nat, HT.sIx_none, Nat.zero_min, List.drop_zero, Nat.sub_zero, List.take_length]
theorem cutV_none (xs : List V) : cutV xs none (some 0) = [] := by
  unfold cutV
  rw [show (0 : Int) = ((0 : Nat) : Int) from rfl, HT.sIx_nat, Nat.zero_min, Nat.zero_sub, List.take_zero]
theorem flat_strs (xs : List Str) : (xs.map V.str).all flatV = true := by
  rw [List.all_eq_true]
  intro x hx
  obtain ⟨_, _, rfl⟩ := List.mem_map.mp hx
  rfl
theorem orb_cons (f : Nat → Nat) (n x : Nat) : ∃ r, orb f n x = x :: r ∧ ∀ y ∈ r, same f x y := by
  unfold orb
  obtain ⟨j, hj⟩ : ∃ j, per f n x = j + 1 := ⟨per f n x - 1, by have := per_pos f n x; omega⟩
  rw [hj, List.range_succ_eq_map, List.map_cons]
  refine ⟨_, rfl, fun y hy => ?_⟩
  rw [List.map_map] at hy
  obtain ⟨t, _, e⟩ := List.mem_map.mp hy
  exact ⟨t + 1, e⟩
def spRound : Sp := fun vs H Q _ => ∃ (a : Addr) (i m k : Nat) (f : Nat → Nat), vs = [.ref a] ∧ Cfg m k ∧ FolR m k f ∧ i < k ^ (m + 1) ∧ leadB f (k ^ (m + 1)) i = true ∧ H a = some (.lst (((orb f (k ^ (m + 1)) i).map (word (m + 1) k)).map V.str)) ∧
  ∀ H', Same H H' → Q (.str (tx (ringt m k f i))) H'
theorem ok_round_told (T : Tx K mg) : Dok P w K mg base CX0 1 "round_told" ["found"] spRound := by
  obtain ⟨fd, F⟩ := T.f_round_told
  refine Dok.of F T.g_round_told sc_round_told (fun _ _ _ _ _ _ us hl => match us, hl with | [_], _ => rfl) (fun vs H Q E h => ?_) (fun cdv A outer s H vs Q E hr h => ?_)
  · obtain ⟨a, i, m, k, f, rfl, _⟩ := h
    rfl
  · obtain ⟨a, i, m, k, f, rfl, c, Fo, hi, hlead, ha, q⟩ := h
    have c1 := c.m7
    have c2 := c.sz
    have hpl := Fo.b.per_le hi
    have hu1 : (A.deeper (envOfC "round_told" (defScope s_round_told) s.heap.objs.size (He.ga K "round_told") cdv)).units + 1 < cLine := by
      have := hr.units
      omega
    obtain ⟨r, er, hrs⟩ := orb_cons f (k ^ (m + 1)) i
    have hlen : (orb f (k ^ (m + 1)) i).length ≤ 64 := by rw [orb_len]; omega
    refine ⟨_, pss_cons (ps_set (i := 1) sc_round_told.nd rfl (.inl rfl) (pe_bm PySem.F.plainAttrs_list PySem.F.slot_list_index PySem.F.type_list_index mt_index (pv 0) (pa_cons (pe_callB (cr_minS rfl hu1) (by rfl) T.n_min (by decide +kernel) (pa_cons (pv 0) pa_nil)) pa_nil)))
      (pss_one (ps_ret (pe_join pe_str (pe_lc (own := [("word", 2)]) (g := gName 2) (tt := tYes) rfl sc_round_told.nd (pi_list (pe_op op_catL (pe_slice sl_list (pv 0) (po_some (pv 1)) po_none) (pe_slice sl_list (pv 0) po_none (po_some (pv 1))))) (blkOk_by (N := n_round_told) (sc := defScope s_round_told) (by decide +kernel))
        (fun _ _ _ _ _ => pg_name (i := 2) sc_round_told.nd rfl (.inl rfl)) (fun _ _ _ _ _ => pts_nil) (fun _ _ _ _ _ => pe_ix ix_str (pv 2) pe_int (fun _ _ => rfl)))))), ?_⟩
    have hS : SqL K H a ((word (m + 1) k i :: r.map (word (m + 1) k)).map V.str) := by
      rw [← List.map_cons, ← er]
      exact SqL.of ha
    refine ⟨_, rfl, .inl ⟨rfl, _, SqL.of ha⟩, _, rfl, a, word (m + 1) k i, r.map (word (m + 1) k), rfl, hS, ?_, ?_⟩
    · intro y hy
      obtain ⟨j, hj, rfl⟩ := List.mem_map.mp hy
      have hsm := hrs j hj
      have hjl : j < k ^ (m + 1) := Fo.b.orb_lt hi j (er ▸ List.mem_cons_of_mem _ hj)
      rw [word_lt hjl hi]
      intro hlt
      exact (Fo.b.leadB_iff hi).mp hlead j hlt (Fo.b.symm hi hsm)
    refine ⟨a, _, _, 0, V.str (word (m + 1) k i), rfl, rfl, hS, rfl, flat_strs _, rfl, by show (word (m + 1) k i == word (m + 1) k i) = true; exact beq_self_eq_true _, fun _ _ h => absurd h (Nat.not_lt_zero _), ?_⟩
    refine ⟨⟨_, rfl⟩, _, rfl, _, rfl, _, rfl, a, _, rfl, SqL.of ha, fun p1 n1 => ?_⟩
    have a1 : a ≠ p1 := ne_of_none ha n1
    refine ⟨_, rfl, _, rfl, _, rfl, a, _, rfl, SqL.of (by rw [upd_ne a1]; exact ha), fun p2 n2 => ?_⟩
    have h12 : p1 ≠ p2 := ne_of_none upd_same n2
    refine ⟨p1, p2, _, _, rfl, rfl, SqL.of (by rw [upd_ne h12, upd_same]), SqL.of upd_same, ?_, fun p3 n3 => ?_⟩
    · rw [show ((0 : Nat) : Int) = 0 from rfl, cutV_all, cutV_none, List.length_map, List.length_map]
      exact szl (by show _ + 0 ≤ _; omega)
    · have e9 : cutV (((orb f (k ^ (m + 1)) i).map (word (m + 1) k)).map V.str) (some ((0 : Nat) : Int)) none ++ cutV (((orb f (k ^ (m + 1)) i).map (word (m + 1) k)).map V.str) none (some ((0 : Nat) : Int)) = ((orb f (k ^ (m + 1)) i).map (word (m + 1) k)).map V.str := by
        rw [show ((0 : Nat) : Int) = 0 from rfl, cutV_all, cutV_none, List.append_nil]
      rw [e9]
      have sm3 := ((same_new (o := .lst (cutV (((orb f (k ^ (m + 1)) i).map (word (m + 1) k)).map V.str) (some ((0 : Nat) : Int)) none)) n1).trans (same_new (o := .lst (cutV (((orb f (k ^ (m + 1)) i).map (word (m + 1) k)).map V.str) none (some ((0 : Nat) : Int)))) n2)).trans (same_new (o := .lst (((orb f (k ^ (m + 1)) i).map (word (m + 1) k)).map V.str)) n3)
      refine ⟨p3, rfl, ⟨_, SqL.of upd_same⟩, fun D hD => ?_⟩
      refine lc_it walk_list (fun j H' => Same H H' ∧ H' p3 = some (.lst (((orb f (k ^ (m + 1)) i).map (word (m + 1) k)).map V.str)) ∧ H' D = some (.lst ((((orb f (k ^ (m + 1)) i).take j).map fun y => tx [y / k ^ m]).map V.str)))
        ⟨sm3.trans (same_new hD), ?_, ?_⟩ (fun i H' _ z => SqL.of z.2.1) ?_ ?_
      · rw [upd_ne (ne_of_none upd_same hD), upd_same]
      · rw [upd_same]
        rfl
      · rintro j x H1 H2 hj ⟨sm, h3, hD'⟩ ⟨rfl, hx⟩
        rw [List.getElem?_map, List.getElem?_map] at hx
        rw [List.length_map, List.length_map] at hj
        rw [List.getElem?_eq_getElem hj] at hx
        have ex : V.str (word (m + 1) k (orb f (k ^ (m + 1)) i)[j]) = x := Option.some.inj hx
        subst ex
        have hyl : (orb f (k ^ (m + 1)) i)[j] < k ^ (m + 1) := Fo.b.orb_lt hi _ (List.getElem_mem _)
        have hHD : H D = none := by
          cases e : H D with
          | none => rfl
          | some o => exact absurd (sm3 _ _ e) (by rw [hD]; exact fun z => nomatch z)
        refine ⟨rfl, yes_if ⟨_, rfl, _, _, _, rfl, rfl, wlen c1, at0_word hyl, _, hD', ?_, same_mut sm hHD, ?_, ?_⟩⟩
        · rw [List.length_map, List.length_map, List.length_take]
          exact szlt (by omega)
        · rw [upd_ne (ne_of_none upd_same hD)]
          exact h3
        · rw [upd_same, List.take_add_one, List.getElem?_eq_getElem hj, List.map_append, List.map_append]
          rfl
      · rintro H' ⟨sm, _, hD'⟩
        rw [List.length_map, List.length_map, List.take_length] at hD'
        have e0 : ((orb f (k ^ (m + 1)) i).map fun y => tx [y / k ^ m]) = (ringt m k f i).map fun d => tx [d] := by
          unfold ringt
          rw [List.map_map]
          rfl
        rw [e0] at hD'
        refine ⟨_, _, _, rfl, rfl, .inl (SqL.of hD'), ?_, ?_⟩
        · rw [ones_len _ (Str.ofString ""), List.length_map, ringt_len, ofs_empty_len]
          omega
        · rw [join_ones]
          exact q H' sm
end
end RJ
set_option Elab.async false
set_option linter.all false
set_option maxRecDepth 100000
set_option maxHeartbeats 4000000
namespace RJ
open PySem PySem.Spec PyProof.Rows L2
theorem none_back {H H' : Hp} {p : Addr} (s : Same H H') (h : H' p = none) : H p = none := by
  cases e : H p with
  | none => rfl
  | some o => exact absurd (s _ _ e) (by rw [h]; exact fun z => nomatch z)
/-- the words met -/
def Met (m k : Nat) (kvs : List (Key × V)) (S : Nat → Prop) : Prop := ∀ x, x < k ^ (m + 1) → ((valV kvs (Sum.inr (word (m + 1) k x) : Key)).isSome = true ↔ S x)
theorem Met.put {m k i : Nat} {kvs : List (Key × V)} {S S' : Nat → Prop} {v : V} (M : Met m k kvs S) (hi : i < k ^ (m + 1)) (h : ∀ x, S' x ↔ S x ∨ x = i) : Met m k (putK kvs (Sum.inr (word (m + 1) k i) : Key) v) S' := fun x hx => by
  rw [valV_put, h]
  by_cases e : x = i
  · subst e
    rw [if_pos rfl]
    exact ⟨fun _ => .inr rfl, fun _ => rfl⟩
  · rw [if_neg (fun z => e (word_inj hx hi (Sum.inr.inj z))), M x hx]
    exact ⟨.inl, fun z => z.resolve_right e⟩
theorem Met.imp {m k : Nat} {kvs : List (Key × V)} {S S' : Nat → Prop} (M : Met m k kvs S) (h : ∀ x, x < k ^ (m + 1) → (S x ↔ S' x)) : Met m k kvs S' := fun x hx => (M x hx).trans (h x hx)
theorem filter_step (p : Nat → Bool) (i : Nat) : (List.range (i + 1)).filter p = (List.range i).filter p ++ (if p i = true then [i] else []) := by
  rw [List.range_succ, List.filter_append]
  congr 1
  by_cases h : p i = true
  · rw [if_pos h, List.filter_cons_of_pos h]
    rfl
  · rw [if_neg h, List.filter_cons_of_neg h]
    rfl
section
variable {P : Program} {w : World} {K : PySem.W.Frag} {mg : Str → Option Value} {base : Heap}
def leadTx (m k : Nat) (f : Nat → Nat) (l : List Nat) : List V := (l.map fun i => tx (ringt m k f i)).map V.str
def spRounds (C : Addr) : Sp := fun vs H Q _ => ∃ (p : Addr) (m k : Nat) (f : Nat → Nat), vs = [.ref p] ∧ Cfg m k ∧ FolR m k f ∧ RuleAt C H p m k f ∧
  ∀ ys H' q, List.Perm ys ((lead f (k ^ (m + 1))).map fun i => tx (ringt m k f i)) → sortedS ys = true → Same H H' → H q = none → H' q = some (.lst (ys.map V.str)) → Q (.ref q) H'
theorem ok_rounds (T : Tx K mg) : Dok P w K mg base CX0 7 "rounds" ["rule"] (spRounds (He.ga K "Rule")) := by
  obtain ⟨fd, F⟩ := T.f_rounds
  have D1 : Dok P w K mg base CX0 6 "fair_asked" ["rule"] (spFairAsked (He.ga K "Rule")) := ok_fair_asked T
  have D2 : Dok P w K mg base CX0 4 "all_words" ["length", "kinds"] spAllWords := ok_all_words T
  have D3 : Dok P w K mg base CX0 5 "words_from" ["rule", "word"] (spFrom (He.ga K "Rule")) := ok_words_from T
  have D4 : Dok P w K mg base CX0 1 "round_told" ["found"] spRound := ok_round_told T
  refine Dok.of F T.g_rounds sc_rounds (fun _ _ _ _ _ _ us hl => match us, hl with | [_], _ => rfl) (fun vs H Q E h => ?_) (fun cdv A outer s H vs Q E hr h => ?_)
  · obtain ⟨p, m, k, f, rfl, _⟩ := h
    rfl
  · obtain ⟨p, m, k, f, rfl, c, Fo, R, q⟩ := h
    have c1 := c.m7
    have c2 := c.sz
    have hu := hu_of hr
    refine ⟨_, pss_cons (ps_expr (pcall D1 hr (pa_cons (pv 0) pa_nil)))
      (pss_cons (ps_set (i := 1) sc_rounds.nd rfl (.inl rfl) pe_dnewK)
      (pss_cons (ps_set (i := 2) sc_rounds.nd rfl (.inl rfl) (pe_lst pa_nil))
      (pss_cons (ps_for PassesOwn.never rfl (pi_list (pcall D2 (hr.mono (by decide)) (pa_cons (pe_fld (pv 0) rfl) (pa_cons (pe_fld (pv 0) rfl) pa_nil)))) (pg_name (i := 3) sc_rounds.nd rfl (.inl rfl))
        (pss_one (ps_if (pt_cmp (pc_dnotin hu (pv 3) (pv 1)))
          (pss_cons (ps_set (i := 4) sc_rounds.nd rfl (.inl rfl) (pcall D3 (hr.mono (by decide)) (pa_cons (pv 0) (pa_cons (pv 3) pa_nil))))
          (pss_cons (ps_for PassesOwn.never rfl (pi_list (pv 4)) (pg_name (i := 5) sc_rounds.nd rfl (.inl rfl)) (pss_one (ps_dput hu (pv 1) (pv 5) pe_bl rfl)))
          (pss_one (ps_expr (pe_bm PySem.F.plainAttrs_list PySem.F.slot_list_append PySem.F.type_list_append mt_append (pv 2) (pa_cons (pcall D4 (hr.mono (by decide)) (pa_cons (pv 4) pa_nil)) pa_nil))))))
          pss_nil)))
      (pss_one (ps_ret (pe_callB cr_sortS (by rfl) T.n_sorted (by decide +kernel) (pa_cons (pv 2) pa_nil))))))), ?_⟩
    refine ⟨_, rfl, p, m, k, f, rfl, c, Fo, R, fun H1 s1 => ?_⟩
    intro d nd1
    have R1 := R.same s1
    have s2 : Same H1 (upd H1 d (.dK [])) := same_new nd1
    refine ⟨Nat.zero_le _, fun t nt => ?_⟩
    have s3 : Same (upd H1 d (.dK [])) (upd (upd H1 d (.dK [])) t (.lst [])) := same_new nt
    have s03 := (s1.trans s2).trans s3
    obtain ⟨dx, hp⟩ := id (R1.same (s2.trans s3))
    have hdt : d ≠ t := ne_of_none upd_same nt
    refine ⟨_, rfl, p, _, dx, _, _, rfl, hp, T.cls, T.no_length, rfs_length _ _ _, _, rfl, p, _, dx, _, _, rfl, hp, T.cls, T.no_kinds, rfs_kinds _ _ _, m + 1, k, rfl, c.k1, c.k6, by omega, by omega, c2, fun H2 a sm2 na hA => ?_⟩
    have hta : t ≠ a := ne_of_none upd_same na
    have hda : d ≠ a := ne_of_none (s3 _ _ upd_same) na
    have hd2 : H2 d = some (.dK []) := sm2 _ _ (s3 _ _ upd_same)
    have ht2 : H2 t = some (.lst []) := sm2 _ _ upd_same
    have n0d : H d = none := none_back s1 nd1
    have n0t : H t = none := none_back (s1.trans s2) nt
    refine ⟨a, rfl, ⟨_, SqL.of hA⟩, for_it walk_list (fun i σ H' => ∃ y3 y4 y5 kvs, σ = [some (.ref p), some (.ref d), some (.ref t), y3, y4, y5] ∧ Same H H' ∧ H' a = some (.lst ((words (m + 1) k).map V.str)) ∧
        H' t = some (.lst (leadTx m k f ((List.range i).filter (leadB f (k ^ (m + 1)))))) ∧ H' d = some (.dK kvs) ∧ kvs.length ≤ 64 * i ∧ Met m k kvs fun x => ∃ v, v < i ∧ same f v x)
      ⟨none, none, none, [], rfl, s03.trans sm2, hA, ht2, hd2, Nat.le_refl _, fun x _ => ⟨fun z => (nomatch z), fun ⟨v, hv, _⟩ => absurd hv (Nat.not_lt_zero _)⟩⟩ (fun i σ H' _ ⟨_, _, _, _, _, _, z, _⟩ => SqL.of z) ?_ ?_⟩
    · rintro i x σ H3 H4 hi ⟨y3, y4, y5, kvs, rfl, sm, hA3, ht3, hd3, hlen, hM⟩ ⟨rfl, hx⟩
      have hi' : i < k ^ (m + 1) := by
        rw [List.length_map, words_len] at hi
        exact hi
      rw [List.getElem?_map, words_get hi'] at hx
      have ex : V.str (word (m + 1) k i) = x := Option.some.inj hx
      subst ex
      refine ⟨_, rfl, _, rfl, d, _, rfl, DGet.k (k := Sum.inr (word (m + 1) k i)) hd3, _, rfl, ?_⟩
      have hMi := hM i hi'
      cases hv : (valV kvs (Sum.inr (word (m + 1) k i) : Key)).isSome with
      | true =>
        obtain ⟨v, hvi, hvs⟩ := hMi.mp hv
        have hl : leadB f (k ^ (m + 1)) i = false := by
          cases e : leadB f (k ^ (m + 1)) i with
          | false => rfl
          | true => exact absurd hvs ((Fo.b.leadB_iff hi').mp e v hvi)
        refine iteF ⟨_, _, _, kvs, rfl, sm, hA3, ?_, hd3, by omega, hM.imp fun x hx => ⟨fun ⟨v, a, b⟩ => ⟨v, by omega, b⟩, fun ⟨u, a, b⟩ => ?_⟩⟩
        · rw [filter_step, hl, if_neg (by decide), List.append_nil]
          exact ht3
        · rcases Nat.lt_or_ge u i with c | c
          · exact ⟨u, c, b⟩
          · have : u = i := by omega
            exact ⟨v, hvi, hvs.trans (this ▸ b)⟩
      | false =>
        have hno : ∀ v, v < i → ¬ same f v i := fun v hv2 hs => by
          have := hMi.mpr ⟨v, hv2, hs⟩
          rw [hv] at this
          cases this
        have hl : leadB f (k ^ (m + 1)) i = true := (Fo.b.leadB_iff hi').mpr hno
        refine iteT ⟨_, rfl, _, rfl, p, i, m, k, f, rfl, c, Fo, R.same sm, hi', fun H5 o sm5 no ho => ?_⟩
        have hdo : d ≠ o := ne_of_none hd3 no
        have ol : (orb f (k ^ (m + 1)) i).length ≤ 64 := by
          rw [orb_len]
          have := Fo.b.per_le hi'
          omega
        refine ⟨_, rfl, o, rfl, ⟨_, SqL.of ho⟩, for_it walk_list (fun j σ H' => ∃ z5 kv, σ = [some (.ref p), some (.ref d), some (.ref t), some (.str (word (m + 1) k i)), some (.ref o), z5] ∧ Same H H' ∧ H' a = some (.lst ((words (m + 1) k).map V.str)) ∧
            H' t = some (.lst (leadTx m k f ((List.range i).filter (leadB f (k ^ (m + 1)))))) ∧ H' o = some (.lst (((orb f (k ^ (m + 1)) i).map (word (m + 1) k)).map V.str)) ∧ H' d = some (.dK kv) ∧ kv.length ≤ 64 * i + j ∧ Met m k kv fun x => (∃ v, v < i ∧ same f v x) ∨ x ∈ (orb f (k ^ (m + 1)) i).take j)
          ⟨_, kvs, rfl, sm.trans sm5, sm5 _ _ hA3, sm5 _ _ ht3, ho, sm5 _ _ hd3, by omega, hM.imp fun x _ => ⟨.inl, fun z => z.resolve_right (by simp)⟩⟩ (fun i σ H' _ ⟨_, _, _, _, _, _, z, _⟩ => SqL.of z) ?_ ?_⟩
        · rintro j x σ H6 H7 hj ⟨z5, kv, rfl, sm6, hA6, ht6, ho6, hd6, hl6, hM6⟩ ⟨rfl, hx⟩
          rw [List.length_map, List.length_map] at hj
          rw [List.getElem?_map, List.getElem?_map, List.getElem?_eq_getElem hj] at hx
          have ex : V.str (word (m + 1) k (orb f (k ^ (m + 1)) i)[j]) = x := Option.some.inj hx
          subst ex
          have hyl : (orb f (k ^ (m + 1)) i)[j] < k ^ (m + 1) := Fo.b.orb_lt hi' _ (List.getElem_mem _)
          refine ⟨_, rfl, _, rfl, d, _, rfl, DPut.k (k := Sum.inr (word (m + 1) k (orb f (k ^ (m + 1)) i)[j])) hd6 (szlt (by omega)), ?_⟩
          refine ⟨_, _, rfl, same_mut sm6 n0d, ?_, ?_, ?_, upd_same, Nat.le_trans (length_putK _ _ _) (by omega), hM6.put hyl fun x => ?_⟩
          · rw [upd_ne hda.symm]
            exact hA6
          · rw [upd_ne hdt.symm]
            exact ht6
          · rw [upd_ne hdo.symm]
            exact ho6
          · rw [List.take_add_one, List.getElem?_eq_getElem hj, List.mem_append]
            show _ ∨ (_ ∨ x ∈ [(orb f (k ^ (m + 1)) i)[j]]) ↔ _
            rw [List.mem_singleton, or_assoc]
        · rintro σ H8 ⟨z5, kv, rfl, sm8, hA8, ht8, ho8, hd8, hl8, hM8⟩
          rw [List.length_map, List.length_map] at hl8 hM8
          rw [List.take_length] at hM8
          refine ⟨_, rfl, .inl ⟨rfl, _, SqL.of ht8⟩, _, rfl, o, i, m, k, f, rfl, c, Fo, hi', hl, ho8, fun H9 sm9 => ⟨t, _, _, rfl, rfl, sm9 _ _ ht8, ?_, ?_⟩⟩
          · unfold leadTx
            rw [List.length_map, List.length_map]
            have := List.length_filter_le (leadB f (k ^ (m + 1))) (List.range i)
            rw [List.length_range] at this
            exact szlt (by omega)
          · refine ⟨_, _, _, kv, rfl, same_mut (sm8.trans sm9) n0t, ?_, ?_, ?_, by omega, hM8.imp fun x hx => ?_⟩
            · rw [upd_ne hta.symm]
              exact sm9 _ _ hA8
            · rw [upd_same, filter_step, hl, if_pos rfl]
              unfold leadTx
              rw [List.map_append, List.map_append]
              rfl
            · rw [upd_ne hdt]
              exact sm9 _ _ hd8
            · rw [Fo.b.mem_orb hi']
              constructor
              · rintro (⟨v, h1, h2⟩ | h2)
                · exact ⟨v, by omega, h2⟩
                · exact ⟨i, by omega, h2⟩
              · rintro ⟨v, h1, h2⟩
                rcases Nat.lt_or_ge v i with c | c
                · exact .inl ⟨v, c, h2⟩
                · have : v = i := by omega
                  exact .inr (this ▸ h2)
    · rintro σ H' ⟨y3, y4, y5, kvs, rfl, sm, _, ht', _⟩
      rw [List.length_map, words_len] at ht'
      refine ⟨_, rfl, t, _, rfl, SqL.of ht', fun ys q' hper hso nq => ?_⟩
      refine q ys _ q' hper hso (sm.trans (same_new nq)) (none_back sm nq) upd_same
end
end RJ
set_option Elab.async false
set_option linter.all false
set_option maxRecDepth 100000
set_option maxHeartbeats 4000000
namespace RJ
open PySem PySem.Spec PyProof.Rows L2
/-! pairs of words at tuples -/
inductive Tups (L K : Nat) (H : Hp) : List V → List (Nat × Nat) → Prop
  | nil : Tups L K H [] []
  | cons {t : Addr} {a b : Nat} {vs : List V} {ps : List (Nat × Nat)} : H t = some (.tup [V.str (word L K a), V.str (word L K b)]) → Tups L K H vs ps → Tups L K H (.ref t :: vs) ((a, b) :: ps)
section
variable {L k : Nat} {H H' : Hp} {vs : List V} {ps : List (Nat × Nat)}
theorem Tups.len (T : Tups L k H vs ps) : vs.length = ps.length := by
  induction T with
  | nil => rfl
  | cons _ _ ih => rw [List.length_cons, List.length_cons, ih]
theorem Tups.mono (T : Tups L k H vs ps) (h : ∀ t x, H t = some (.tup x) → H' t = some (.tup x)) : Tups L k H' vs ps := by
  induction T with
  | nil => exact .nil
  | cons e _ ih => exact .cons (h _ _ e) ih
theorem Tups.same (T : Tups L k H vs ps) (s : Same H H') : Tups L k H' vs ps := T.mono fun t x e => s _ _ e
theorem Tups.lst {l : Addr} {xs ys : List V} (T : Tups L k H vs ps) (h : H l = some (.lst xs)) : Tups L k (upd H l (.lst ys)) vs ps := T.mono fun t x e => by
  rw [upd_ne (ne_of e h (by intro z; cases z))]
  exact e
theorem Tups.snoc {t : Addr} {a b : Nat} (T : Tups L k H vs ps) (e : H t = some (.tup [V.str (word L k a), V.str (word L k b)])) : Tups L k H (vs ++ [.ref t]) (ps ++ [(a, b)]) := by
  induction T with
  | nil => exact .cons e .nil
  | cons e2 _ ih => exact .cons e2 ih
def pairD (L k : Nat) (p : Nat × Nat) : PyData := .tuple [.str (word L k p.1), .str (word L k p.2)]
theorem Tups.dp {K : PySem.W.Frag} (T : Tups L k H vs ps) : DpAll K H vs (ps.map (pairD L k)) := by
  induction T with
  | nil => exact .nil
  | cons e _ ih => exact .cons (.tup (SqT.of e) (.cons (.str _) (.cons (.str _) .nil))) ih
end
/-! the row of a word -/
def row (m k i j : Nat) : List (Nat × Nat) := (((prt m k i k).take j).filter fun b => decide (i < b)).map fun b => (i, b)
def rowsTo (m k i : Nat) : List (Nat × Nat) := (List.range i).flatMap fun a => row m k a k
theorem prt_mem {m k i b : Nat} (hk : 0 < k) : b ∈ prt m k i k ↔ b < k ^ (m + 1) ∧ b % k ^ m = i % k ^ m ∧ b / k ^ m ≠ i / k ^ m := by
  unfold prt
  have hp : 0 < k ^ m := Nat.pow_pos hk
  rw [List.mem_map]
  constructor
  · rintro ⟨d, hd, rfl⟩
    rw [List.mem_filter, List.mem_range, decide_eq_true_eq] at hd
    have h2 := (wdig_first (m := m) (K := k) (i := i) hk hd.1).2
    refine ⟨h2, ?_, ?_⟩
    · rw [Nat.mul_comm, Nat.mul_add_mod, Nat.mod_mod]
    · rw [Nat.mul_comm, Nat.mul_add_div hp, Nat.div_eq_of_lt (Nat.mod_lt _ hp), Nat.add_zero]
      exact hd.2
  · rintro ⟨h1, h2, h3⟩
    refine ⟨b / k ^ m, List.mem_filter.mpr ⟨List.mem_range.mpr ((Nat.div_lt_iff_lt_mul hp).mpr (by rw [Nat.pow_succ, Nat.mul_comm] at h1; exact h1)), decide_eq_true h3⟩, ?_⟩
    rw [← h2, Nat.mul_comm]
    exact Nat.div_add_mod b (k ^ m)
theorem prt_up {m k : Nat} (i c : Nat) (hk : 0 < k) : (prt m k i c).Pairwise (· < ·) := by
  unfold prt
  rw [List.pairwise_map]
  refine (List.pairwise_lt_range.filter _).imp fun {a b} h => ?_
  have hp : 0 < k ^ m := Nat.pow_pos hk
  have := Nat.mul_lt_mul_of_pos_right h hp
  omega
theorem row_full {m k i : Nat} (hk : 0 < k) : row m k i k = ((List.range (k ^ (m + 1))).filter fun b => decide (i < b) && decide (i % k ^ m = b % k ^ m)).map fun b => (i, b) := by
  unfold row
  congr 1
  have hlen : (prt m k i k).length ≤ k := prt_len m k i k
  rw [List.take_of_length_le hlen]
  refine List.Perm.eq_of_pairwise (le := fun a b => a < b) (fun x y _ _ h1 h2 => by omega) ((prt_up i k hk).filter _) (List.pairwise_lt_range.filter _) ?_
  refine (List.perm_ext_iff_of_nodup (((prt_up i k hk).filter _).imp fun h => Nat.ne_of_lt h) ((List.pairwise_lt_range.filter _).imp fun h => Nat.ne_of_lt h)).mpr fun b => ?_
  rw [List.mem_filter, List.mem_filter, prt_mem hk, List.mem_range, Bool.and_eq_true, decide_eq_true_eq, decide_eq_true_eq]
  constructor
  · rintro ⟨⟨h1, h2, _⟩, h4⟩
    exact ⟨h1, h4, h2.symm⟩
  · rintro ⟨h1, h2, h3⟩
    exact ⟨⟨h1, h3.symm, fun z => ne_head (a := b) (b := i) (by omega) h3.symm z⟩, h2⟩
theorem rows_prs {m k : Nat} (hk : 0 < k) : rowsTo m k (k ^ (m + 1)) = prs (k ^ (m + 1)) (k ^ m) := by
  unfold rowsTo prs
  congr 1
  funext a
  exact row_full hk
theorem rows_succ (m k i : Nat) : rowsTo m k (i + 1) = rowsTo m k i ++ row m k i k := by
  unfold rowsTo
  rw [List.range_succ, List.flatMap_append, List.flatMap_singleton]
theorem row_zero (m k i : Nat) : row m k i 0 = [] := rfl
theorem row_all {m k i : Nat} {j : Nat} (h : j = (prt m k i k).length) : row m k i j = row m k i k := by
  unfold row
  rw [List.take_of_length_le (by omega), List.take_of_length_le (prt_len m k i k)]
theorem row_succ {m k i j b : Nat} (h : (prt m k i k)[j]? = some b) : row m k i (j + 1) = row m k i j ++ (if i < b then [(i, b)] else []) := by
  unfold row
  rw [List.take_add_one, h, List.filter_append, List.map_append]
  congr 1
  show List.map _ (List.filter _ [b]) = _
  by_cases c : i < b
  · rw [if_pos c, List.filter_cons_of_pos (by simp [c])]
    rfl
  · rw [if_neg c, List.filter_cons_of_neg (by simp [c])]
    rfl
theorem row_ok {m k i j : Nat} (hk : 0 < k) (hi : i < k ^ (m + 1)) : ∀ p ∈ row m k i j, p.1 < k ^ (m + 1) ∧ p.2 < k ^ (m + 1) ∧ p.1 % k ^ m = p.2 % k ^ m := fun p hp => by
  unfold row at hp
  obtain ⟨b, hb, rfl⟩ := List.mem_map.mp hp
  have h1 := (prt_mem hk).mp (List.mem_of_mem_take (List.mem_filter.mp hb).1)
  exact ⟨hi, h1.1, h1.2.1.symm⟩
theorem rows_ok {m k i : Nat} (hk : 0 < k) (hi : i ≤ k ^ (m + 1)) : ∀ p ∈ rowsTo m k i, p.1 < k ^ (m + 1) ∧ p.2 < k ^ (m + 1) ∧ p.1 % k ^ m = p.2 % k ^ m := fun p hp => by
  unfold rowsTo at hp
  obtain ⟨a, ha, hb⟩ := List.mem_flatMap.mp hp
  exact row_ok hk (Nat.lt_of_lt_of_le (List.mem_range.mp ha) hi) p hb
/-- where joining stands -/
def joinAt (m k : Nat) (f : Nat → Nat) (l : List (Nat × Nat)) : (Nat → Nat) × List (Nat × Nat) := l.foldl (stepJ (k ^ (m + 1))) (f, [])
theorem join_jn {m k : Nat} {f : Nat → Nat} {l : List (Nat × Nat)} (F : FolR m k f) (h : ∀ p ∈ l, p.1 < k ^ (m + 1) ∧ p.2 < k ^ (m + 1) ∧ p.1 % k ^ m = p.2 % k ^ m) : Jn (k ^ (m + 1)) (k ^ m) k f l (joinAt m k f l) := by
  have J0 : Jn (k ^ (m + 1)) (k ^ m) k f [] (f, []) := ⟨F, by simp, fun p hp => by cases hp⟩
  have := Jn.fold l J0 (fun p hp => by cases hp) h
  exact this
theorem join_snoc (m k : Nat) (f : Nat → Nat) (l : List (Nat × Nat)) (p : Nat × Nat) : joinAt m k f (l ++ [p]) = stepJ (k ^ (m + 1)) (joinAt m k f l) p := by
  unfold joinAt
  rw [List.foldl_append]
  rfl
theorem cnt_le (f : Nat → Nat) (n : Nat) : cnt f n ≤ n := by
  unfold cnt lead
  have := List.length_filter_le (leadB f n) (List.range n)
  rwa [List.length_range] at this
theorem join_len_le {m k : Nat} {f : Nat → Nat} {l : List (Nat × Nat)} (F : FolR m k f) (h : ∀ p ∈ l, p.1 < k ^ (m + 1) ∧ p.2 < k ^ (m + 1) ∧ p.1 % k ^ m = p.2 % k ^ m) : (joinAt m k f l).2.length ≤ k ^ (m + 1) := by
  have := (join_jn F h).c
  have := cnt_le f (k ^ (m + 1))
  omega
theorem inV_words {L k : Nat} (l : List Nat) (b : Nat) (hl : ∀ x ∈ l, x < k ^ L) (hb : b < k ^ L) : inV (.str (word L k b)) ((l.map (word L k)).map V.str) = decide (b ∈ l) := by
  unfold inV
  by_cases h : b ∈ l
  · rw [decide_eq_true h, List.any_eq_true]
    refine ⟨.str (word L k b), List.mem_map.mpr ⟨_, List.mem_map.mpr ⟨b, h, rfl⟩, rfl⟩, ?_⟩
    show (word L k b == word L k b) = true
    exact beq_self_eq_true _
  · rw [decide_eq_false h, List.any_eq_false]
    intro x hx
    obtain ⟨_, hx2, rfl⟩ := List.mem_map.mp hx
    obtain ⟨y, hy, rfl⟩ := List.mem_map.mp hx2
    show ¬ (word L k y == word L k b) = true
    rw [beq_iff_eq]
    exact fun z => h (word_inj (hl y hy) hb z ▸ hy)
section
variable {P : Program} {w : World} {K : PySem.W.Frag} {mg : Str → Option Value} {base : Heap}
def spJoined (C : Addr) : Sp := fun vs H Q _ => ∃ (p : Addr) (m k : Nat) (f : Nat → Nat), vs = [.ref p] ∧ Cfg m k ∧ FolR m k f ∧ RuleAt C H p m k f ∧
  ∀ (H' : Hp) (t r l : Addr) (vs : List V), Same H H' → H' t = some (.tup [.ref r, .ref l]) → H l = none → H' l = some (.lst vs) → Tups (m + 1) k H' vs (joinAt m k f (prs (k ^ (m + 1)) (k ^ m))).2 → RuleAt C H' r m k (joinAt m k f (prs (k ^ (m + 1)) (k ^ m))).1 → Q (.ref t) H'
theorem ok_joined (T : Tx K mg) : Dok P w K mg base CX0 7 "joined" ["rule"] (spJoined (He.ga K "Rule")) := by
  obtain ⟨fd, F⟩ := T.f_joined
  have D1 : Dok P w K mg base CX0 6 "fair_asked" ["rule"] (spFairAsked (He.ga K "Rule")) := ok_fair_asked T
  have D2 : Dok P w K mg base CX0 4 "all_words" ["length", "kinds"] spAllWords := ok_all_words T
  have D3 : Dok P w K mg base CX0 5 "words_from" ["rule", "word"] (spFrom (He.ga K "Rule")) := ok_words_from T
  have D4 : Dok P w K mg base CX0 4 "partners" ["rule", "word"] (spPartners (He.ga K "Rule")) := ok_partners T
  have D5 : Dok P w K mg base CX0 6 "exchanged" ["rule", "one", "two"] (spExch (He.ga K "Rule")) := ok_exchanged T
  refine Dok.of F T.g_joined sc_joined (fun _ _ _ _ _ _ us hl => match us, hl with | [_], _ => rfl) (fun vs H Q E h => ?_) (fun cdv A outer s H vs Q E hr h => ?_)
  · obtain ⟨p, m, k, f, rfl, _⟩ := h
    rfl
  · obtain ⟨p, m, k, f, rfl, c, Fo, R, q⟩ := h
    have c1 := c.m7
    have c2 := c.sz
    have k1 := c.k1
    have hu := hu_of hr
    refine ⟨_, pss_cons (ps_expr (pcall D1 hr (pa_cons (pv 0) pa_nil)))
      (pss_cons (ps_set (i := 1) sc_joined.nd rfl (.inl rfl) (pe_lst pa_nil))
      (pss_cons (ps_for PassesOwn.never rfl (pi_list (pcall D2 (hr.mono (by decide)) (pa_cons (pe_fld (pv 0) rfl) (pa_cons (pe_fld (pv 0) rfl) pa_nil)))) (pg_name (i := 2) sc_joined.nd rfl (.inl rfl))
        (pss_one (ps_for PassesOwn.never rfl (pi_list (pcall D4 (hr.mono (by decide)) (pa_cons (pv 0) (pa_cons (pv 2) pa_nil)))) (pg_name (i := 3) sc_joined.nd rfl (.inl rfl))
          (pss_one (ps_if (PW.pt (pw_and (pt_cmpR op_lt_str (pv 2) (pv 3) (nomark _)) (pw_and1 (pt_cmpR op_notIn_seq (pv 3) (pcall D3 (hr.mono (by decide)) (pa_cons (pv 0) (pa_cons (pv 2) pa_nil))) rfl))))
            (pss_cons (ps_set (i := 0) sc_joined.nd rfl (.inl rfl) (pcall D5 hr (pa_cons (pv 0) (pa_cons (pv 2) (pa_cons (pv 3) pa_nil)))))
            (pss_one (ps_expr (pe_bm PySem.F.plainAttrs_list PySem.F.slot_list_append PySem.F.type_list_append mt_append (pv 1) (pa_cons (pe_tup (pa_cons (pv 2) (pa_cons (pv 3) pa_nil))) pa_nil)))))
            pss_nil)))))
      (pss_one (ps_ret (pe_tup (pa_cons (pv 0) (pa_cons (pv 1) pa_nil))))))), ?_⟩
    refine ⟨_, rfl, p, m, k, f, rfl, c, Fo, R, fun H1 s1 => ?_⟩
    refine ⟨Nat.zero_le _, fun l nl => ?_⟩
    have s3 : Same H1 (upd H1 l (.lst [])) := same_new nl
    have s03 := s1.trans s3
    obtain ⟨dx, hp⟩ := id (R.same s03)
    refine ⟨_, rfl, p, _, dx, _, _, rfl, hp, T.cls, T.no_length, rfs_length _ _ _, _, rfl, p, _, dx, _, _, rfl, hp, T.cls, T.no_kinds, rfs_kinds _ _ _, m + 1, k, rfl, c.k1, c.k6, by omega, by omega, c2, fun H2 a sm2 na hA => ?_⟩
    have hla : l ≠ a := ne_of_none upd_same na
    have hl2 : H2 l = some (.lst []) := sm2 _ _ upd_same
    have n0l : H l = none := none_back s1 nl
    refine ⟨a, rfl, ⟨_, SqL.of hA⟩, for_it walk_list (fun i σ H' => ∃ r y2 y3 vs, σ = [some (.ref r), some (.ref l), y2, y3] ∧ Same H H' ∧ H' a = some (.lst ((words (m + 1) k).map V.str)) ∧ H' l = some (.lst vs) ∧
        Tups (m + 1) k H' vs (joinAt m k f (rowsTo m k i)).2 ∧ RuleAt (He.ga K "Rule") H' r m k (joinAt m k f (rowsTo m k i)).1)
      ⟨p, none, none, [], rfl, s03.trans sm2, hA, hl2, .nil, R.same (s03.trans sm2)⟩ (fun i σ H' _ ⟨_, _, _, _, _, _, z, _⟩ => SqL.of z) ?_ ?_⟩
    · rintro i x σ H3 H4 hi ⟨r, y2, y3, vs, rfl, sm, hA3, hl3, hT3, hR3⟩ ⟨rfl, hx⟩
      have hi' : i < k ^ (m + 1) := by
        rw [List.length_map, words_len] at hi
        exact hi
      rw [List.getElem?_map, words_get hi'] at hx
      have ex : V.str (word (m + 1) k i) = x := Option.some.inj hx
      subst ex
      refine ⟨_, rfl, _, rfl, r, i, m, k, _, rfl, c, hR3, hi', fun H5 o sm5 no ho => ?_⟩
      have hlo : l ≠ o := ne_of_none hl3 no
      refine ⟨o, rfl, ⟨_, SqL.of ho⟩, for_it walk_list (fun j σ H' => ∃ r y3 vs, σ = [some (.ref r), some (.ref l), some (.str (word (m + 1) k i)), y3] ∧ Same H H' ∧ H' a = some (.lst ((words (m + 1) k).map V.str)) ∧ H' o = some (.lst (((prt m k i k).map (word (m + 1) k)).map V.str)) ∧ H' l = some (.lst vs) ∧
          Tups (m + 1) k H' vs (joinAt m k f (rowsTo m k i ++ row m k i j)).2 ∧ RuleAt (He.ga K "Rule") H' r m k (joinAt m k f (rowsTo m k i ++ row m k i j)).1)
        ⟨r, _, vs, rfl, sm.trans sm5, sm5 _ _ hA3, ho, sm5 _ _ hl3, ?_, ?_⟩ (fun i σ H' _ ⟨_, _, _, _, _, _, z, _⟩ => SqL.of z) ?_ ?_⟩
      · rw [row_zero, List.append_nil]
        exact hT3.same sm5
      · rw [row_zero, List.append_nil]
        exact hR3.same sm5
      · rintro j x σ H6 H7 hj ⟨r, y3, vs, rfl, sm6, hA6, ho6, hl6, hT6, hR6⟩ ⟨rfl, hx⟩
        rw [List.length_map, List.length_map] at hj
        rw [List.getElem?_map, List.getElem?_map, List.getElem?_eq_getElem hj] at hx
        have hb1 : (prt m k i k)[j]? = some (prt m k i k)[j] := List.getElem?_eq_getElem hj
        revert hx hb1
        generalize (prt m k i k)[j] = b
        intro hx hb1
        have ex : V.str (word (m + 1) k b) = x := Option.some.inj hx
        subst ex
        obtain ⟨hb, hbm, hbd⟩ := (prt_mem k1).mp (List.mem_of_getElem? hb1)
        have hok : ∀ p ∈ rowsTo m k i ++ row m k i j, p.1 < k ^ (m + 1) ∧ p.2 < k ^ (m + 1) ∧ p.1 % k ^ m = p.2 % k ^ m := fun p hp => (List.mem_append.mp hp).elim (rows_ok k1 (Nat.le_of_lt hi') p) (row_ok k1 hi' p)
        have J := join_jn Fo hok
        have hvl : vs.length ≤ 64 := by
          rw [hT6.len]
          have := join_len_le Fo hok
          omega
        refine ⟨_, rfl, _, rfl, _, _, rfl, rfl, _, rfl, ?_⟩
        by_cases hib : i < b
        · rw [decide_eq_true ((word_lt hi' hb).mpr hib)]
          refine iteT ⟨_, rfl, _, rfl, _, rfl, r, i, m, k, _, rfl, c, J.f, hR6, hi', fun H8 o8 sm8 no8 ho8 => ?_⟩
          refine ⟨o8, _, rfl, .inl (SqL.of ho8), rfl, flat_strs _, _, rfl, ?_⟩
          show if (!inV (V.str (word (m + 1) k b)) _) = true then _ else _
          rw [inV_words _ _ (J.f.b.orb_lt hi') hb, row_succ hb1, if_pos hib, ← List.append_assoc, join_snoc]
          cases hs : sameB (joinAt m k f (rowsTo m k i ++ row m k i j)).1 (k ^ (m + 1)) i b with
          | true =>
            have e0 : stepJ (k ^ (m + 1)) (joinAt m k f (rowsTo m k i ++ row m k i j)) (i, b) = joinAt m k f (rowsTo m k i ++ row m k i j) := by
              unfold stepJ
              rw [if_pos hs]
            have hs' : decide (b ∈ orb (joinAt m k f (rowsTo m k i ++ row m k i j)).1 (k ^ (m + 1)) i) = true := hs
            rw [hs', e0]
            exact iteF ⟨r, _, vs, rfl, sm6.trans sm8, sm8 _ _ hA6, sm8 _ _ ho6, sm8 _ _ hl6, hT6.same sm8, hR6.same sm8⟩
          | false =>
            have e0 : stepJ (k ^ (m + 1)) (joinAt m k f (rowsTo m k i ++ row m k i j)) (i, b) = (exch (joinAt m k f (rowsTo m k i ++ row m k i j)).1 i b, (joinAt m k f (rowsTo m k i ++ row m k i j)).2 ++ [(i, b)]) := by
              unfold stepJ
              rw [if_neg (by rw [hs]; decide)]
            have hs' : decide (b ∈ orb (joinAt m k f (rowsTo m k i ++ row m k i j)).1 (k ^ (m + 1)) i) = false := hs
            rw [hs', e0]
            refine iteT ⟨_, rfl, _, rfl, _, rfl, r, i, b, m, k, _, rfl, c, J.f, hR6.same sm8, hi', hb, by omega, hbm.symm, fun H9 r9 sm9 n9 hR9 => ?_⟩
            have sm69 := sm8.trans sm9
            have hl9 := sm69 _ _ hl6
            refine ⟨_, rfl, .inl ⟨rfl, _, SqL.of hl9⟩, _, rfl, _, rfl, by show 2 ≤ sizeLine; exact szl (by decide), fun t nt => ?_⟩
            have smt := sm69.trans (same_new (o := .tup [V.str (word (m + 1) k i), V.str (word (m + 1) k b)]) nt)
            have hl10 := smt _ _ hl6
            refine ⟨l, _, _, rfl, rfl, hl10, szlt (by omega), r9, _, _, rfl, same_mut (sm6.trans smt) n0l, ?_, ?_, upd_same, ?_, ?_⟩
            · rw [upd_ne hla.symm]
              exact smt _ _ hA6
            · rw [upd_ne hlo.symm]
              exact smt _ _ ho6
            · exact ((hT6.same smt).snoc upd_same).lst hl10
            · obtain ⟨dx, e⟩ := hR9
              exact ⟨dx, by
                have e2 := same_new (o := .tup [V.str (word (m + 1) k i), V.str (word (m + 1) k b)]) nt _ _ e
                rw [upd_ne (ne_of e2 hl10 (by intro z; cases z))]
                exact e2⟩
        · rw [decide_eq_false (fun z => hib ((word_lt hi' hb).mp z)), row_succ hb1, if_neg hib, List.append_nil]
          exact iteF ⟨r, _, vs, rfl, sm6, hA6, ho6, hl6, hT6, hR6⟩
      · rintro σ H8 ⟨r, y3, vs, rfl, sm8, hA8, ho8, hl8, hT8, hR8⟩
        rw [List.length_map, List.length_map, row_all rfl, ← rows_succ] at hT8 hR8
        exact ⟨r, _, _, vs, rfl, sm8, hA8, hl8, hT8, hR8⟩
    · rintro σ H' ⟨r, y2, y3, vs, rfl, sm, hA', hl', hT', hR'⟩
      rw [List.length_map, words_len, rows_prs k1] at hT' hR'
      refine ⟨_, rfl, _, rfl, by show 2 ≤ sizeLine; exact szl (by decide), fun t nt => ?_⟩
      exact q _ t r l vs (sm.trans (same_new nt)) upd_same n0l (same_new nt _ _ hl') (hT'.same (same_new nt)) (hR'.same (same_new nt))
end
end RJ
set_option Elab.async false
set_option linter.all false
set_option maxRecDepth 100000
set_option maxHeartbeats 4000000
namespace RJ
open PySem PySem.Spec PyProof.Rows L2
theorem ixN_n {n j : Nat} (hj : j < n) : ixN n (j : Int) = some j := by
  unfold ixN
  rw [if_pos (by omega), if_pos (by omega)]
  simp
section
variable {P : Program} {w : World} {K : PySem.W.Frag} {mg : Str → Option Value} {base : Heap}
/-! _law_power -/
def spPower : Sp := fun vs H Q _ => ∃ (k m : Nat), vs = [.int k, .int m] ∧ k ≤ 6 ∧ m ≤ 7 ∧ Q (.int ((k ^ m : Nat) : Int)) H
theorem ok_law_power (T : Tx K mg) : Dok P w K mg base CX0 1 "_law_power" ["base", "many"] spPower := by
  obtain ⟨fd, F⟩ := T.f_law_power
  refine Dok.of F T.g_law_power sc_law_power (fun _ _ _ _ _ _ us hl => match us, hl with | [_, _], _ => rfl) (fun vs H Q E h => ?_) (fun cdv A outer s H vs Q E hr h => ?_)
  · obtain ⟨k, m, rfl, _⟩ := h
    rfl
  · obtain ⟨k, m, rfl, hk, hm, q⟩ := h
    refine ⟨_, pss_cons (ps_set (i := 2) sc_law_power.nd rfl (.inl rfl) pe_int)
      (pss_cons (ps_for PassesOwn.never rfl (pi_range1 rfl T.n_range (pa_cons (pv 1) pa_nil)) (pg_name (i := 3) sc_law_power.nd rfl (.inl rfl)) (pss_one (ps_set (i := 2) sc_law_power.nd rfl (.inl rfl) (pe_op op_mul (pv 2) (pv 0)))))
      (pss_one (ps_ret (pv 2)))), ?_⟩
    refine ⟨_, rfl, _, rfl, by omega, by omega, for_it walk_rng (fun i σ H' => ∃ y, σ = [some (.int k), some (.int m), some (.int ((k ^ i : Nat) : Int)), y] ∧ H' = H) ⟨none, rfl, rfl⟩ (fun _ _ _ _ _ => trivial) ?_ ?_⟩
    · rintro i x σ H1 H2 hi ⟨y, rfl, rfl⟩ ⟨rfl, rfl⟩
      refine ⟨_, rfl, _, rfl, _, _, rfl, rfl, .inr ⟨by omega, by omega⟩, ⟨some (.int (i : Int)), ?_, rfl⟩⟩
      rw [← pow_step]
      rfl
    · rintro σ H' ⟨y, rfl, rfl⟩
      refine ⟨_, rfl, ?_⟩
      rw [Int.toNat_natCast]
      exact q
/-! _law_stir -/
def spStir : Sp := fun vs H Q _ => ∃ (c : Int) (j : Nat), vs = [.int c, .int j] ∧ j ≤ 1000 ∧ ∀ v : Int, 0 ≤ v → v < 2147483629 → Q (.int v) H
theorem ok_law_stir (T : Tx K mg) : Dok P w K mg base CX0 1 "_law_stir" ["cell", "k"] spStir := by
  obtain ⟨fd, F⟩ := T.f_law_stir
  refine Dok.of F T.g_law_stir sc_law_stir (fun _ _ _ _ _ _ us hl => match us, hl with | [_, _], _ => rfl) (fun vs H Q E h => ?_) (fun cdv A outer s H vs Q E hr h => ?_)
  · obtain ⟨c, j, rfl, _⟩ := h
    rfl
  · obtain ⟨c, j, rfl, hj, q⟩ := h
    refine ⟨_, pss_cons (ps_set (i := 2) sc_law_stir.nd rfl (.inl rfl) (pe_op op_mod (pe_op op_add (pe_op op_mul (pe_op op_mod (pv 0) pe_int) pe_int) (pe_op op_mul (pe_op op_mul (pe_op op_add (pv 1) pe_int) (pe_op op_add (pv 1) pe_int)) pe_int)) pe_int))
      (pss_one (ps_ret (pe_op op_mod (pe_op op_mul (pv 2) (pv 2)) pe_int))), ?_⟩
    refine ⟨_, rfl, _, _, rfl, rfl, by show (0 : Int) < _; decide, _, _, rfl, rfl, .inr ⟨by decide, by decide⟩, _, rfl, _, _, rfl, rfl, _, rfl, _, _, rfl, rfl, _, _, rfl, rfl, .inl ⟨by omega, by omega⟩, _, _, rfl, rfl, .inr ⟨by decide, by decide⟩, _, _, rfl, rfl, _, _, rfl, rfl, by show (0 : Int) < _; decide, ?_⟩
    refine ⟨_, rfl, _, rfl, _, _, rfl, rfl, ?_, _, _, rfl, rfl, by show (0 : Int) < _; decide, ?_⟩
    · refine .inl ⟨?_, ?_⟩
      · have : (0 : Int) ≤ (c % 1000000007 * 48271 + ((j : Int) + 1) * ((j : Int) + 1) * 69621) % 2147483647 := Int.emod_nonneg _ (by decide)
        omega
      · have : (c % 1000000007 * 48271 + ((j : Int) + 1) * ((j : Int) + 1) * 69621) % 2147483647 < 2147483647 := Int.emod_lt_of_pos _ (by decide)
        omega
    · exact q _ (Int.emod_nonneg _ (by decide)) (Int.emod_lt_of_pos _ (by decide))
/-! _law_folded -/
def spFolded (K : PySem.W.Frag) : Sp := fun vs H Q _ => ∃ (s : Addr) (ns : List Int) (N : Nat), vs = [.ref s, .int N] ∧ SqL K H s (ns.map V.int) ∧ ns.length ≤ 100000 ∧ 1 ≤ N ∧ N ≤ 1000 ∧
  ∀ H' q (cs : List Int), Same H H' → H q = none → cs.length = N → H' q = some (.lst (cs.map V.int)) → Q (.ref q) H'
theorem SqL.same {K : PySem.W.Frag} {H H' : Hp} {a : Addr} {xs : List V} (h : SqL K H a xs) (e : Same H H') : SqL K H' a xs :=
  h.elim (fun h => .inl (h.elim (fun h => .inl (e _ _ h)) fun ⟨o, h⟩ => .inr ⟨o, e _ _ h⟩)) fun h => .inr h
theorem ok_law_folded (T : Tx K mg) : Dok P w K mg base CX0 1 "_law_folded" ["script", "many"] (spFolded K) := by
  obtain ⟨fd, F⟩ := T.f_law_folded
  refine Dok.of F T.g_law_folded sc_law_folded (fun _ _ _ _ _ _ us hl => match us, hl with | [_, _], _ => rfl) (fun vs H Q E h => ?_) (fun cdv A outer s H vs Q E hr h => ?_)
  · obtain ⟨c, j, _, rfl, _⟩ := h
    rfl
  · obtain ⟨a, ns, N, rfl, hS, hn, hN1, hN2, q⟩ := h
    refine ⟨_, pss_cons (ps_set (i := 2) sc_law_folded.nd rfl (.inl rfl) (pe_op op_rep (pe_lst (pa_cons pe_int pa_nil)) (pv 1)))
      (pss_cons (ps_for PassesOwn.never rfl (pi_range1 rfl T.n_range (pa_cons (pe_callB call_len_seq (by rfl) T.n_len PySem.boot_len (pa_cons (pv 0) pa_nil)) pa_nil)) (pg_name (i := 3) sc_law_folded.nd rfl (.inl rfl))
        (pss_cons (ps_set (i := 4) sc_law_folded.nd rfl (.inl rfl) (pe_op op_mod (pe_ix ix_list (pv 0) (pv 3) (fun _ _ => rfl)) pe_int))
        (pss_one (ps_asg (pe_op op_mod (pe_op op_add (pe_op op_add (pe_op op_mul (pe_ix ix_list (pv 2) (pe_op op_mod (pv 3) (pv 1)) (fun _ _ => rfl)) pe_int) (pv 4)) pe_int) pe_int) (pg_sub (pv 2) (pe_op op_mod (pv 3) (pv 1)) set_list)))))
      (pss_one (ps_ret (pv 2)))), ?_⟩
    refine ⟨by show 1 ≤ sizeLine; exact szl (by decide), fun o0 n0 => ?_⟩
    have s0 : Same H (upd H o0 (.lst [V.int 0])) := same_new n0
    refine ⟨_, rfl, o0, _, _, rfl, rfl, upd_same, by omega, by omega, ?_, fun o no => ?_⟩
    · rw [Int.toNat_natCast]
      exact szl (by show 1 * N ≤ _; omega)
    have e0 : (List.replicate (N : Int).toNat [V.int 0]).flatten = (List.replicate N 0).map V.int := by
      rw [Int.toNat_natCast, List.map_replicate]
      induction N with
      | zero => rfl
      | succ N ih => rw [List.replicate_succ, List.replicate_succ, List.flatten_cons]; simp
    rw [e0]
    have s1 := s0.trans (same_new (o := .lst ((List.replicate N (0 : Int)).map V.int)) no)
    have hoH : H o = none := none_back s0 no
    refine ⟨_, rfl, a, _, rfl, .inl (SqL.same hS s1), _, rfl, by omega, by rw [List.length_map]; omega, for_it walk_rng (fun i σ H' => ∃ y3 y4, ∃ cs : List Int, σ = [some (.ref a), some (.int N), some (.ref o), y3, y4] ∧ Same H H' ∧ cs.length = N ∧ H' o = some (.lst (cs.map V.int)))
      ⟨none, none, _, rfl, s1, List.length_replicate, upd_same⟩ (fun _ _ _ _ _ => trivial) ?_ ?_⟩
    · rintro i x σ H1 H2 hi ⟨y3, y4, cs, rfl, sm, hl, ho⟩ ⟨rfl, rfl⟩
      rw [Int.toNat_natCast, List.length_map] at hi
      have hm : (i : Int) % (N : Int) = ((i % N : Nat) : Int) := by omega
      have hmN : i % N < N := Nat.mod_lt _ hN1
      refine ⟨_, rfl, _, rfl, a, _, _, _, rfl, rfl, SqL.same hS sm, atI_nat (v := V.int ns[i]) (by rw [List.getElem?_map, List.getElem?_eq_getElem hi]; rfl), _, _, rfl, rfl, by show (0 : Int) < _; decide, ?_⟩
      refine ⟨_, rfl, _, rfl, _, rfl, _, _, rfl, rfl, by omega, o, _, _, V.int (cs[i % N]'(by omega)), rfl, rfl, SqL.of ho, ?_, ?_⟩
      · rw [hm]
        exact atI_nat (by rw [List.getElem?_map, List.getElem?_eq_getElem (by omega)]; rfl)
      · refine ⟨_, _, rfl, rfl, .inr ⟨by decide, by decide⟩, _, rfl, _, _, rfl, rfl, _, _, rfl, rfl, _, _, rfl, rfl, by show (0 : Int) < _; decide, _, rfl, _, rfl, _, rfl, _, _, rfl, rfl, by omega, o, _, _, i % N, rfl, rfl, ho, ?_, ?_⟩
        · rw [hm]
          exact ixN_n (by rw [List.length_map]; omega)
        · refine ⟨_, _, cs.set (i % N) ((cs[i % N]'(by omega) * 31 + ns[i] % 1000000007 + 1) % 1000000007), rfl, same_mut sm hoH, (List.length_set).trans hl, ?_⟩
          rw [upd_same, List.map_set]
    · rintro σ H' ⟨y3, y4, cs, rfl, sm, hl, ho⟩
      exact ⟨_, rfl, q H' o cs sm hoH hl ho⟩
/-! _law_size -/
inductive TupI (H : Hp) : List V → List (Int × Int) → Prop
  | nil : TupI H [] []
  | cons {t : Addr} {a b : Int} {vs : List V} {ps : List (Int × Int)} : H t = some (.tup [V.int a, V.int b]) → TupI H vs ps → TupI H (.ref t :: vs) ((a, b) :: ps)
theorem TupI.same {H H' : Hp} {vs : List V} {ps : List (Int × Int)} (T : TupI H vs ps) (s : Same H H') : TupI H' vs ps := by
  induction T with
  | nil => exact .nil
  | cons e _ ih => exact .cons (s _ _ e) ih
theorem TupI.append {H : Hp} {vs us : List V} {ps qs : List (Int × Int)} (T : TupI H vs ps) (U : TupI H us qs) : TupI H (vs ++ us) (ps ++ qs) := by
  induction T with
  | nil => exact U
  | cons e _ ih => exact .cons e ih
theorem TupI.len {H : Hp} {vs : List V} {ps : List (Int × Int)} (T : TupI H vs ps) : vs.length = ps.length := by
  induction T with
  | nil => rfl
  | cons _ _ ih => rw [List.length_cons, List.length_cons, ih]
theorem TupI.at {H : Hp} {vs : List V} {ps : List (Int × Int)} (T : TupI H vs ps) : ∀ {i : Nat} {p : Int × Int}, ps[i]? = some p → ∃ t, vs[i]? = some (.ref t) ∧ H t = some (.tup [V.int p.1, V.int p.2]) := by
  induction T with
  | nil => intro i p h; cases i <;> cases h
  | cons e _ ih =>
    intro i p h
    cases i with
    | zero =>
      obtain rfl := Option.some.inj h
      exact ⟨_, rfl, e⟩
    | succ i => exact ih (i := i) h
def tPairs (ns : List (Int × Int)) : TA := fun σ H Q => ∀ H' vs, Same H H' → TupI H' vs ns → Q vs H'
section
variable {X : Cx}
theorem pa_pairs0 : PA X [] (tPairs []) := ⟨fun pos pins s σ H Q I h => pa_nil.run pos pins s σ H Q I (h H [] (Same.refl H) .nil)⟩
theorem pa_pairs {e : Expr} {es : List Expr} {te : TE} {a b : Int} {ns : List (Int × Int)} (he : PE X e te) (ht : ∀ σ H Q, (∀ t, H t = none → Q (.ref t) (upd H t (.tup [V.int a, V.int b]))) → te σ H Q) (h : PA X es (tPairs ns))
    (hs : starEach (e :: es) X.env = (false, eval e X.env) :: starEach es X.env := by rfl) : PA X (e :: es) (tPairs ((a, b) :: ns)) :=
  ⟨fun pos pins s σ H Q I q => (pa_cons he h hs).run pos pins s σ H Q I (ht σ H _ fun t nt H' vs sm T => q H' (.ref t :: vs) ((same_new nt).trans sm) (.cons (sm _ _ upd_same) T))⟩
theorem tup_int {a b : Int} (σ : L2.St) (H : Hp) (Q : VK) (h : ∀ t, H t = none → Q (.ref t) (upd H t (.tup [V.int a, V.int b]))) : tTup (tCons (tC (.int a)) (tCons (tC (.int b)) tNil)) σ H Q := ⟨by show 2 ≤ sizeLine; exact szl (by decide), h⟩
theorem pa_pi {e1 e2 : Expr} {es : List Expr} {a b : Int} {x1 pos} {ns : List (Int × Int)} (he1 : PE X e1 (tC (.int a))) (he2 : PE X e2 (tC (.int b))) (h : PA X es (tPairs ns))
    (hs : starEach (.Tuple [e1, e2] x1 pos :: es) X.env = (false, eval (.Tuple [e1, e2] x1 pos) X.env) :: starEach es X.env := by rfl) (hs1 : starEach [e1, e2] X.env = (false, eval e1 X.env) :: starEach [e2] X.env := by rfl) (hs2 : starEach [e2] X.env = (false, eval e2 X.env) :: starEach [] X.env := by rfl) :
    PA X (.Tuple [e1, e2] x1 pos :: es) (tPairs ((a, b) :: ns)) := pa_pairs (pe_tup (pa_cons he1 (pa_cons he2 pa_nil hs2) hs1)) tup_int h hs
end
def sizes1 : List (Int × Int) := [(6, 2), (5, 2), (3, 4), (3, 3), (2, 6), (2, 5), (4, 2), (2, 4), (2, 3), (3, 2), (2, 2)]
def sizes2 : List (Int × Int) := [(1, 6), (1, 5), (1, 4), (1, 3), (1, 2), (1, 1), (5, 1), (8, 1)]
theorem sizes_ok : ∀ p ∈ sizes1 ++ sizes2, ∃ m k : Nat, p = (((m + 1 : Nat) : Int), (k : Int)) ∧ Cfg m k := by
  have key : ∀ p ∈ sizes1 ++ sizes2, ((p.1.toNat - 1 + 1 : Nat) : Int) = p.1 ∧ (p.2.toNat : Int) = p.2 ∧ p.1.toNat - 1 ≤ 7 ∧ 1 ≤ p.2.toNat ∧ p.2.toNat ≤ 6 ∧ p.2.toNat ^ (p.1.toNat - 1 + 1) ≤ 64 := by decide
  intro p hp
  obtain ⟨h1, h2, h3, h4, h5, h6⟩ := key p hp
  exact ⟨p.1.toNat - 1, p.2.toNat, by rw [h1, h2], ⟨h3, h4, h5, h6⟩⟩
def spLawSize : Sp := fun vs H Q _ => ∃ c : Int, vs = [.int c] ∧ ∀ H' t m k, Same H H' → Cfg m k → H' t = some (.tup [V.int ((m + 1 : Nat) : Int), V.int (k : Int)]) → Q (.ref t) H'
theorem ok_law_size (T : Tx K mg) : Dok P w K mg base CX0 1 "_law_size" ["cell"] spLawSize := by
  obtain ⟨fd, F⟩ := T.f_law_size
  refine Dok.of F T.g_law_size sc_law_size (fun _ _ _ _ _ _ us hl => match us, hl with | [_], _ => rfl) (fun vs H Q E h => ?_) (fun cdv A outer s H vs Q E hr h => ?_)
  · obtain ⟨c, rfl, _⟩ := h
    rfl
  · obtain ⟨c, rfl, q⟩ := h
    refine ⟨_, pss_cons (ps_set (i := 1) sc_law_size.nd rfl (.inl rfl) (pe_lst (t := tPairs sizes1) (pa_pi pe_int pe_int (pa_pi pe_int pe_int (pa_pi pe_int pe_int (pa_pi pe_int pe_int (pa_pi pe_int pe_int (pa_pi pe_int pe_int (pa_pi pe_int pe_int (pa_pi pe_int pe_int (pa_pi pe_int pe_int (pa_pi pe_int pe_int (pa_pi pe_int pe_int pa_pairs0)))))))))))))
      (pss_cons (ps_set (i := 1) sc_law_size.nd rfl (.inl rfl) (pe_op op_cat (pv 1) (pe_lst (t := tPairs sizes2) (pa_pi pe_int pe_int (pa_pi pe_int pe_int (pa_pi pe_int pe_int (pa_pi pe_int pe_int (pa_pi pe_int pe_int (pa_pi pe_int pe_int (pa_pi pe_int pe_int (pa_pi pe_int pe_int pa_pairs0)))))))))))
      (pss_one (ps_ret (pe_ix ix_list (pv 1) (pe_op op_mod (pv 0) (pe_callB call_len_seq (by rfl) T.n_len PySem.boot_len (pa_cons (pv 1) pa_nil))) (fun _ _ => rfl))))), ?_⟩
    intro H1 v1 s1 t1
    refine ⟨by rw [t1.len]; exact szl (by decide), fun l1 n1 => ?_⟩
    have s2 : Same H1 (upd H1 l1 (.lst v1)) := same_new n1
    refine ⟨_, rfl, ?_⟩
    intro H2 v2 s3 t2
    refine ⟨by rw [t2.len]; exact szl (by decide), fun l2 n2 => ?_⟩
    have s4 : Same H2 (upd H2 l2 (.lst v2)) := same_new n2
    have e1 : H2 l1 = some (.lst v1) := s3 _ _ upd_same
    refine ⟨l1, l2, v1, v2, rfl, rfl, s4 _ _ e1, upd_same, by rw [t1.len, t2.len]; exact szl (by decide), fun l n => ?_⟩
    have s5 := same_new (o := .lst (v1 ++ v2)) n
    have TT := (((t1.same s2).same s3).same s4 |>.same s5).append ((t2.same s4).same s5)
    have hl : (v1 ++ v2).length = 19 := TT.len
    refine ⟨_, rfl, _, rfl, _, rfl, l, _, rfl, .inl (SqL.of upd_same), ?_⟩
    rw [hl]
    have h1 : (0 : Int) ≤ c % 19 := Int.emod_nonneg _ (by decide)
    have h2 : c % 19 < 19 := Int.emod_lt_of_pos _ (by decide)
    obtain ⟨j, hj⟩ := Int.eq_ofNat_of_zero_le h1
    have hj19 : j < 19 := by omega
    have hlen : (sizes1 ++ sizes2).length = 19 := rfl
    obtain ⟨t, ht1, ht2⟩ := TT.at (i := j) (List.getElem?_eq_getElem (by omega))
    obtain ⟨m, k, ep, cfg⟩ := sizes_ok _ (List.getElem_mem (l := sizes1 ++ sizes2) (n := j) (by omega))
    refine ⟨_, _, rfl, rfl, by show (0 : Int) < _; decide, l, _, _, _, rfl, rfl, SqL.of upd_same, ?_, q _ t m k ((s1.trans s2).trans ((s3.trans s4).trans s5)) cfg ?_⟩
    · show atI _ (c % 19) = _
      rw [hj]
      exact atI_nat ht1
    · rw [ht2, ep]
end
end RJ
set_option Elab.async false
set_option linter.all false
set_option maxRecDepth 100000
set_option maxHeartbeats 4000000
namespace RJ
open PySem PySem.Spec PyProof.Rows L2
theorem abc_cut {k : Nat} (h6 : k ≤ 6) : cutS (Str.ofString "abcdef") none (some (k : Int)) = tx (List.range k) := by
  rw [tx_abc, cut_to]
  congr 1
  refine List.ext_getElem? fun i => ?_
  rw [List.getElem?_take]
  by_cases c : i < k
  · rw [if_pos c, List.getElem?_range c, List.getElem?_range (by omega)]
  · rw [if_neg c, List.getElem?_eq_none (by rw [List.length_range]; omega)]
theorem abc_len : (Str.ofString "abcdef").length ≤ sizeLine := by
  rw [tx_abc, tx_len]
  exact szl (by decide)
theorem abc_at {c : Nat} (h : c < 6) : atI (Str.ofString "abcdef").cps.toList (c : Int) = some (97 + c) := by
  rw [tx_abc]
  exact at_tx (List.getElem?_range h)
theorem word_snoc {L k i c : Nat} (hc : c < k) : word (L + 1) k (i * k + c) = tx (wdig L k i ++ [c]) := by
  unfold word
  have hk : 0 < k := by omega
  rw [wdig_snoc, Nat.mul_comm i k, Nat.mul_add_div hk, Nat.div_eq_of_lt hc, Nat.add_zero, Nat.mul_add_mod, Nat.mod_eq_of_lt hc]
section
variable {P : Program} {w : World} {K : PySem.W.Frag} {mg : Str → Option Value} {base : Heap}
theorem ok_law_words (T : Tx K mg) : Dok P w K mg base CX0 1 "_law_words" ["length", "kinds"] spAllWords := by
  obtain ⟨fd, F⟩ := T.f_law_words
  refine Dok.of F T.g_law_words sc_law_words (fun _ _ _ _ _ _ us hl => match us, hl with | [_, _], _ => rfl) (fun vs H Q E h => ?_) (fun cdv A outer s H vs Q E hr h => ?_)
  · obtain ⟨L, k, rfl, _⟩ := h
    rfl
  · obtain ⟨L, k, rfl, h1, h6, hL1, hL24, hn, q⟩ := h
    refine ⟨_, pss_cons (ps_set (i := 2) sc_law_words.nd rfl (.inl rfl) (pe_lst (pa_cons pe_str pa_nil)))
      (pss_cons (ps_for PassesOwn.never rfl (pi_range1 rfl T.n_range (pa_cons (pv 0) pa_nil)) (pg_name (i := 3) sc_law_words.nd rfl (.inl rfl))
        (pss_cons (ps_set (i := 4) sc_law_words.nd rfl (.inl rfl) (pe_lst pa_nil))
        (pss_cons (ps_for PassesOwn.never rfl (pi_list (pv 2)) (pg_name (i := 5) sc_law_words.nd rfl (.inl rfl))
          (pss_one (ps_for PassesOwn.never rfl (pi_str (pe_slice sl_str pe_str po_none (po_some (pv 1)))) (pg_name (i := 6) sc_law_words.nd rfl (.inl rfl))
            (pss_one (ps_expr (pe_bm PySem.F.plainAttrs_list PySem.F.slot_list_append PySem.F.type_list_append mt_append (pv 4) (pa_cons (pe_op op_add_str (pv 5) (pv 6)) pa_nil)))))))
        (pss_one (ps_set (i := 2) sc_law_words.nd rfl (.inl rfl) (pv 4))))))
      (pss_one (ps_ret (pv 2)))), ?_⟩
    refine ⟨by show 1 ≤ sizeLine; exact szl (by decide), fun o0 n0 => ?_⟩
    refine ⟨_, rfl, _, rfl, by omega, by omega, for_it walk_rng (fun j σ H' => ∃ o y3 y4 y5 y6, σ = [some (.int L), some (.int k), some (.ref o), y3, y4, y5, y6] ∧ Same H H' ∧ H o = none ∧ H' o = some (.lst ((words j k).map V.str)))
      ⟨o0, none, none, none, none, rfl, same_new n0, n0, ?_⟩ (fun _ _ _ _ _ => trivial) ?_ ?_⟩
    · rw [upd_same, tx_nil]
      rfl
    · rintro j x σ H1 H2 hj ⟨o, y3, y4, y5, y6, rfl, sm, no, ho⟩ ⟨rfl, rfl⟩
      rw [Int.toNat_natCast] at hj
      have hpow : k ^ j * k ≤ 64 := Nat.le_trans (by rw [← Nat.pow_succ]; exact Nat.pow_le_pow_right h1 hj) hn
      refine ⟨Nat.zero_le _, fun l nl => ?_⟩
      have hol : o ≠ l := ne_of_none ho nl
      have nlH : H l = none := none_back sm nl
      refine ⟨_, rfl, o, rfl, ⟨_, SqL.of (by rw [upd_ne hol]; exact ho)⟩, for_it walk_list (fun i σ H' => ∃ y5 y6, σ = [some (.int L), some (.int k), some (.ref o), some (.int (j : Int)), some (.ref l), y5, y6] ∧ Same H H' ∧ H' o = some (.lst ((words j k).map V.str)) ∧ H' l = some (.lst (((List.range (i * k)).map (word (j + 1) k)).map V.str)))
        ⟨_, _, rfl, sm.trans (same_new nl), by rw [upd_ne hol]; exact ho, ?_⟩ (fun i σ H' _ ⟨_, _, _, _, z, _⟩ => SqL.of z) ?_ ?_⟩
      · rw [upd_same, Nat.zero_mul]
        rfl
      · rintro i x σ H3 H4 hi ⟨y5, y6, rfl, sm3, ho3, hl3⟩ ⟨rfl, hx⟩
        rw [List.length_map, words_len] at hi
        rw [List.getElem?_map, words_get hi] at hx
        have ex : V.str (word j k i) = x := Option.some.inj hx
        subst ex
        refine ⟨_, rfl, _, rfl, _, rfl, abc_len, ?_⟩
        rw [abc_cut h6]
        refine ⟨_, rfl, for_it walk_str (fun c σ H' => ∃ y6, σ = [some (.int L), some (.int k), some (.ref o), some (.int (j : Int)), some (.ref l), some (.str (word j k i)), y6] ∧ Same H H' ∧ H' o = some (.lst ((words j k).map V.str)) ∧ H' l = some (.lst (((List.range (i * k + c)).map (word (j + 1) k)).map V.str)))
          ⟨_, rfl, sm3, ho3, hl3⟩ (fun _ _ _ _ _ => trivial) ?_ ?_⟩
        · rintro c x σ H5 H6 hc ⟨y6, rfl, sm5, ho5, hl5⟩ ⟨rfl, d, hd, rfl⟩
          obtain ⟨d, hd1, rfl⟩ := tx_get hd
          obtain ⟨hck, ed⟩ := List.getElem?_eq_some_iff.mp hd1
          rw [List.getElem_range] at ed
          rw [List.length_range] at hck
          subst ed
          have hi2 : i * k + c < k ^ j * k := by
            have := Nat.mul_le_mul_right k hi
            rw [Nat.succ_mul] at this
            omega
          refine ⟨_, rfl, .inl ⟨rfl, _, SqL.of hl5⟩, _, rfl, _, rfl, word j k i, tx [c], rfl, rfl, ?_, l, _, _, rfl, rfl, hl5, ?_, _, rfl, same_mut sm5 nlH, ?_, ?_⟩
          · rw [word_len, tx_len]
            exact szl (by simp; omega)
          · rw [List.length_map, List.length_map, List.length_range]
            exact szlt (by omega)
          · rw [upd_ne hol]
            exact ho5
          · rw [upd_same, ← Nat.add_assoc, List.range_succ, List.map_append, List.map_append]
            show some (HO.lst (_ ++ [V.str (tx (wdig j k i) ++ tx [c])])) = some (HO.lst (_ ++ [V.str (word (j + 1) k (i * k + c))]))
            rw [word_snoc hck, tx_app]
        · rintro σ H' ⟨y6, rfl, sm5, ho5, hl5⟩
          rw [tx_size, List.length_range, ← Nat.succ_mul] at hl5
          exact ⟨_, _, rfl, sm5, ho5, hl5⟩
      · rintro σ H' ⟨y5, y6, rfl, sm5, ho5, hl5⟩
        rw [List.length_map, words_len, ← Nat.pow_succ] at hl5
        exact ⟨_, rfl, l, _, _, _, _, rfl, sm5, nlH, hl5⟩
    · rintro σ H' ⟨o, y3, y4, y5, y6, rfl, sm, no, ho⟩
      rw [Int.toNat_natCast] at ho
      exact ⟨_, rfl, q H' o sm no ho⟩
end
/-! the table of a drawn fair rule -/
def TL (g : Nat → Nat) (e n J C : Nat) : List (List Nat) := (List.range n).map fun i => if i % e < J ∨ (i % e = J ∧ i / e < C) then [g i] else []
theorem TL_len (g : Nat → Nat) (e n J C : Nat) : (TL g e n J C).length = n := by
  unfold TL
  rw [List.length_map, List.length_range]
theorem TL_set {g : Nat → Nat} {e n J C : Nat} (hJ : J < e) : (TL g e n J C).set (C * e + J) [g (C * e + J)] = TL g e n J (C + 1) := by
  have he : 0 < e := by omega
  refine List.ext_getElem? fun i => ?_
  rw [List.getElem?_set, TL_len]
  rcases Nat.lt_or_ge i n with c | c
  · by_cases h : C * e + J = i
    · subst h
      rw [if_pos rfl, if_pos c]
      unfold TL
      rw [List.getElem?_map, List.getElem?_range c]
      have h1 : (C * e + J) % e = J := by rw [Nat.mul_comm, Nat.mul_add_mod, Nat.mod_eq_of_lt hJ]
      have h2 : (C * e + J) / e = C := by rw [Nat.mul_comm, Nat.mul_add_div he, Nat.div_eq_of_lt hJ, Nat.add_zero]
      show _ = some (if _ then _ else _)
      rw [if_pos (.inr ⟨h1, by omega⟩)]
    · rw [if_neg h]
      unfold TL
      rw [List.getElem?_map, List.getElem?_map, List.getElem?_range c]
      show some (if _ then _ else _) = some (if _ then _ else _)
      congr 1
      have hne : ¬ (i % e = J ∧ i / e = C) := fun ⟨a, b⟩ => h (by
        have := Nat.div_add_mod i e
        rw [a, b, Nat.mul_comm] at this
        exact this)
      by_cases h1 : i % e < J
      · rw [if_pos (.inl h1), if_pos (.inl h1)]
      · by_cases h2 : i % e = J ∧ i / e < C
        · rw [if_pos (.inr h2), if_pos (.inr ⟨h2.1, by omega⟩)]
        · rw [if_neg (by omega), if_neg (fun z => z.elim h1 fun ⟨a, b⟩ => h2 ⟨a, by
            have : i / e ≠ C := fun z => hne ⟨a, z⟩
            omega⟩)]
  · rw [List.getElem?_eq_none (by rw [TL_len]; exact c), List.getElem?_eq_none (by rw [TL_len]; exact c)]
    split
    · split
      · omega
      · rfl
    · rfl
theorem TL_congr {g g' : Nat → Nat} {e n J C J' C' : Nat} (h : ∀ i, i < n → ((i % e < J ∨ (i % e = J ∧ i / e < C)) ↔ (i % e < J' ∨ (i % e = J' ∧ i / e < C')))) (hg : ∀ i, i < n → (i % e < J ∨ (i % e = J ∧ i / e < C)) → g i = g' i) : TL g e n J C = TL g' e n J' C' := by
  unfold TL
  refine List.map_congr_left fun i hi => ?_
  have hi' := List.mem_range.mp hi
  by_cases c : i % e < J ∨ (i % e = J ∧ i / e < C)
  · rw [if_pos c, if_pos ((h i hi').mp c), hg i hi' c]
  · rw [if_neg c, if_neg fun z => c ((h i hi').mpr z)]
/-- the first J columns are drawn -/
structure Dr (g : Nat → Nat) (e n k J : Nat) : Prop where
  lt : ∀ i, i < n → i % e < J → g i < k
  inj : ∀ i i', i < n → i' < n → i % e = i' % e → i % e < J → g i = g i' → i = i'
def colP (g : Nat → Nat) (e J : Nat) (o : List Nat) : Nat → Nat := fun i => if i % e = J then o.getD (i / e) 0 else g i
theorem Dr.step {g : Nat → Nat} {e n k J : Nat} {o : List Nat} (D : Dr g e n k J) (hn : n = k * e) (he : 0 < e) (ho : o.Perm (List.range k)) : Dr (colP g e J o) e n k (J + 1) := by
  have hol : o.length = k := by rw [ho.length_eq, List.length_range]
  have hnd : o.Nodup := ho.nodup_iff.mpr List.nodup_range
  have hdiv : ∀ i, i < n → i / e < k := fun i hi => (Nat.div_lt_iff_lt_mul he).mpr (by rw [← hn]; exact hi)
  have hget : ∀ i (hi : i < n), o.getD (i / e) 0 = o[i / e]'(by rw [hol]; exact hdiv i hi) := fun i hi => by
    rw [List.getD_eq_getElem?_getD, List.getElem?_eq_getElem (by rw [hol]; exact hdiv i hi)]
    rfl
  refine ⟨fun i hi h => ?_, fun i i' hi hi' hm h e1 => ?_⟩
  · unfold colP
    by_cases c : i % e = J
    · rw [if_pos c, hget i hi]
      exact List.mem_range.mp (ho.mem_iff.mp (List.getElem_mem _))
    · rw [if_neg c]
      exact D.lt i hi (by omega)
  · unfold colP at e1
    by_cases c : i % e = J
    · rw [if_pos c, if_pos (hm ▸ c), hget i hi, hget i' hi'] at e1
      have e2 := (List.getElem_inj hnd).mp e1
      have h1 := Nat.div_add_mod i e
      have h2 := Nat.div_add_mod i' e
      rw [e2, hm] at h1
      omega
    · rw [if_neg c, if_neg (hm ▸ c)] at e1
      exact D.inj i i' hi hi' hm (by omega) e1
theorem Dr.bij {g : Nat → Nat} {m k : Nat} (D : Dr g (k ^ m) (k ^ (m + 1)) k (k ^ m)) (hk : 0 < k) : (∀ d ∈ (List.range (k ^ (m + 1))).map g, d < k) ∧ Bij (k ^ (m + 1)) (nx m k ((List.range (k ^ (m + 1))).map g)) := by
  have hp : 0 < k ^ m := Nat.pow_pos hk
  have h1 : ∀ d ∈ (List.range (k ^ (m + 1))).map g, d < k := fun d hd => by
    obtain ⟨i, hi, rfl⟩ := List.mem_map.mp hd
    exact D.lt i (List.mem_range.mp hi) (Nat.mod_lt _ hp)
  have hl : ((List.range (k ^ (m + 1))).map g).length = k ^ (m + 1) := by rw [List.length_map, List.length_range]
  have hgd : ∀ i, i < k ^ (m + 1) → ((List.range (k ^ (m + 1))).map g).getD i 0 = g i := fun i hi => by
    rw [List.getD_eq_getElem?_getD, List.getElem?_map, List.getElem?_range hi]
    rfl
  refine ⟨h1, fun i hi => (nx_lt h1 hl hi hk).1, fun i j hi hj e => ?_⟩
  have a := nx_lt h1 hl hi hk
  have b := nx_lt h1 hl hj hk
  have e1 : i % k ^ m = j % k ^ m := by rw [← a.2.1, ← b.2.1, e]
  have e2 : g i = g j := by rw [← hgd i hi, ← hgd j hj, ← a.2.2.1, ← b.2.2.1, e]
  exact D.inj i j hi hj e1 (Nat.mod_lt _ hp) e2
theorem ins_perm {o : List Nat} {c i : Nat} (h : o.Perm (List.range c)) : (o.take i ++ [c] ++ o.drop i).Perm (List.range (c + 1)) := by
  have h1 : (o.take i ++ [c] ++ o.drop i).Perm (o ++ [c]) := by
    rw [List.append_assoc]
    have h2 : ([c] ++ o.drop i).Perm (o.drop i ++ [c]) := List.perm_append_comm
    have h3 := h2.append_left (o.take i)
    rwa [← List.append_assoc, ← List.append_assoc, List.append_assoc, List.take_append_drop] at h3
  rw [List.range_succ]
  exact h1.trans (h.append_right [c])
end RJ
set_option Elab.async false
set_option linter.all false
set_option maxRecDepth 100000
set_option maxHeartbeats 4000000
namespace RJ
open PySem PySem.Spec PyProof.Rows L2
theorem ite_and {c : Prop} [Decidable c] {A B : Prop} (a : A) (b : B) : if c then A else B := by
  by_cases h : c
  · rw [if_pos h]
    exact a
  · rw [if_neg h]
    exact b
theorem first_int (ns : List Int) : ∃ d : Int, atI (ns.map V.int ++ [V.int 0]) 0 = some (V.int d) := by
  cases ns with
  | nil => exact ⟨0, atI_nat (j := 0) rfl⟩
  | cons a r => exact ⟨a, atI_nat (j := 0) rfl⟩
section
variable {P : Program} {w : World} {K : PySem.W.Frag} {mg : Str → Option Value} {base : Heap}
def spFairT (K : PySem.W.Frag) : Sp := fun vs H Q _ => ∃ (s : Addr) (ns : List Int) (m k : Nat), vs = [.ref s, .int ((m + 1 : Nat) : Int), .int k] ∧ SqL K H s (ns.map V.int) ∧ ns.length ≤ 50000 ∧ Cfg m k ∧
  ∀ H' g, Same H H' → Dr g (k ^ m) (k ^ (m + 1)) k (k ^ m) → Q (.str (tx ((List.range (k ^ (m + 1))).map g))) H'
def strsV (l : List (List Nat)) : List V := (l.map tx).map V.str
theorem ok_law_fair (T : Tx K mg) : Dok P w K mg base CX0 2 "_law_fair" ["script", "length", "kinds"] (spFairT K) := by
  obtain ⟨fd, F⟩ := T.f_law_fair
  have D1 : Dok P w K mg base CX0 1 "_law_power" ["base", "many"] spPower := ok_law_power T
  have D2 : Dok P w K mg base CX0 1 "_law_folded" ["script", "many"] (spFolded K) := ok_law_folded T
  have D3 : Dok P w K mg base CX0 1 "_law_stir" ["cell", "k"] spStir := ok_law_stir T
  refine Dok.of F T.g_law_fair sc_law_fair (fun _ _ _ _ _ _ us hl => match us, hl with | [_, _, _], _ => rfl) (fun vs H Q E h => ?_) (fun cdv A outer s H vs Q E hr h => ?_)
  · obtain ⟨s, ns, m, k, rfl, _⟩ := h
    rfl
  · obtain ⟨a, ns, m, k, rfl, hS, hns, c, q⟩ := h
    have c1 := c.m7
    have c2 := c.sz
    have k1 := c.k1
    have k6 := c.k6
    have hp : 0 < k ^ m := Nat.pow_pos k1
    have hn : k ^ (m + 1) = k * k ^ m := Nat.pow_succ'
    have he64 : k ^ m ≤ 64 := Nat.le_trans (Nat.pow_le_pow_right k1 (Nat.le_succ m)) c2
    have hdig := fun (X : Cx) => @pe_op X
    refine ⟨_, pss_cons (ps_set (i := 3) sc_law_fair.nd rfl (.inl rfl) (pcall D1 hr (pa_cons (pv 2) (pa_cons (pe_op op_sub (pv 1) pe_int) pa_nil))))
      (pss_cons (ps_set (i := 4) sc_law_fair.nd rfl (.inl rfl) (pcall D2 hr (pa_cons (pv 0) (pa_cons (pv 3) pa_nil))))
      (pss_cons (ps_set (i := 5) sc_law_fair.nd rfl (.inl rfl) (pe_op op_rep (pe_lst (pa_cons pe_str pa_nil)) (pe_op op_mul (pv 3) (pv 2))))
      (pss_cons (ps_set (i := 6) sc_law_fair.nd rfl (.inl rfl) (pe_ix ix_list (pe_op op_catL (pv 0) (pe_lst (pa_cons pe_int pa_nil))) pe_int (fun _ _ => rfl)))
      (pss_cons (ps_for PassesOwn.never rfl (pi_range1 rfl T.n_range (pa_cons (pv 3) pa_nil)) (pg_name (i := 7) sc_law_fair.nd rfl (.inl rfl))
        (pss_cons (ps_set (i := 8) sc_law_fair.nd rfl (.inl rfl) (pe_lst pa_nil))
        (pss_cons (ps_set (i := 9) sc_law_fair.nd rfl (.inl rfl) (pe_op op_fdiv (pcall D3 hr (pa_cons (pe_ix ix_list (pv 4) (pv 7) (fun _ _ => rfl)) (pa_cons (pv 7) pa_nil))) pe_int))
        (pss_cons (ps_if (pt_cmpR op_eq (pe_op op_mod (pe_ix ix_list (pe_op op_catL (pv 0) (pe_lst (pa_cons pe_int pa_nil))) pe_int (fun _ _ => rfl)) pe_int) pe_int (nomark _)) (pss_one (ps_set (i := 9) sc_law_fair.nd rfl (.inl rfl) (pe_op op_fdiv (pv 6) pe_int))) pss_nil)
        (pss_cons (ps_for PassesOwn.never rfl (pi_range1 rfl T.n_range (pa_cons (pv 2) pa_nil)) (pg_name (i := 10) sc_law_fair.nd rfl (.inl rfl))
          (pss_cons (ps_expr (pe_bm PySem.F.plainAttrs_list PySem.F.slot_list_insert PySem.F.type_list_insert mt_insert (pv 8) (pa_cons (pe_op op_mod (pv 9) (pe_op op_add (pv 10) pe_int)) (pa_cons (pe_ix ix_str pe_str (pv 10) (fun _ _ => rfl)) pa_nil))))
          (pss_one (ps_set (i := 9) sc_law_fair.nd rfl (.inl rfl) (pe_op op_fdiv (pv 9) (pe_op op_add (pv 10) pe_int))))))
        (pss_cons (ps_set (i := 6) sc_law_fair.nd rfl (.inl rfl) (pe_op op_mul pe_int (pv 9)))
        (pss_one (ps_for PassesOwn.never rfl (pi_range1 rfl T.n_range (pa_cons (pv 2) pa_nil)) (pg_name (i := 10) sc_law_fair.nd rfl (.inl rfl))
          (pss_one (ps_asg (pe_ix ix_list (pv 8) (pv 10) (fun _ _ => rfl)) (pg_sub (pv 5) (pe_op op_add (pe_op op_mul (pv 10) (pv 3)) (pv 7)) set_list)))))))))))
      (pss_one (ps_ret (pe_join pe_str (pv 5)))))))), ?_⟩
    refine ⟨_, rfl, _, rfl, _, _, rfl, rfl, k, m, by show [V.int (k : Int), V.int (((m + 1 : Nat) : Int) - 1)] = _; rw [show ((m + 1 : Nat) : Int) - 1 = (m : Int) by omega], k6, c1, ?_⟩
    refine ⟨_, rfl, _, rfl, a, ns, k ^ m, rfl, hS, by omega, hp, by omega, fun H1 cl cs s1 ncl hcs hcl => ?_⟩
    refine ⟨by show 1 ≤ sizeLine; exact szl (by decide), fun o0 n0 => ?_⟩
    have ez : (k ^ m : Nat) * (k : Int) = ((k ^ (m + 1) : Nat) : Int) := by rw [Nat.pow_succ, Int.natCast_mul]
    refine ⟨_, rfl, _, rfl, _, _, rfl, rfl, .inr ⟨by omega, by omega⟩, o0, _, _, rfl, rfl, upd_same, by rw [ez]; omega, by rw [ez]; omega, ?_, fun tl ntl => ?_⟩
    · rw [ez, Int.toNat_natCast]
      exact szl (by show 1 * _ ≤ _; omega)
    have e0 : (List.replicate ((k ^ m : Nat) * (k : Int)).toNat [V.str (Str.ofString "")]).flatten = strsV (TL (fun _ => 0) (k ^ m) (k ^ (m + 1)) 0 0) := by
      rw [ez, Int.toNat_natCast, tx_nil]
      unfold strsV TL
      rw [List.map_map, List.map_map]
      have : ∀ n : Nat, (List.replicate n [V.str (tx [])]).flatten = (List.range n).map fun _ => V.str (tx []) := fun n => by
        induction n with
        | zero => rfl
        | succ n ih => rw [List.replicate_succ', List.flatten_append, ih, List.range_succ, List.map_append]; rfl
      rw [this]
      refine List.map_congr_left fun i _ => ?_
      show _ = V.str (tx (if _ then _ else _))
      rw [if_neg fun z => z.elim (Nat.not_lt_zero _) fun z => Nat.not_lt_zero _ z.2]
    rw [e0]
    have s2 := (s1.trans (same_new (o := .lst [V.str (Str.ofString "")]) n0)).trans (same_new (o := .lst (strsV (TL (fun _ => 0) (k ^ m) (k ^ (m + 1)) 0 0))) ntl)
    have nclH : H cl = none := ncl
    have ntlH : H tl = none := none_back (s1.trans (same_new (o := .lst [V.str (Str.ofString "")]) n0)) ntl
    have hcl2 : (upd (upd H1 o0 (.lst [V.str (Str.ofString "")])) tl (.lst (strsV (TL (fun _ => 0) (k ^ m) (k ^ (m + 1)) 0 0)))) cl = some (.lst (cs.map V.int)) := by
      have := same_new (o := .lst [V.str (Str.ofString "")]) n0 _ _ hcl
      exact same_new (o := .lst (strsV (TL (fun _ => 0) (k ^ m) (k ^ (m + 1)) 0 0))) ntl _ _ this
    have hct : cl ≠ tl := ne_of_none (same_new (o := .lst [V.str (Str.ofString "")]) n0 _ _ hcl) ntl
    obtain ⟨d0, hd0⟩ := first_int ns
    refine ⟨_, rfl, by show 1 ≤ sizeLine; exact szl (by decide), fun o1 n1 => ?_⟩
    have s3 := s2.trans (same_new (o := .lst [V.int 0]) n1)
    refine ⟨a, o1, _, _, rfl, rfl, SqL.same hS s3, SqL.of upd_same, by rw [List.length_map]; exact szl (by show ns.length + 1 ≤ _; omega), fun o2 n2 => ?_⟩
    have s4 := s3.trans (same_new (o := .lst (ns.map V.int ++ [V.int 0])) n2)
    refine ⟨o2, _, _, _, rfl, rfl, SqL.of upd_same, hd0, ?_⟩
    have ht4 := same_new (o := .lst (ns.map V.int ++ [V.int 0])) n2 _ _ (same_new (o := .lst [V.int 0]) n1 _ _ (upd_same (H := upd H1 o0 (.lst [V.str (Str.ofString "")])) (a := tl) (o := .lst (strsV (TL (fun _ => 0) (k ^ m) (k ^ (m + 1)) 0 0)))))
    have hc4 := same_new (o := .lst (ns.map V.int ++ [V.int 0])) n2 _ _ (same_new (o := .lst [V.int 0]) n1 _ _ hcl2)
    refine ⟨_, rfl, _, rfl, by omega, by omega, for_it walk_rng (fun j σ H' => ∃ dg : Int, ∃ y7 y8 y9 y10 g, σ = [some (.ref a), some (.int ((m + 1 : Nat) : Int)), some (.int k), some (.int ((k ^ m : Nat) : Int)), some (.ref cl), some (.ref tl), some (.int dg), y7, y8, y9, y10] ∧ Same H H' ∧
        H' cl = some (.lst (cs.map V.int)) ∧ H' tl = some (.lst (strsV (TL g (k ^ m) (k ^ (m + 1)) j 0))) ∧ Dr g (k ^ m) (k ^ (m + 1)) k j)
      ⟨d0, none, none, none, none, fun _ => 0, rfl, s4, hc4, ht4, ⟨fun i _ h => absurd h (Nat.not_lt_zero _), fun i i' _ _ _ h => absurd h (Nat.not_lt_zero _)⟩⟩ (fun _ _ _ _ _ => trivial) ?_ ?_⟩
    · rintro j x σ H3 H4 hj ⟨dg, y7, y8, y9, y10, g, rfl, sm, hc5, ht5, hD⟩ ⟨rfl, rfl⟩
      rw [Int.toNat_natCast] at hj
      refine ⟨Nat.zero_le _, fun od nod => ?_⟩
      have hcd : cl ≠ od := ne_of_none hc5 nod
      have htd : tl ≠ od := ne_of_none ht5 nod
      have nodH : H od = none := none_back sm nod
      have sd := sm.trans (same_new (o := .lst []) nod)
      have hc6 : upd H4 od (.lst []) cl = some (.lst (cs.map V.int)) := by rw [upd_ne hcd]; exact hc5
      have ht6 : upd H4 od (.lst []) tl = some (.lst (strsV (TL g (k ^ m) (k ^ (m + 1)) j 0))) := by rw [upd_ne htd]; exact ht5
      refine ⟨_, rfl, _, rfl, cl, _, _, V.int (cs[j]'(by omega)), rfl, rfl, SqL.of hc6, atI_nat (by rw [List.getElem?_map, List.getElem?_eq_getElem (by omega)]; rfl), _, rfl, _, j, rfl, by omega, fun v hv1 hv2 => ?_⟩
      refine ⟨_, _, rfl, rfl, ⟨by show (0 : Int) < _; decide, by show _ < (1073741824 : Int); decide⟩, ?_⟩
      refine ⟨_, rfl, by show 1 ≤ sizeLine; exact szl (by decide), fun o1 n1 => ?_⟩
      have s7 := sd.trans (same_new (o := .lst [V.int 0]) n1)
      refine ⟨a, o1, _, _, rfl, rfl, SqL.same hS s7, SqL.of upd_same, by rw [List.length_map]; exact szl (by show ns.length + 1 ≤ _; omega), fun o2 n2 => ?_⟩
      have s8 := s7.trans (same_new (o := .lst (ns.map V.int ++ [V.int 0])) n2)
      have hc8 := same_new (o := .lst (ns.map V.int ++ [V.int 0])) n2 _ _ (same_new (o := .lst [V.int 0]) n1 _ _ hc6)
      have ht8 := same_new (o := .lst (ns.map V.int ++ [V.int 0])) n2 _ _ (same_new (o := .lst [V.int 0]) n1 _ _ ht6)
      have ho8 := same_new (o := .lst (ns.map V.int ++ [V.int 0])) n2 _ _ (same_new (o := .lst [V.int 0]) n1 _ _ (upd_same (H := H4) (a := od) (o := .lst [])))
      refine ⟨o2, _, _, _, rfl, rfl, SqL.of upd_same, hd0, _, _, rfl, rfl, by show (0 : Int) < _; decide, rfl, _, rfl, ite_and ⟨_, rfl, _, _, rfl, rfl, ⟨by show (0 : Int) < _; decide, by show _ < (1073741824 : Int); decide⟩, ?_⟩ ?_⟩
      all_goals
        refine ⟨_, rfl, _, rfl, by omega, by omega, for_it walk_rng (fun cc σ H' => ∃ pt : Int, ∃ y10, ∃ ord : List Nat, σ = [some (.ref a), some (.int ((m + 1 : Nat) : Int)), some (.int k), some (.int ((k ^ m : Nat) : Int)), some (.ref cl), some (.ref tl), some (.int dg), some (.int (j : Int)), some (.ref od), some (.int pt), y10] ∧ Same H H' ∧
            H' cl = some (.lst (cs.map V.int)) ∧ H' tl = some (.lst (strsV (TL g (k ^ m) (k ^ (m + 1)) j 0))) ∧ H' od = some (.lst (strsV (ord.map fun d => [d]))) ∧ ord.Perm (List.range cc))
          ⟨_, _, [], rfl, s8, hc8, ht8, ho8, .nil⟩ (fun _ _ _ _ _ => trivial) ?_ ?_⟩
        · rintro cc x σ H5 H6 hcc ⟨pt, y10, ord, rfl, sm5, hc9, ht9, ho9, hperm⟩ ⟨rfl, rfl⟩
          rw [Int.toNat_natCast] at hcc
          have hol : ord.length = cc := by rw [hperm.length_eq, List.length_range]
          have hlen9 : (strsV (ord.map fun d => [d])).length = cc := by
            unfold strsV
            rw [List.length_map, List.length_map, List.length_map, hol]
          have hm1 : (0 : Int) ≤ pt % ((cc : Int) + 1) := Int.emod_nonneg _ (by omega)
          have hm2 : pt % ((cc : Int) + 1) < (cc : Int) + 1 := Int.emod_lt_of_pos _ (by omega)
          refine ⟨_, rfl, .inl ⟨rfl, _, SqL.of ho9⟩, _, rfl, _, rfl, _, _, rfl, rfl, _, _, rfl, rfl, by show (0 : Int) < (cc : Int) + 1; omega, _, rfl, _, _, 97 + cc, rfl, rfl, abc_len, abc_at (by omega), od, _, _, _, rfl, rfl, ho9, by rw [hlen9]; exact szlt (by omega), hm1, by omega, ?_⟩
          refine ⟨_, rfl, _, rfl, _, _, rfl, rfl, _, _, rfl, rfl, ⟨by show (0 : Int) < (cc : Int) + 1; omega, by show (cc : Int) + 1 < 1073741824; omega⟩, ?_⟩
          refine ⟨_, _, ord.take (pt % ((cc : Int) + 1)).toNat ++ [cc] ++ ord.drop (pt % ((cc : Int) + 1)).toNat, rfl, same_mut sm5 nodH, ?_, ?_, ?_, ins_perm hperm⟩
          · rw [upd_ne hcd]
            exact hc9
          · rw [upd_ne htd]
            exact ht9
          · rw [upd_same]
            unfold strsV
            simp only [List.map_append, List.map_take, List.map_drop]
            rfl
        · rintro σ H5 ⟨pt, y10, ord, rfl, sm5, hc9, ht9, ho9, hperm⟩
          rw [Int.toNat_natCast] at hperm
          have hol : ord.length = k := by rw [hperm.length_eq, List.length_range]
          refine ⟨_, rfl, _, _, rfl, rfl, .inl ⟨by decide, by decide⟩, ?_⟩
          have htl0 : TL g (k ^ m) (k ^ (m + 1)) j 0 = TL (colP g (k ^ m) j ord) (k ^ m) (k ^ (m + 1)) j 0 := TL_congr (fun _ _ => Iff.rfl) fun i hi hc => by
            unfold colP
            rw [if_neg fun z => hc.elim (fun y => by omega) fun y => Nat.not_lt_zero _ y.2]
          rw [htl0] at ht9
          refine ⟨_, rfl, _, rfl, by omega, by omega, for_it walk_rng (fun cc σ H' => ∃ y10, σ = [some (.ref a), some (.int ((m + 1 : Nat) : Int)), some (.int k), some (.int ((k ^ m : Nat) : Int)), some (.ref cl), some (.ref tl), some (.int (2 * pt)), some (.int (j : Int)), some (.ref od), some (.int pt), y10] ∧ Same H H' ∧
              H' cl = some (.lst (cs.map V.int)) ∧ H' tl = some (.lst (strsV (TL (colP g (k ^ m) j ord) (k ^ m) (k ^ (m + 1)) j cc))) ∧ H' od = some (.lst (strsV (ord.map fun d => [d]))))
            ⟨_, rfl, sm5, hc9, ht9, ho9⟩ (fun _ _ _ _ _ => trivial) ?_ ?_⟩
          · rintro cc x σ H6 H7 hcc ⟨y10, rfl, sm6, hc10, ht10, ho10⟩ ⟨rfl, rfl⟩
            rw [Int.toNat_natCast] at hcc
            have eix : (cc : Int) * ((k ^ m : Nat) : Int) + (j : Int) = ((cc * k ^ m + j : Nat) : Int) := by rw [Int.natCast_add, Int.natCast_mul]
            have hlt : cc * k ^ m + j < k ^ (m + 1) := by
              have := Nat.mul_le_mul_right (k ^ m) hcc
              rw [Nat.succ_mul] at this
              omega
            have hcol : colP g (k ^ m) j ord (cc * k ^ m + j) = ord[cc]'(by omega) := by
              unfold colP
              have h1 : (cc * k ^ m + j) % k ^ m = j := by rw [Nat.mul_comm, Nat.mul_add_mod, Nat.mod_eq_of_lt hj]
              have h2 : (cc * k ^ m + j) / k ^ m = cc := by rw [Nat.mul_comm, Nat.mul_add_div hp, Nat.div_eq_of_lt hj, Nat.add_zero]
              rw [if_pos h1, h2, List.getD_eq_getElem?_getD, List.getElem?_eq_getElem (by omega)]
              rfl
            refine ⟨_, rfl, _, rfl, od, _, _, V.str (tx [ord[cc]'(by omega)]), rfl, rfl, SqL.of ho10, atI_nat ?_, ?_⟩
            · unfold strsV
              rw [List.getElem?_map, List.getElem?_map, List.getElem?_map, List.getElem?_eq_getElem (by omega)]
              rfl
            refine ⟨_, rfl, _, rfl, _, rfl, _, _, rfl, rfl, .inl ⟨by omega, by omega⟩, _, rfl, _, _, rfl, rfl, tl, _, _, cc * k ^ m + j, rfl, rfl, ht10, ?_, ?_⟩
            · rw [eix]
              refine ixN_n ?_
              unfold strsV
              rw [List.length_map, List.length_map, TL_len]
              exact hlt
            · refine ⟨_, rfl, same_mut sm6 ntlH, ?_, ?_, ?_⟩
              · rw [upd_ne hct]
                exact hc10
              · rw [upd_same, ← TL_set hj, hcol]
                unfold strsV
                rw [List.map_set, List.map_set]
              · rw [upd_ne htd.symm]
                exact ho10
          · rintro σ H6 ⟨y10, rfl, sm6, hc10, ht10, ho10⟩
            rw [Int.toNat_natCast] at ht10
            have hD2 := hD.step hn hp hperm
            refine ⟨_, _, _, _, _, _, rfl, sm6, hc10, ?_, hD2⟩
            rw [ht10]
            congr 3
            refine TL_congr (fun i hi => ?_) fun _ _ _ => rfl
            have h9 : i / k ^ m < k := (Nat.div_lt_iff_lt_mul hp).mpr (by rw [← hn]; exact hi)
            revert h9
            generalize i / k ^ m = u
            generalize i % k ^ m = v
            intro h9
            omega
    · rintro σ H' ⟨dg, y7, y8, y9, y10, g, rfl, sm, _, ht', hD⟩
      rw [Int.toNat_natCast] at ht' hD
      have eT : strsV (TL g (k ^ m) (k ^ (m + 1)) (k ^ m) 0) = (((List.range (k ^ (m + 1))).map g).map fun d => tx [d]).map V.str := by
        unfold strsV TL
        rw [List.map_map, List.map_map, List.map_map, List.map_map]
        refine List.map_congr_left fun i hi => ?_
        show V.str (tx (if _ then _ else _)) = _
        rw [if_pos (.inl (Nat.mod_lt _ hp))]
        rfl
      rw [eT] at ht'
      refine ⟨⟨_, rfl⟩, _, rfl, _, tl, _, rfl, rfl, .inl (SqL.of ht'), ?_, ?_⟩
      · rw [ones_len _ (Str.ofString ""), List.length_map, List.length_map, List.length_range, ofs_empty_len]
        omega
      · rw [join_ones]
        exact q H' g sm hD
end
end RJ
set_option Elab.async false
set_option linter.all false
set_option maxRecDepth 100000
set_option maxHeartbeats 4000000
namespace RJ
open PySem PySem.Spec PyProof.Rows L2
/-! the dict of the words behind -/
def bkv (m k : Nat) (f : Nat → Nat) (j : Nat) : List (Key × V) := (List.range j).map fun i => ((Sum.inr (word (m + 1) k i) : Key), V.str (word (m + 1) k (f i)))
theorem bkv_len (m k : Nat) (f : Nat → Nat) (j : Nat) : (bkv m k f j).length = j := by
  unfold bkv
  rw [List.length_map, List.length_range]
theorem bkv_none {m k : Nat} {f : Nat → Nat} {j x : Nat} (hj : j ≤ x) (hx : x < k ^ (m + 1)) : valV (bkv m k f j) (Sum.inr (word (m + 1) k x) : Key) = none := by
  unfold valV
  rw [List.find?_eq_none.mpr]
  · rfl
  · intro y hy
    obtain ⟨i, hi, rfl⟩ := List.mem_map.mp hy
    have hi' := List.mem_range.mp hi
    simp only [decide_eq_true_eq]
    intro z
    have := word_inj (by omega) hx (Sum.inr.inj z)
    omega
theorem bkv_val {m k : Nat} {f : Nat → Nat} : ∀ {j x : Nat}, j ≤ k ^ (m + 1) → x < j → valV (bkv m k f j) (Sum.inr (word (m + 1) k x) : Key) = some (V.str (word (m + 1) k (f x)))
  | 0, x, _, h => absurd h (Nat.not_lt_zero _)
  | j + 1, x, hj, h => by
    have e : bkv m k f (j + 1) = bkv m k f j ++ [((Sum.inr (word (m + 1) k j) : Key), V.str (word (m + 1) k (f j)))] := by
      unfold bkv
      rw [List.range_succ, List.map_append]
      rfl
    rw [e, valV_snoc _ _ _ _ (bkv_none (Nat.le_refl _) (by omega))]
    by_cases c : x = j
    · subst c
      rw [if_pos rfl]
    · rw [if_neg (fun z => c (word_inj (by omega) (by omega) (Sum.inr.inj z))), bkv_val (by omega) (by omega)]
theorem bkv_put {m k : Nat} {f : Nat → Nat} {a c : Nat} (ha : a < k ^ (m + 1)) : putK (bkv m k f (k ^ (m + 1))) (Sum.inr (word (m + 1) k a) : Key) (V.str (word (m + 1) k c)) = bkv m k (fun x => if x = a then c else f x) (k ^ (m + 1)) := by
  unfold putK
  rw [valV_any, bkv_val (Nat.le_refl _) ha]
  show (if true = true then _ else _) = _
  rw [if_pos rfl]
  unfold bkv
  rw [List.map_map]
  refine List.map_congr_left fun i hi => ?_
  have hi' := List.mem_range.mp hi
  show (if (Sum.inr (word (m + 1) k i) : Key) = Sum.inr (word (m + 1) k a) then ((Sum.inr (word (m + 1) k i) : Key), V.str (word (m + 1) k c)) else ((Sum.inr (word (m + 1) k i) : Key), V.str (word (m + 1) k (f i)))) = ((Sum.inr (word (m + 1) k i) : Key), V.str (word (m + 1) k (if i = a then c else f i)))
  by_cases e : i = a
  · subst e
    rw [if_pos rfl, if_pos rfl]
  · rw [if_neg (fun z => e (word_inj hi' ha (Sum.inr.inj z))), if_neg e]
theorem bkv_exch {f : Nat → Nat} {a b : Nat} (hab : a ≠ b) : (fun x => if x = b then f a else (if x = a then f b else f x)) = exch f a b := by
  funext x
  unfold exch
  by_cases h1 : x = a
  · subst h1
    rw [if_neg hab, if_pos rfl, if_pos rfl]
  · by_cases h2 : x = b
    · subst h2
      rw [if_pos rfl, if_neg h1, if_pos rfl]
    · rw [if_neg h2, if_neg h1, if_neg h1, if_neg h2]
theorem DGet.bkv {H : Hp} {d : Addr} {m k : Nat} {f : Nat → Nat} {x : Nat} (h : H d = some (.dK (bkv m k f (k ^ (m + 1))))) (hx : x < k ^ (m + 1)) : DGet H d (.str (word (m + 1) k x)) (some (V.str (word (m + 1) k (f x)))) := by
  have := DGet.k (k := (Sum.inr (word (m + 1) k x) : Key)) h
  rw [bkv_val (Nat.le_refl _) hx] at this
  exact this
theorem Tups.at {L k : Nat} {H : Hp} {vs : List V} {ps : List (Nat × Nat)} (T : Tups L k H vs ps) : ∀ {i : Nat} {v : V}, vs[i]? = some v → ∃ t a b, ps[i]? = some (a, b) ∧ v = .ref t ∧ H t = some (.tup [V.str (word L k a), V.str (word L k b)]) := by
  induction T with
  | nil => intro i v h; cases i <;> cases h
  | cons e _ ih =>
    intro i v h
    cases i with
    | zero =>
      obtain rfl := Option.some.inj h
      exact ⟨_, _, _, rfl, rfl, e⟩
    | succ i => exact ih (i := i) h
section
variable {P : Program} {w : World} {K : PySem.W.Frag} {mg : Str → Option Value} {base : Heap}
/-! _law_behind -/
def spBehind : Sp := fun vs H Q _ => ∃ (a : Addr) (m k : Nat) (f : Nat → Nat), vs = [.ref a, .str (tx (tf m k f))] ∧ Cfg m k ∧ FolR m k f ∧ H a = some (.lst ((words (m + 1) k).map V.str)) ∧
  ∀ H' q, Same H H' → H q = none → H' q = some (.dK (bkv m k f (k ^ (m + 1)))) → Q (.ref q) H'
theorem ok_law_behind (T : Tx K mg) : Dok P w K mg base CX0 1 "_law_behind" ["words", "told"] spBehind := by
  obtain ⟨fd, F⟩ := T.f_law_behind
  refine Dok.of F T.g_law_behind sc_law_behind (fun _ _ _ _ _ _ us hl => match us, hl with | [_, _], _ => rfl) (fun vs H Q E h => ?_) (fun cdv A outer s H vs Q E hr h => ?_)
  · obtain ⟨a, m, k, f, rfl, _⟩ := h
    rfl
  · obtain ⟨a, m, k, f, rfl, c, Fo, ha, q⟩ := h
    have c1 := c.m7
    have c2 := c.sz
    have k1 := c.k1
    have hu := hu_of hr
    refine ⟨_, pss_cons (ps_set (i := 2) sc_law_behind.nd rfl (.inl rfl) pe_dnewK)
      (pss_cons (ps_for PassesOwn.never rfl (pi_zipLS rfl T.n_zip (pa_cons (pv 0) (pa_cons (pv 1) pa_nil))) (pg_tup rfl (pgs_cons (pg_name (i := 3) sc_law_behind.nd rfl (.inl rfl)) (pgs_cons (pg_name (i := 4) sc_law_behind.nd rfl (.inl rfl)) pgs_nil)))
        (pss_one (ps_dput hu (pv 2) (pv 3) (pe_op op_add_str (pe_slice sl_str (pv 3) (po_some pe_int) po_none) (pv 4)) rfl)))
      (pss_one (ps_ret (pv 2)))), ?_⟩
    intro d nd
    have had : a ≠ d := ne_of_none ha nd
    refine ⟨_, rfl, _, rfl, a, _, _, rfl, SqL.of (same_new nd _ _ ha), for_it (walk_zipLS (by rw [List.length_map, words_len, tx_size, tf_len])) (fun i σ H' => ∃ y3 y4, σ = [some (.ref a), some (.str (tx (tf m k f))), some (.ref d), y3, y4] ∧ Same H H' ∧ H' a = some (.lst ((words (m + 1) k).map V.str)) ∧ H' d = some (.dK (bkv m k f i)))
      ⟨none, none, rfl, same_new nd, by rw [upd_ne had]; exact ha, upd_same⟩ (fun i σ H' _ ⟨_, _, _, _, z, _⟩ => SqL.of z) ?_ ?_⟩
    · rintro i x σ H1 H2 hi ⟨y3, y4, rfl, sm, ha1, hd1⟩ ⟨t, x, cc, rfl, nt, rfl, hx, hcc⟩
      rw [List.length_map, words_len] at hi
      rw [List.getElem?_map, words_get hi] at hx
      have ex : V.str (word (m + 1) k i) = x := Option.some.inj hx
      subst ex
      obtain ⟨dg, hdg, rfl⟩ := tx_get hcc
      rw [tf_get hi] at hdg
      have edg : f i % k = dg := Option.some.inj hdg
      subst edg
      have s2 := same_new (o := .tup [V.str (word (m + 1) k i), V.str ⟨#[97 + f i % k]⟩]) nt
      have hd2 := s2 _ _ hd1
      refine ⟨t, _, rfl, SqT.of upd_same, rfl, _, _, rfl, _, _, rfl, rfl, ?_⟩
      refine ⟨_, rfl, _, rfl, _, rfl, wlen c1, _, rfl, tx (wdig m k i), tx [f i % k], by rw [cut1_word hi], rfl, ?_, _, rfl, _, rfl, d, _, rfl, DPut.k (k := (Sum.inr (word (m + 1) k i) : Key)) hd2 (by rw [bkv_len]; exact szlt (by omega)), ?_⟩
      · rw [tx_len, tx_len, wdig_len]
        exact szl (by simp; omega)
      · refine ⟨_, _, rfl, same_mut (sm.trans s2) nd, ?_, ?_⟩
        · rw [upd_ne had]
          exact s2 _ _ ha1
        · rw [upd_same, putK_new _ (bkv_none (Nat.le_refl _) hi), tx_app, ← FolR.word Fo k1 hi]
          unfold bkv
          rw [List.range_succ, List.map_append]
          rfl
    · rintro σ H' ⟨y3, y4, rfl, sm, ha1, hd1⟩
      rw [List.length_map, words_len] at hd1
      exact ⟨_, rfl, q H' d sm nd hd1⟩
/-! _law_same_round -/
def spSameR : Sp := fun vs H Q _ => ∃ (d : Addr) (a b m k : Nat) (f : Nat → Nat), vs = [.ref d, .str (word (m + 1) k a), .str (word (m + 1) k b)] ∧ Bij (k ^ (m + 1)) f ∧ H d = some (.dK (bkv m k f (k ^ (m + 1)))) ∧ a < k ^ (m + 1) ∧ b < k ^ (m + 1) ∧ a ≠ b ∧ Q (.bl (sameB f (k ^ (m + 1)) a b)) H
theorem ok_law_same_round (T : Tx K mg) : Dok P w K mg base CX0 1 "_law_same_round" ["behind", "one", "two"] spSameR := by
  obtain ⟨fd, F⟩ := T.f_law_same_round
  refine Dok.of F T.g_law_same_round sc_law_same_round (fun _ _ _ _ _ _ us hl => match us, hl with | [_, _, _], _ => rfl) (fun vs H Q E h => ?_) (fun cdv A outer s H vs Q E hr h => ?_)
  · obtain ⟨d, a, b, m, k, f, rfl, _⟩ := h
    rfl
  · obtain ⟨d, a, b, m, k, f, rfl, B, hd, ha, hb, hab, q⟩ := h
    have hu := hu_of hr
    have hp0 := per_pos f (k ^ (m + 1)) a
    refine ⟨_, pss_cons (ps_set (i := 3) sc_law_same_round.nd rfl (.inl rfl) (pe_dget hu (pv 0) (pv 1) (fun _ _ => rfl)))
      (pss_cons (ps_while PassesOwn.never (PW.pt (pw_and (pt_cmpR op_ne (pv 3) (pv 1) (nomark _)) (pw_and1 (pt_cmpR op_ne (pv 3) (pv 2) (nomark _)))))
        (pss_one (ps_set (i := 3) sc_law_same_round.nd rfl (.inl rfl) (pe_dget hu (pv 0) (pv 3) (fun _ _ => rfl)))))
      (pss_one (ps_ret (pe_cmpR op_eq (pv 3) (pv 2) (nomark _))))), ?_⟩
    refine ⟨_, rfl, _, rfl, d, _, rfl, DGet.bkv hd ha, ?_⟩
    refine ⟨fun M σ H' => ∃ j, 1 ≤ j ∧ j ≤ per f (k ^ (m + 1)) a ∧ M = per f (k ^ (m + 1)) a - j ∧ σ = [some (.ref d), some (.str (word (m + 1) k a)), some (.str (word (m + 1) k b)), some (.str (word (m + 1) k (it f j a)))] ∧ H' = H ∧ ∀ t, t < j → it f t a ≠ b,
      ⟨_, 1, Nat.le_refl _, hp0, rfl, rfl, rfl, fun t ht => by
        have : t = 0 := by omega
        rw [this]
        exact hab⟩, ?_⟩
    rintro M σ H' ⟨j, hj1, hj2, rfl, rfl, rfl, hno⟩
    have hl := B.it_lt j a ha
    refine ⟨_, rfl, _, rfl, rfl, _, rfl, ?_⟩
    have fin : ∀ v : Bool, v = sameB f (k ^ (m + 1)) a b → Q (.bl v) H' := fun v e => by rw [e]; exact q
    by_cases e : j = per f (k ^ (m + 1)) a
    · have e1 : it f j a = a := by rw [e]; exact B.per_it ha
      rw [e1]
      refine iteNS rfl ⟨_, rfl, _, rfl, rfl, fin _ ?_⟩
      rw [decide_eq_false (fun z => hab (word_inj ha hb (V.str.inj z)))]
      unfold sameB
      rw [decide_eq_false]
      intro hm
      unfold orb at hm
      obtain ⟨t, ht, et⟩ := List.mem_map.mp hm
      exact hno t (by rw [e]; exact List.mem_range.mp ht) et
    · rw [decide_eq_false (show ¬ V.str (word (m + 1) k (it f j a)) = V.str (word (m + 1) k a) from fun z => B.per_min ha hj1 (by omega) (word_inj hl ha (V.str.inj z)))]
      refine iteT ⟨_, rfl, _, rfl, rfl, _, rfl, ?_⟩
      by_cases e2 : it f j a = b
      · rw [e2]
        refine iteNS rfl ⟨_, rfl, _, rfl, rfl, fin _ ?_⟩
        rw [decide_eq_true rfl]
        exact ((B.sameB_iff ha).mpr ⟨j, e2⟩).symm
      · rw [decide_eq_false (show ¬ V.str (word (m + 1) k (it f j a)) = V.str (word (m + 1) k b) from fun z => e2 (word_inj hl hb (V.str.inj z)))]
        refine iteT ⟨fun σ H'' => σ = [some (.ref d), some (.str (word (m + 1) k a)), some (.str (word (m + 1) k b)), some (.str (word (m + 1) k (it f (j + 1) a)))] ∧ H'' = H', ?_, ?_⟩
        · rintro σ H'' ⟨rfl, rfl⟩
          refine ⟨per f (k ^ (m + 1)) a - (j + 1), by omega, j + 1, by omega, by omega, rfl, rfl, rfl, fun t ht => ?_⟩
          rcases Nat.lt_or_ge t j with c | c
          · exact hno t c
          · have : t = j := by omega
            rw [this]
            exact e2
        · refine ⟨_, rfl, _, rfl, d, _, rfl, DGet.bkv hd hl, ?_, rfl⟩
          rw [it_succ]
          rfl
/-! _law_pairs -/
def prow (m k i j : Nat) : List (Nat × Nat) := ((List.range j).filter fun b => decide (i < b) && decide (i % k ^ m = b % k ^ m)).map fun b => (i, b)
def prowsTo (m k i : Nat) : List (Nat × Nat) := (List.range i).flatMap fun a => prow m k a (k ^ (m + 1))
theorem prow_succ (m k i j : Nat) : prow m k i (j + 1) = prow m k i j ++ (if i < j ∧ i % k ^ m = j % k ^ m then [(i, j)] else []) := by
  unfold prow
  rw [List.range_succ, List.filter_append, List.map_append]
  congr 1
  by_cases c : i < j ∧ i % k ^ m = j % k ^ m
  · rw [if_pos c, List.filter_cons_of_pos (by simp [c])]
    rfl
  · rw [if_neg c, List.filter_cons_of_neg (by simpa using c)]
    rfl
theorem prows_succ (m k i : Nat) : prowsTo m k (i + 1) = prowsTo m k i ++ prow m k i (k ^ (m + 1)) := by
  unfold prowsTo
  rw [List.range_succ, List.flatMap_append, List.flatMap_singleton]
theorem prow_len (m k i j : Nat) : (prow m k i j).length ≤ j := by
  unfold prow
  rw [List.length_map]
  exact Nat.le_trans (List.length_filter_le _ _) (by rw [List.length_range]; exact Nat.le_refl _)
theorem prows_len (m k : Nat) (h : k ^ (m + 1) ≤ 64) : ∀ i, (prowsTo m k i).length ≤ 64 * i
  | 0 => Nat.le_refl _
  | i + 1 => by
    rw [prows_succ, List.length_append]
    have := prows_len m k h i
    have := prow_len m k i (k ^ (m + 1))
    omega
theorem prows_prs (m k : Nat) : prowsTo m k (k ^ (m + 1)) = prs (k ^ (m + 1)) (k ^ m) := rfl
def spPairs : Sp := fun vs H Q _ => ∃ (a : Addr) (m k : Nat), vs = [.ref a] ∧ Cfg m k ∧ H a = some (.lst ((words (m + 1) k).map V.str)) ∧
  ∀ H' q us, Same H H' → H q = none → H' q = some (.lst us) → Tups (m + 1) k H' us (prs (k ^ (m + 1)) (k ^ m)) → Q (.ref q) H'
theorem ok_law_pairs (T : Tx K mg) : Dok P w K mg base CX0 1 "_law_pairs" ["words"] spPairs := by
  obtain ⟨fd, F⟩ := T.f_law_pairs
  refine Dok.of F T.g_law_pairs sc_law_pairs (fun _ _ _ _ _ _ us hl => match us, hl with | [_], _ => rfl) (fun vs H Q E h => ?_) (fun cdv A outer s H vs Q E hr h => ?_)
  · obtain ⟨a, m, k, rfl, _⟩ := h
    rfl
  · obtain ⟨a, m, k, rfl, c, ha, q⟩ := h
    have c1 := c.m7
    have c2 := c.sz
    have k1 := c.k1
    refine ⟨_, pss_cons (ps_set (i := 1) sc_law_pairs.nd rfl (.inl rfl) (pe_lst pa_nil))
      (pss_cons (ps_for PassesOwn.never rfl (pi_list (pv 0)) (pg_name (i := 2) sc_law_pairs.nd rfl (.inl rfl))
        (pss_one (ps_for PassesOwn.never rfl (pi_list (pv 0)) (pg_name (i := 3) sc_law_pairs.nd rfl (.inl rfl))
          (pss_one (ps_if (PW.pt (pw_and (pt_cmpR op_lt_str (pv 2) (pv 3) (nomark _)) (pw_and1 (pt_cmpR op_eq (pe_slice sl_str (pv 2) (po_some pe_int) po_none) (pe_slice sl_str (pv 3) (po_some pe_int) po_none) (nomark _)))))
            (pss_one (ps_expr (pe_bm PySem.F.plainAttrs_list PySem.F.slot_list_append PySem.F.type_list_append mt_append (pv 1) (pa_cons (pe_tup (pa_cons (pv 2) (pa_cons (pv 3) pa_nil))) pa_nil))))
            pss_nil)))))
      (pss_one (ps_ret (pv 1)))), ?_⟩
    refine ⟨Nat.zero_le _, fun l nl => ?_⟩
    have hal : a ≠ l := ne_of_none ha nl
    refine ⟨_, rfl, a, rfl, ⟨_, SqL.of (same_new nl _ _ ha)⟩, for_it walk_list (fun i σ H' => ∃ y2 y3 us, σ = [some (.ref a), some (.ref l), y2, y3] ∧ Same H H' ∧ H' a = some (.lst ((words (m + 1) k).map V.str)) ∧ H' l = some (.lst us) ∧ Tups (m + 1) k H' us (prowsTo m k i))
      ⟨none, none, [], rfl, same_new nl, same_new nl _ _ ha, upd_same, .nil⟩ (fun i σ H' _ ⟨_, _, _, _, _, z, _⟩ => SqL.of z) ?_ ?_⟩
    · rintro i x σ H1 H2 hi ⟨y2, y3, us, rfl, sm, ha1, hl1, hT1⟩ ⟨rfl, hx⟩
      rw [List.length_map, words_len] at hi
      rw [List.getElem?_map, words_get hi] at hx
      have ex : V.str (word (m + 1) k i) = x := Option.some.inj hx
      subst ex
      refine ⟨_, rfl, a, rfl, ⟨_, SqL.of ha1⟩, for_it walk_list (fun j σ H' => ∃ y3 us, σ = [some (.ref a), some (.ref l), some (.str (word (m + 1) k i)), y3] ∧ Same H H' ∧ H' a = some (.lst ((words (m + 1) k).map V.str)) ∧ H' l = some (.lst us) ∧ Tups (m + 1) k H' us (prowsTo m k i ++ prow m k i j))
        ⟨_, us, rfl, sm, ha1, hl1, by show Tups _ _ _ _ (_ ++ []); rw [List.append_nil]; exact hT1⟩ (fun i σ H' _ ⟨_, _, _, _, z, _⟩ => SqL.of z) ?_ ?_⟩
      · rintro j x σ H3 H4 hj ⟨y3, us, rfl, sm3, ha3, hl3, hT3⟩ ⟨rfl, hx⟩
        rw [List.length_map, words_len] at hj
        rw [List.getElem?_map, words_get hj] at hx
        have ex : V.str (word (m + 1) k j) = x := Option.some.inj hx
        subst ex
        rw [prow_succ, ← List.append_assoc]
        refine ⟨_, rfl, _, rfl, _, _, rfl, rfl, _, rfl, ?_⟩
        by_cases hij : i < j
        · rw [decide_eq_true ((word_lt hi hj).mpr hij)]
          refine iteT ⟨_, rfl, _, rfl, _, rfl, wlen c1, _, rfl, _, rfl, _, rfl, wlen c1, rfl, _, rfl, ?_⟩
          rw [cut1_word hi, cut1_word hj]
          by_cases hm : i % k ^ m = j % k ^ m
          · rw [decide_eq_true (show V.str (tx (wdig m k i)) = V.str (tx (wdig m k j)) by rw [wdig_eq.mpr hm]), if_pos ⟨hij, hm⟩]
            refine iteT ⟨_, rfl, .inl ⟨rfl, _, SqL.of hl3⟩, _, rfl, _, rfl, by show 2 ≤ sizeLine; exact szl (by decide), fun t nt => ?_⟩
            have smt := same_new (o := .tup [V.str (word (m + 1) k i), V.str (word (m + 1) k j)]) nt
            have hl4 := smt _ _ hl3
            refine ⟨l, _, _, rfl, rfl, hl4, ?_, _, _, rfl, same_mut (sm3.trans smt) nl, ?_, upd_same, ((hT3.same smt).snoc upd_same).lst hl4⟩
            · rw [hT3.len, List.length_append]
              have := prows_len m k c2 i
              have := prow_len m k i j
              exact szlt (by omega)
            · rw [upd_ne hal]
              exact smt _ _ ha3
          · rw [decide_eq_false (show ¬ V.str (tx (wdig m k i)) = V.str (tx (wdig m k j)) from fun z => hm (wdig_eq.mp (tx_inj (V.str.inj z)))), if_neg (fun z => hm z.2), List.append_nil]
            exact iteF ⟨_, us, rfl, sm3, ha3, hl3, hT3⟩
        · rw [decide_eq_false (fun z => hij ((word_lt hi hj).mp z)), if_neg (fun z => hij z.1), List.append_nil]
          exact iteF ⟨_, us, rfl, sm3, ha3, hl3, hT3⟩
      · rintro σ H' ⟨y3, us, rfl, sm3, ha3, hl3, hT3⟩
        rw [List.length_map, words_len, ← prows_succ] at hT3
        exact ⟨_, _, us, rfl, sm3, ha3, hl3, hT3⟩
    · rintro σ H' ⟨y2, y3, us, rfl, sm, ha1, hl1, hT1⟩
      rw [List.length_map, words_len, prows_prs] at hT1
      exact ⟨_, rfl, q H' l us sm nl hl1 hT1⟩
/-! _law_joined -/
def spLJ : Sp := fun vs H Q _ => ∃ (a : Addr) (m k : Nat) (f : Nat → Nat), vs = [.ref a, .str (tx (tf m k f))] ∧ Cfg m k ∧ FolR m k f ∧ H a = some (.lst ((words (m + 1) k).map V.str)) ∧
  ∀ H' t d l us, Same H H' → H' t = some (.tup [.ref d, .ref l]) → H' d = some (.dK (bkv m k (joinAt m k f (prs (k ^ (m + 1)) (k ^ m))).1 (k ^ (m + 1)))) → H' l = some (.lst us) → Tups (m + 1) k H' us (joinAt m k f (prs (k ^ (m + 1)) (k ^ m))).2 → Q (.ref t) H'
theorem ok_law_joined (T : Tx K mg) : Dok P w K mg base CX0 2 "_law_joined" ["words", "told"] spLJ := by
  obtain ⟨fd, F⟩ := T.f_law_joined
  have D1 : Dok P w K mg base CX0 1 "_law_behind" ["words", "told"] spBehind := ok_law_behind T
  have D2 : Dok P w K mg base CX0 1 "_law_pairs" ["words"] spPairs := ok_law_pairs T
  have D3 : Dok P w K mg base CX0 1 "_law_same_round" ["behind", "one", "two"] spSameR := ok_law_same_round T
  refine Dok.of F T.g_law_joined sc_law_joined (fun _ _ _ _ _ _ us hl => match us, hl with | [_, _], _ => rfl) (fun vs H Q E h => ?_) (fun cdv A outer s H vs Q E hr h => ?_)
  · obtain ⟨a, m, k, f, rfl, _⟩ := h
    rfl
  · obtain ⟨a, m, k, f, rfl, c, Fo, ha, q⟩ := h
    have c1 := c.m7
    have c2 := c.sz
    have k1 := c.k1
    have hu := hu_of hr
    refine ⟨_, pss_cons (ps_set (i := 2) sc_law_joined.nd rfl (.inl rfl) (pcall D1 hr (pa_cons (pv 0) (pa_cons (pv 1) pa_nil))))
      (pss_cons (ps_set (i := 3) sc_law_joined.nd rfl (.inl rfl) (pe_lst pa_nil))
      (pss_cons (ps_for PassesOwn.never rfl (pi_list (pcall D2 hr (pa_cons (pv 0) pa_nil))) (pg_tup rfl (pgs_cons (pg_name (i := 4) sc_law_joined.nd rfl (.inl rfl)) (pgs_cons (pg_name (i := 5) sc_law_joined.nd rfl (.inl rfl)) pgs_nil)))
        (pss_one (ps_if (pt_not (pt_val (pcall D3 hr (pa_cons (pv 2) (pa_cons (pv 4) (pa_cons (pv 5) pa_nil))))))
          (pss_cons (ps_set (i := 6) sc_law_joined.nd rfl (.inl rfl) (pe_dget hu (pv 2) (pv 4) (fun _ _ => rfl)))
          (pss_cons (ps_dput hu (pv 2) (pv 4) (pe_dget hu (pv 2) (pv 5) (fun _ _ => rfl)) rfl)
          (pss_cons (ps_dput hu (pv 2) (pv 5) (pv 6) rfl)
          (pss_one (ps_expr (pe_bm PySem.F.plainAttrs_list PySem.F.slot_list_append PySem.F.type_list_append mt_append (pv 3) (pa_cons (pe_tup (pa_cons (pv 4) (pa_cons (pv 5) pa_nil))) pa_nil)))))))
          pss_nil)))
      (pss_one (ps_ret (pe_tup (pa_cons (pv 2) (pa_cons (pv 3) pa_nil))))))), ?_⟩
    refine ⟨_, rfl, _, rfl, a, m, k, f, rfl, c, Fo, ha, fun H1 d s1 nd hd => ?_⟩
    refine ⟨Nat.zero_le _, fun l nl => ?_⟩
    have s2 := same_new (o := .lst []) nl
    have nlH : H l = none := none_back s1 nl
    have hdl : d ≠ l := ne_of_none hd nl
    refine ⟨_, rfl, a, m, k, rfl, c, s2 _ _ (s1 _ _ ha), fun H2 p us2 s3 np hp hTp => ?_⟩
    have hdp : d ≠ p := ne_of_none (s2 _ _ hd) np
    have hlp : l ≠ p := ne_of_none upd_same np
    refine ⟨p, rfl, ⟨_, SqL.of hp⟩, for_it walk_list (fun i σ H' => ∃ y4 y5 y6 us, σ = [some (.ref a), some (.str (tx (tf m k f))), some (.ref d), some (.ref l), y4, y5, y6] ∧ Same H H' ∧ H' p = some (.lst us2) ∧ Tups (m + 1) k H' us2 (prs (k ^ (m + 1)) (k ^ m)) ∧
        H' d = some (.dK (bkv m k (joinAt m k f ((prs (k ^ (m + 1)) (k ^ m)).take i)).1 (k ^ (m + 1)))) ∧ H' l = some (.lst us) ∧ Tups (m + 1) k H' us (joinAt m k f ((prs (k ^ (m + 1)) (k ^ m)).take i)).2)
      ⟨none, none, none, [], rfl, (s1.trans s2).trans s3, hp, hTp, s3 _ _ (s2 _ _ hd), s3 _ _ upd_same, .nil⟩ (fun i σ H' _ ⟨_, _, _, _, _, _, z, _⟩ => SqL.of z) ?_ ?_⟩
    · rintro i x σ H3 H4 hi ⟨y4, y5, y6, us, rfl, sm, hp3, hTp3, hd3, hl3, hT3⟩ ⟨rfl, hx⟩
      obtain ⟨t, b1, b2, hb, rfl, ht⟩ := hTp3.at hx
      obtain ⟨h1, h2, h3, h4⟩ := mem_prs.mp (List.mem_of_getElem? hb)
      have hok : ∀ p ∈ (prs (k ^ (m + 1)) (k ^ m)).take i, p.1 < k ^ (m + 1) ∧ p.2 < k ^ (m + 1) ∧ p.1 % k ^ m = p.2 % k ^ m := fun p hp => by
        have := mem_prs.mp (List.mem_of_mem_take hp)
        exact ⟨this.1, this.2.1, this.2.2.2⟩
      have J := join_jn Fo hok
      have hul : us.length ≤ 64 := by
        rw [hT3.len]
        have := join_len_le Fo hok
        omega
      have htk : (prs (k ^ (m + 1)) (k ^ m)).take (i + 1) = (prs (k ^ (m + 1)) (k ^ m)).take i ++ [(b1, b2)] := by
        rw [List.take_add_one, hb]
        rfl
      rw [htk, join_snoc]
      refine ⟨t, _, rfl, SqT.of ht, rfl, _, _, rfl, _, _, rfl, rfl, ?_⟩
      have hne : b1 ≠ b2 := by show b1 ≠ b2; exact Nat.ne_of_lt h3
      refine ⟨_, rfl, _, rfl, _, rfl, d, b1, b2, m, k, _, rfl, J.f.b, hd3, h1, h2, hne, _, rfl, ?_⟩
      cases hs : sameB (joinAt m k f ((prs (k ^ (m + 1)) (k ^ m)).take i)).1 (k ^ (m + 1)) b1 b2 with
      | true =>
        have e0 : stepJ (k ^ (m + 1)) (joinAt m k f ((prs (k ^ (m + 1)) (k ^ m)).take i)) (b1, b2) = joinAt m k f ((prs (k ^ (m + 1)) (k ^ m)).take i) := by
          unfold stepJ
          rw [if_pos hs]
        rw [e0]
        exact iteF ⟨_, _, _, us, rfl, sm, hp3, hTp3, hd3, hl3, hT3⟩
      | false =>
        have e0 : stepJ (k ^ (m + 1)) (joinAt m k f ((prs (k ^ (m + 1)) (k ^ m)).take i)) (b1, b2) = (exch (joinAt m k f ((prs (k ^ (m + 1)) (k ^ m)).take i)).1 b1 b2, (joinAt m k f ((prs (k ^ (m + 1)) (k ^ m)).take i)).2 ++ [(b1, b2)]) := by
          unfold stepJ
          rw [if_neg (by rw [hs]; decide)]
        rw [e0]
        have ndH : H d = none := nd
        have hbl : ∀ g, (bkv m k g (k ^ (m + 1))).length < sizeLine := fun g => by rw [bkv_len]; exact szlt (by omega)
        refine iteT ⟨_, rfl, _, rfl, d, _, rfl, DGet.bkv hd3 h1, _, rfl, _, rfl, d, _, rfl, DGet.bkv hd3 h2, _, rfl, _, rfl, d, _, rfl, DPut.k (k := (Sum.inr (word (m + 1) k b1) : Key)) hd3 (hbl _), ?_⟩
        rw [bkv_put h1]
        refine ⟨_, rfl, _, rfl, _, rfl, d, _, rfl, DPut.k (k := (Sum.inr (word (m + 1) k b2) : Key)) upd_same (hbl _), ?_⟩
        rw [bkv_put h2, bkv_exch hne, upd_upd]
        have hld : l ≠ d := hdl.symm
        refine ⟨_, rfl, .inl ⟨rfl, _, SqL.of (by rw [upd_ne hld]; exact hl3)⟩, _, rfl, _, rfl, by show 2 ≤ sizeLine; exact szl (by decide), fun tt nt => ?_⟩
        have smt := same_new (o := .tup [V.str (word (m + 1) k b1), V.str (word (m + 1) k b2)]) nt
        have hl4 := smt _ _ (show upd H4 d _ l = some (.lst us) by rw [upd_ne hld]; exact hl3)
        have hp4 := smt _ _ (show upd H4 d _ p = some (.lst us2) by rw [upd_ne hdp.symm]; exact hp3)
        have dk : ∀ {vs ps} (T : Tups (m + 1) k H4 vs ps) {kv}, Tups (m + 1) k (upd H4 d (.dK kv)) vs ps := fun {vs ps} T {kv} => T.mono fun t x e => by
          rw [upd_ne (ne_of e hd3 (by intro z; cases z))]
          exact e
        refine ⟨l, _, _, rfl, rfl, hl4, szlt (by omega), _, _, _, _, rfl, same_mut ((same_mut sm ndH).trans smt) nlH, ?_, ((dk hTp3).same smt).lst hl4, ?_, upd_same, (((dk hT3).same smt).snoc upd_same).lst hl4⟩
        · rw [upd_ne hlp.symm]
          exact hp4
        · rw [upd_ne hdl]
          exact smt _ _ upd_same
    · rintro σ H' ⟨y4, y5, y6, us, rfl, sm, hp3, hTp3, hd3, hl3, hT3⟩
      rw [hTp3.len, List.take_length] at hd3 hT3
      refine ⟨_, rfl, _, rfl, by show 2 ≤ sizeLine; exact szl (by decide), fun t nt => ?_⟩
      have smt := same_new (o := .tup [V.ref d, V.ref l]) nt
      exact q _ t d l us (sm.trans smt) upd_same (smt _ _ hd3) (smt _ _ hl3) (hT3.same smt)
end
end RJ
set_option Elab.async false
set_option linter.all false
set_option maxRecDepth 100000
set_option maxHeartbeats 4000000
namespace RJ
open PySem PySem.Spec PyProof.Rows L2
theorem orb_take {f : Nat → Nat} {n x j : Nat} (h : j < per f n x) : (orb f n x).take (j + 1) = (orb f n x).take j ++ [it f j x] := by
  rw [List.take_add_one]
  congr 1
  unfold orb
  rw [List.getElem?_map, List.getElem?_range h]
  rfl
theorem Bij.new_at {n : Nat} {f : Nat → Nat} (B : Bij n f) {x j : Nat} (hx : x < n) (h : j < per f n x) : it f j x ∉ (orb f n x).take j := by
  intro hm
  obtain ⟨t, ht, e⟩ := List.mem_iff_getElem.mp hm
  rw [List.length_take, orb_len] at ht
  rw [List.getElem_take] at e
  unfold orb at e
  rw [List.getElem_map, List.getElem_range] at e
  have := B.it_eq hx (by omega) h e
  omega
section
variable {P : Program} {w : World} {K : PySem.W.Frag} {mg : Str → Option Value} {base : Heap}
def spLR : Sp := fun vs H Q _ => ∃ (a d : Addr) (m k : Nat) (f : Nat → Nat), vs = [.ref a, .ref d] ∧ Cfg m k ∧ FolR m k f ∧ H a = some (.lst ((words (m + 1) k).map V.str)) ∧ H d = some (.dK (bkv m k f (k ^ (m + 1)))) ∧
  ∀ ys H' q, List.Perm ys ((lead f (k ^ (m + 1))).map fun i => tx (ringt m k f i)) → sortedS ys = true → Same H H' → H q = none → H' q = some (.lst (ys.map V.str)) → Q (.ref q) H'
theorem ok_law_rounds (T : Tx K mg) : Dok P w K mg base CX0 1 "_law_rounds" ["words", "behind"] spLR := by
  obtain ⟨fd, F⟩ := T.f_law_rounds
  refine Dok.of F T.g_law_rounds sc_law_rounds (fun _ _ _ _ _ _ us hl => match us, hl with | [_, _], _ => rfl) (fun vs H Q E h => ?_) (fun cdv A outer s H vs Q E hr h => ?_)
  · obtain ⟨a, d, m, k, f, rfl, _⟩ := h
    rfl
  · obtain ⟨a, b, m, k, f, rfl, c, Fo, ha, hb, q⟩ := h
    have c1 := c.m7
    have c2 := c.sz
    have hu := hu_of hr
    refine ⟨_, pss_cons (ps_set (i := 2) sc_law_rounds.nd rfl (.inl rfl) pe_dnewK)
      (pss_cons (ps_set (i := 3) sc_law_rounds.nd rfl (.inl rfl) (pe_lst pa_nil))
      (pss_cons (ps_for PassesOwn.never rfl (pi_list (pv 0)) (pg_name (i := 4) sc_law_rounds.nd rfl (.inl rfl))
        (pss_one (ps_if (pt_cmp (pc_dnotin hu (pv 4) (pv 2)))
          (pss_cons (ps_set (i := 5) sc_law_rounds.nd rfl (.inl rfl) pe_str)
          (pss_cons (ps_set (i := 6) sc_law_rounds.nd rfl (.inl rfl) (pv 4))
          (pss_cons (ps_while PassesOwn.never (pt_cmp (pc_dnotin hu (pv 6) (pv 2)))
            (pss_cons (ps_dput hu (pv 2) (pv 6) pe_bl rfl)
            (pss_cons (ps_set (i := 5) sc_law_rounds.nd rfl (.inl rfl) (pe_op op_add_str (pv 5) (pe_ix ix_str (pv 6) pe_int (fun _ _ => rfl))))
            (pss_one (ps_set (i := 6) sc_law_rounds.nd rfl (.inl rfl) (pe_dget hu (pv 1) (pv 6) (fun _ _ => rfl)))))))
          (pss_one (ps_expr (pe_bm PySem.F.plainAttrs_list PySem.F.slot_list_append PySem.F.type_list_append mt_append (pv 3) (pa_cons (pv 5) pa_nil)))))))
          pss_nil)))
      (pss_one (ps_ret (pe_callB cr_sortS (by rfl) T.n_sorted (by decide +kernel) (pa_cons (pv 3) pa_nil)))))), ?_⟩
    intro d nd
    have s2 : Same H (upd H d (.dK [])) := same_new nd
    refine ⟨Nat.zero_le _, fun t nt => ?_⟩
    have s3 : Same (upd H d (.dK [])) (upd (upd H d (.dK [])) t (.lst [])) := same_new nt
    have s03 := s2.trans s3
    have hdt : d ≠ t := ne_of_none upd_same nt
    have had : a ≠ d := ne_of_none ha nd
    have hbd : b ≠ d := ne_of_none hb nd
    have n0t : H t = none := none_back s2 nt
    have hat : a ≠ t := ne_of_none ha n0t
    have hbt : b ≠ t := ne_of_none hb n0t
    refine ⟨_, rfl, a, rfl, ⟨_, SqL.of (s03 _ _ ha)⟩, for_it walk_list (fun i σ H' => ∃ y4 y5 y6 kvs, σ = [some (.ref a), some (.ref b), some (.ref d), some (.ref t), y4, y5, y6] ∧ Same H H' ∧
        H' t = some (.lst (leadTx m k f ((List.range i).filter (leadB f (k ^ (m + 1)))))) ∧ H' d = some (.dK kvs) ∧ kvs.length ≤ 64 * i ∧ Met m k kvs fun x => ∃ v, v < i ∧ same f v x)
      ⟨none, none, none, [], rfl, s03, upd_same, s3 _ _ upd_same, Nat.le_refl _, fun x _ => ⟨fun z => (nomatch z), fun ⟨v, hv, _⟩ => absurd hv (Nat.not_lt_zero _)⟩⟩ (fun i σ H' _ ⟨_, _, _, _, _, z, _⟩ => SqL.of (z _ _ ha)) ?_ ?_⟩
    · rintro i x σ H3 H4 hi ⟨y4, y5, y6, kvs, rfl, sm, ht3, hd3, hlen, hM⟩ ⟨rfl, hx⟩
      have hi' : i < k ^ (m + 1) := by
        rw [List.length_map, words_len] at hi
        exact hi
      rw [List.getElem?_map, words_get hi'] at hx
      have ex : V.str (word (m + 1) k i) = x := Option.some.inj hx
      subst ex
      refine ⟨_, rfl, _, rfl, d, _, rfl, DGet.k (k := Sum.inr (word (m + 1) k i)) hd3, _, rfl, ?_⟩
      have hMi := hM i hi'
      cases hv : (valV kvs (Sum.inr (word (m + 1) k i) : Key)).isSome with
      | true =>
        obtain ⟨v, hvi, hvs⟩ := hMi.mp hv
        have hl : leadB f (k ^ (m + 1)) i = false := by
          cases e : leadB f (k ^ (m + 1)) i with
          | false => rfl
          | true => exact absurd hvs ((Fo.b.leadB_iff hi').mp e v hvi)
        refine iteF ⟨_, _, _, kvs, rfl, sm, ?_, hd3, by omega, hM.imp fun x hx => ⟨fun ⟨v, a, b⟩ => ⟨v, by omega, b⟩, fun ⟨u, a, b⟩ => ?_⟩⟩
        · rw [filter_step, hl, if_neg (by decide), List.append_nil]
          exact ht3
        · rcases Nat.lt_or_ge u i with c | c
          · exact ⟨u, c, b⟩
          · have : u = i := by omega
            exact ⟨v, hvi, hvs.trans (this ▸ b)⟩
      | false =>
        have hno : ∀ v, v < i → ¬ same f v i := fun v hv2 hs => by
          have := hMi.mpr ⟨v, hv2, hs⟩
          rw [hv] at this
          cases this
        have hl : leadB f (k ^ (m + 1)) i = true := (Fo.b.leadB_iff hi').mpr hno
        have hpl := Fo.b.per_le hi'
        have hp0 := per_pos f (k ^ (m + 1)) i
        have hlen64 : ∀ j, ((orb f (k ^ (m + 1)) i).take j).length ≤ 64 := fun j => by
          rw [List.length_take, orb_len]
          omega
        refine iteT ⟨_, rfl, ?_⟩
        refine ⟨fun M σ H' => ∃ j kv, j ≤ per f (k ^ (m + 1)) i ∧ M = per f (k ^ (m + 1)) i - j ∧ σ = [some (.ref a), some (.ref b), some (.ref d), some (.ref t), some (.str (word (m + 1) k i)), some (.str (tx (((orb f (k ^ (m + 1)) i).take j).map fun y => y / k ^ m))), some (.str (word (m + 1) k (it f j i)))] ∧ Same H H' ∧
            H' t = some (.lst (leadTx m k f ((List.range i).filter (leadB f (k ^ (m + 1)))))) ∧ H' d = some (.dK kv) ∧ kv.length ≤ 64 * i + j ∧ Met m k kv fun x => (∃ v, v < i ∧ same f v x) ∨ x ∈ (orb f (k ^ (m + 1)) i).take j,
          ⟨_, 0, kvs, Nat.zero_le _, rfl, ?_, sm, ht3, hd3, by omega, hM.imp fun x _ => ⟨.inl, fun z => z.resolve_right (by simp)⟩⟩, ?_⟩
        · rw [tx_nil]
          rfl
        rintro M σ H' ⟨j, kv, hj, rfl, rfl, sm6, ht6, hd6, hl6, hM6⟩
        have hlj := Fo.b.it_lt j i hi'
        refine ⟨_, rfl, _, rfl, d, _, rfl, DGet.k (k := Sum.inr (word (m + 1) k (it f j i))) hd6, _, rfl, ?_⟩
        have hMj := hM6 _ hlj
        by_cases e : j = per f (k ^ (m + 1)) i
        · have hin : (valV kv (Sum.inr (word (m + 1) k (it f j i)) : Key)).isSome = true := hMj.mpr (.inr (by
            obtain ⟨r, er, _⟩ := orb_cons f (k ^ (m + 1)) i
            rw [e, Fo.b.per_it hi', ← orb_len, List.take_length, er]
            exact List.mem_cons_self))
          rw [hin]
          rw [e, ← orb_len, List.take_length] at hM6
          have htk : (orb f (k ^ (m + 1)) i).take j = orb f (k ^ (m + 1)) i := by rw [e, ← orb_len, List.take_length]
          rw [htk]
          refine iteF ⟨_, rfl, .inl ⟨rfl, _, SqL.of ht6⟩, _, rfl, t, _, _, rfl, rfl, ht6, ?_, ?_⟩
          · unfold leadTx
            rw [List.length_map, List.length_map]
            have := List.length_filter_le (leadB f (k ^ (m + 1))) (List.range i)
            rw [List.length_range] at this
            exact szlt (by omega)
          · refine ⟨_, _, _, kv, rfl, same_mut sm6 n0t, ?_, ?_, by omega, hM6.imp fun x hx => ?_⟩
            · rw [upd_same, filter_step, hl, if_pos rfl]
              unfold leadTx
              rw [List.map_append, List.map_append]
              rfl
            · rw [upd_ne hdt]
              exact hd6
            · rw [Fo.b.mem_orb hi']
              constructor
              · rintro (⟨v, h1, h2⟩ | h2)
                · exact ⟨v, by omega, h2⟩
                · exact ⟨i, by omega, h2⟩
              · rintro ⟨v, h1, h2⟩
                rcases Nat.lt_or_ge v i with c | c
                · exact .inl ⟨v, c, h2⟩
                · have : v = i := by omega
                  exact .inr (this ▸ h2)
        · have hjl : j < per f (k ^ (m + 1)) i := by omega
          have hout : (valV kv (Sum.inr (word (m + 1) k (it f j i)) : Key)).isSome = false := by
            rw [Bool.eq_false_iff]
            intro z
            rcases hMj.mp z with ⟨v, h1, h2⟩ | h2
            · exact hno v h1 (h2.trans (Fo.b.symm hi' ⟨j, rfl⟩))
            · exact Fo.b.new_at hi' hjl h2
          rw [hout]
          refine iteT ⟨fun σ H'' => ∃ kv2, σ = [some (.ref a), some (.ref b), some (.ref d), some (.ref t), some (.str (word (m + 1) k i)), some (.str (tx (((orb f (k ^ (m + 1)) i).take (j + 1)).map fun y => y / k ^ m))), some (.str (word (m + 1) k (it f (j + 1) i)))] ∧ Same H H'' ∧
              H'' t = some (.lst (leadTx m k f ((List.range i).filter (leadB f (k ^ (m + 1)))))) ∧ H'' d = some (.dK kv2) ∧ kv2.length ≤ 64 * i + (j + 1) ∧ Met m k kv2 fun x => (∃ v, v < i ∧ same f v x) ∨ x ∈ (orb f (k ^ (m + 1)) i).take (j + 1), ?_, ?_⟩
          · rintro σ H'' ⟨kv2, rfl, h1, h2, h3, h4, h5⟩
            exact ⟨per f (k ^ (m + 1)) i - (j + 1), by omega, j + 1, kv2, by omega, rfl, rfl, h1, h2, h3, h4, h5⟩
          · refine ⟨_, rfl, _, rfl, d, _, rfl, DPut.k (k := Sum.inr (word (m + 1) k (it f j i))) hd6 (szlt (by omega)), ?_⟩
            refine ⟨_, rfl, _, rfl, _, _, _, rfl, rfl, wlen c1, at0_word hlj, tx (((orb f (k ^ (m + 1)) i).take j).map fun y => y / k ^ m), tx [it f j i / k ^ m], rfl, rfl, ?_, ?_⟩
            · rw [tx_len, tx_len, List.length_map]
              have := hlen64 j
              exact szl (by simp; omega)
            · have sm7 := same_mut (o := .dK (putK kv (Sum.inr (word (m + 1) k (it f j i)) : Key) (V.bl true))) sm6 nd
              refine ⟨_, rfl, _, rfl, b, _, rfl, DGet.bkv (sm7 _ _ hb) hlj, _, ?_, sm7, ?_, upd_same, Nat.le_trans (length_putK _ _ _) (by omega), hM6.put hlj fun x => ?_⟩
              · rw [orb_take hjl, List.map_append, tx_app, it_succ]
                rfl
              · rw [upd_ne hdt.symm]
                exact ht6
              · rw [orb_take hjl, List.mem_append, List.mem_singleton, or_assoc]
    · rintro σ H' ⟨y4, y5, y6, kvs, rfl, sm, ht', _⟩
      rw [List.length_map, words_len] at ht'
      refine ⟨_, rfl, t, _, rfl, SqL.of ht', fun ys q' hper hso nq => ?_⟩
      exact q ys _ q' hper hso (sm.trans (same_new nq)) (none_back sm nq) upd_same
end
end RJ
set_option Elab.async false
set_option linter.all false
set_option maxRecDepth 100000
set_option maxHeartbeats 4000000
namespace RJ
open PySem PySem.Spec PyProof.Rows L2
/-- a short text of letters -/
def sht (l : List Nat) : Prop := l.length ≤ 128 ∧ ∀ d ∈ l, d < 6
theorem sht.app {a b : List Nat} (ha : ∀ d ∈ a, d < 6) (hb : ∀ d ∈ b, d < 6) (h : a.length + b.length ≤ 128) : sht (a ++ b) := ⟨by rw [List.length_append]; exact h, fun d hd => (List.mem_append.mp hd).elim (ha d) (hb d)⟩
section
variable {P : Program} {w : World} {K : PySem.W.Frag} {mg : Str → Option Value} {base : Heap}
def spSlips : Sp := fun vs H Q _ => ∃ (x : List Nat) (n : Int), vs = [.str (tx x), .int n] ∧ 1 ≤ x.length ∧ x.length ≤ 64 ∧ (∀ d ∈ x, d < 6) ∧
  ∀ (H' : Hp) (q : Addr) (ts : List (List Nat)), Same H H' → (∀ t ∈ ts, sht t) → ts.length = 6 → H' q = some (.lst (strsV ts)) → Q (.ref q) H'
theorem ok_law_slips (T : Tx K mg) : Dok P w K mg base CX0 1 "_law_slips" ["ring", "n"] spSlips := by
  obtain ⟨fd, F⟩ := T.f_law_slips
  refine Dok.of F T.g_law_slips sc_law_slips (fun _ _ _ _ _ _ us hl => match us, hl with | [_, _], _ => rfl) (fun vs H Q E h => ?_) (fun cdv A outer s H vs Q E hr h => ?_)
  · obtain ⟨x, n, rfl, _⟩ := h
    rfl
  · obtain ⟨x, n, rfl, hx1, hx64, hx6, q⟩ := h
    refine ⟨_, pss_cons (ps_set (i := 2) sc_law_slips.nd rfl (.inl rfl) (pe_op op_mod (pe_op op_fdiv (pv 1) pe_int) (pe_callB call_len_str (by rfl) T.n_len PySem.boot_len (pa_cons (pv 0) pa_nil))))
      (pss_cons (ps_set (i := 3) sc_law_slips.nd rfl (.inl rfl) (pe_op op_mod (pe_op op_fdiv (pv 1) pe_int) (pe_callB call_len_str (by rfl) T.n_len PySem.boot_len (pa_cons (pv 0) pa_nil))))
      (pss_cons (ps_set (i := 4) sc_law_slips.nd rfl (.inl rfl) (pe_ix ix_str pe_str (pe_op op_mod (pe_op op_fdiv (pv 1) pe_int) pe_int) (fun _ _ => rfl)))
      (pss_cons (ps_set (i := 5) sc_law_slips.nd rfl (.inl rfl) (pe_op op_add_str (pe_slice sl_str (pv 0) po_none (po_some (pv 2))) (pe_slice sl_str (pv 0) (po_some (pe_op op_add (pv 2) pe_int)) po_none)))
      (pss_cons (ps_set (i := 6) sc_law_slips.nd rfl (.inl rfl) (pe_callTy (call_listS rfl) (by rfl) T.n_list (by decide +kernel) (pa_cons (pv 0) pa_nil)))
      (pss_cons (ps_asg (pe_ix ix_str (pv 0) (pv 3) (fun _ _ => rfl)) (pg_sub (pv 6) (pv 2) set_list))
      (pss_cons (ps_asg (pe_ix ix_str (pv 0) (pv 2) (fun _ _ => rfl)) (pg_sub (pv 6) (pv 3) set_list))
      (pss_cons (ps_set (i := 7) sc_law_slips.nd rfl (.inl rfl) (pe_lst
        (pa_cons (pe_op op_add_str (pe_op op_add_str (pe_slice sl_str (pv 0) po_none (po_some (pv 2))) (pv 4)) (pe_slice sl_str (pv 0) (po_some (pe_op op_add (pv 2) pe_int)) po_none))
        (pa_cons (pe_op op_add_str (pe_op op_add_str (pe_slice sl_str (pv 5) po_none (po_some (pv 3))) (pe_ix ix_str (pv 0) (pv 2) (fun _ _ => rfl))) (pe_slice sl_str (pv 5) (po_some (pv 3)) po_none))
        (pa_cons (pe_join pe_str (pv 6)) pa_nil)))))
      (pss_one (ps_ret (pe_op op_cat (pv 7) (pe_lst (pa_cons (pe_joinRev rfl pe_str rfl T.n_reversed (pa_cons (pv 0) pa_nil)) (pa_cons (pe_op op_add_str (pv 0) (pv 0)) (pa_cons (pv 5) pa_nil)))))))))))))), ?_⟩
    have hxl : (tx x).length ≤ sizeLine := by rw [tx_len]; exact szl (by omega)
    have hpos : (0 : Int) < ((tx x).length : Nat) := by rw [tx_len]; omega
    obtain ⟨i, hi⟩ := Int.eq_ofNat_of_zero_le (Int.emod_nonneg (n / 7) (b := ((tx x).length : Nat)) (by omega))
    obtain ⟨j, hj⟩ := Int.eq_ofNat_of_zero_le (Int.emod_nonneg (n / 700) (b := ((tx x).length : Nat)) (by omega))
    obtain ⟨d, hd⟩ := Int.eq_ofNat_of_zero_le (Int.emod_nonneg (n / 70000) (b := 6) (by omega))
    have hix : i < x.length := by
      have := Int.emod_lt_of_pos (n / 7) hpos
      rw [hi, tx_len] at this
      omega
    have hjx : j < x.length := by
      have := Int.emod_lt_of_pos (n / 700) hpos
      rw [hj, tx_len] at this
      omega
    have hd6 : d < 6 := by
      have := Int.emod_lt_of_pos (n / 70000) (b := 6) (by omega)
      omega
    have dv : ∀ z : Int, (1 ≤ z ∧ z < 1073741824) → CDiv n z := fun z h => ⟨by omega, by omega⟩
    have e1 : (i : Int) + 1 = ((i + 1 : Nat) : Int) := by omega
    have xi := List.getElem?_eq_getElem hix
    have xj := List.getElem?_eq_getElem hjx
    refine ⟨_, rfl, _, _, rfl, rfl, dv 7 (by omega), _, rfl, _, rfl, hxl, _, _, rfl, rfl, hpos, ?_⟩
    refine ⟨_, rfl, _, _, rfl, rfl, dv 700 (by omega), _, rfl, _, rfl, hxl, _, _, rfl, rfl, hpos, ?_⟩
    show tSeq _ _ _ [some (.str (tx x)), some (.int n), some (.int (n / 7 % ((tx x).length : Nat))), some (.int (n / 700 % ((tx x).length : Nat))), none, none, none, none] _
    rw [hi, hj]
    refine ⟨_, rfl, _, _, rfl, rfl, dv 70000 (by omega), _, _, rfl, rfl, by show (0 : Int) < _; decide, _, _, 97 + d, rfl, rfl, abc_len, by show atI _ (n / 70000 % 6) = _; rw [hd]; exact abc_at hd6, ?_⟩
    refine ⟨_, rfl, _, rfl, _, rfl, tx x, rfl, hxl, _, rfl, _, rfl, _, _, rfl, rfl, _, rfl, tx x, rfl, hxl, tx (x.take i), tx (x.drop (i + 1)), by rw [cut_to], by rw [e1, cut_from], ?_, ?_⟩
    · rw [tx_len, tx_len, List.length_take, List.length_drop]
      exact szl (by omega)
    rw [tx_app]
    have hr6 : ∀ d ∈ x.take i ++ x.drop (i + 1), d < 6 := fun d hd => (List.mem_append.mp hd).elim (fun h => hx6 d (List.mem_of_mem_take h)) fun h => hx6 d (List.mem_of_mem_drop h)
    have hrl : (x.take i ++ x.drop (i + 1)).length ≤ 64 := by
      rw [List.length_append, List.length_take, List.length_drop]
      omega
    revert hr6 hrl
    generalize x.take i ++ x.drop (i + 1) = r
    intro hr6 hrl
    have hrlen : (tx r).length ≤ sizeLine := by rw [tx_len]; exact szl (by omega)
    refine ⟨_, rfl, tx x, rfl, by rw [tx_len]; omega, fun p np => ?_⟩
    have s1 : Same H (upd H p (.lst ((signs (tx x)).map V.str))) := same_new np
    have esg : ∀ l : List Nat, ((l.map fun d => tx [d]).map V.str) = strsV (l.map fun d => [d]) := fun l => by
      unfold strsV
      rw [List.map_map, List.map_map, List.map_map]
      rfl
    rw [signs_tx, esg] at s1 ⊢
    have lsV : ∀ l : List Nat, (strsV (l.map fun d => [d])).length = l.length := fun l => by
      unfold strsV
      rw [List.length_map, List.length_map, List.length_map]
    have setV : ∀ (l : List Nat) (i d : Nat), (strsV (l.map fun d => [d])).set i (V.str ⟨#[97 + d]⟩) = strsV ((l.set i d).map fun d => [d]) := fun l i d => by
      unfold strsV
      rw [List.map_set, List.map_set, List.map_set]
      rfl
    refine ⟨_, rfl, _, rfl, _, _, 97 + x[j], rfl, rfl, hxl, at_tx xj, _, rfl, _, rfl, p, _, _, i, rfl, rfl, upd_same, ixN_n (by rw [lsV]; exact hix), ?_⟩
    rw [setV, upd_upd]
    refine ⟨_, rfl, _, rfl, _, _, 97 + x[i], rfl, rfl, hxl, at_tx xi, _, rfl, _, rfl, p, _, _, j, rfl, rfl, upd_same, ixN_n (by rw [lsV, List.length_set]; exact hjx), ?_⟩
    rw [setV, upd_upd]
    have hs6 : ∀ d ∈ (x.set i x[j]).set j x[i], d < 6 := fun d hd => by
      rcases List.mem_or_eq_of_mem_set hd with h | h
      · rcases List.mem_or_eq_of_mem_set h with h | h
        · exact hx6 d h
        · exact h ▸ hx6 _ (List.getElem_mem _)
      · exact h ▸ hx6 _ (List.getElem_mem _)
    have hsl : ((x.set i x[j]).set j x[i]).length = x.length := by rw [List.length_set, List.length_set]
    revert hs6 hsl
    generalize (x.set i x[j]).set j x[i] = y
    intro hs6 hsl
    have s2 := same_new (o := .lst (strsV (y.map fun d => [d]))) np
    have t1 : sht (x.take i ++ [d] ++ x.drop (i + 1)) := sht.app (fun e he => (List.mem_append.mp he).elim (fun h => hx6 e (List.mem_of_mem_take h)) fun h => by rw [List.mem_singleton.mp h]; exact hd6) (fun e he => hx6 e (List.mem_of_mem_drop he)) (by rw [List.length_append, List.length_take, List.length_drop]; simp; omega)
    have t2 : sht (r.take j ++ [x[i]] ++ r.drop j) := sht.app (fun e he => (List.mem_append.mp he).elim (fun h => hr6 e (List.mem_of_mem_take h)) fun h => by rw [List.mem_singleton.mp h]; exact hx6 _ (List.getElem_mem _)) (fun e he => hr6 e (List.mem_of_mem_drop he)) (by rw [List.length_append, List.length_take, List.length_drop]; simp; omega)
    have t3 : sht y := ⟨by omega, hs6⟩
    have t4 : sht x.reverse := ⟨by rw [List.length_reverse]; omega, fun e he => hx6 e (List.mem_reverse.mp he)⟩
    have t5 : sht (x ++ x) := sht.app hx6 hx6 (by omega)
    have t6 : sht r := ⟨by omega, hr6⟩
    refine ⟨_, rfl, _, rfl, _, rfl, tx x, rfl, hxl, _, rfl, tx (x.take i), tx [d], by rw [cut_to], rfl, ?_, ?_⟩
    · rw [tx_len, tx_len, List.length_take]
      exact szl (by simp; omega)
    rw [tx_app]
    refine ⟨_, rfl, _, rfl, _, _, rfl, rfl, _, rfl, tx x, rfl, hxl, tx (x.take i ++ [d]), tx (x.drop (i + 1)), rfl, by rw [e1, cut_from], ?_, ?_⟩
    · rw [tx_len, tx_len, ← List.length_append]
      exact szl (by have := t1.1; omega)
    rw [tx_app]
    refine ⟨_, rfl, _, rfl, _, rfl, tx r, rfl, hrlen, _, rfl, _, rfl, _, _, 97 + x[i], rfl, rfl, hxl, at_tx xi, tx (r.take j), tx [x[i]], by rw [cut_to], rfl, ?_, ?_⟩
    · rw [tx_len, tx_len, List.length_take]
      exact szl (by simp; omega)
    rw [tx_app]
    refine ⟨_, rfl, _, rfl, _, rfl, tx r, rfl, hrlen, tx (r.take j ++ [x[i]]), tx (r.drop j), rfl, by rw [cut_from], ?_, ?_⟩
    · rw [tx_len, tx_len, ← List.length_append]
      exact szl (by have := t2.1; omega)
    rw [tx_app]
    refine ⟨⟨_, rfl⟩, _, rfl, _, p, y.map fun d => tx [d], rfl, rfl, .inl (SqL.of (by rw [esg]; exact upd_same)), ?_, ?_⟩
    · rw [ones_len _ (Str.ofString ""), List.length_map, ofs_empty_len]
      omega
    rw [join_ones]
    refine ⟨by show 3 ≤ sizeLine; exact szl (by decide), fun l1 n1 => ?_⟩
    have s3 := s2.trans (same_new (o := .lst (strsV [x.take i ++ [d] ++ x.drop (i + 1), r.take j ++ [x[i]] ++ r.drop j, y])) n1)
    refine ⟨_, rfl, ⟨_, rfl⟩, _, rfl, _, rfl, .inr ⟨tx x, rfl, by rw [tx_len]; omega, ?_, ?_⟩⟩
    · rw [signs_tx, ones_len _ (Str.ofString ""), List.length_map, ofs_empty_len]
      omega
    rw [signs_tx, ← List.map_reverse, join_ones]
    refine ⟨_, rfl, _, rfl, tx x, tx x, rfl, rfl, ?_, ?_⟩
    · rw [tx_len]
      exact szl (by omega)
    rw [tx_app]
    refine ⟨_, rfl, by show 3 ≤ sizeLine; exact szl (by decide), fun l2 n2 => ?_⟩
    have s4 := s3.trans (same_new (o := .lst (strsV [x.reverse, x ++ x, r])) n2)
    have hl1 := same_new (o := .lst (strsV [x.reverse, x ++ x, r])) n2 _ _ (upd_same (H := upd H p (.lst (strsV (y.map fun d => [d])))) (a := l1) (o := .lst (strsV [x.take i ++ [d] ++ x.drop (i + 1), r.take j ++ [x[i]] ++ r.drop j, y])))
    refine ⟨l1, l2, _, _, rfl, rfl, hl1, upd_same, by show 6 ≤ sizeLine; exact szl (by decide), fun l3 n3 => ?_⟩
    refine q _ l3 [x.take i ++ [d] ++ x.drop (i + 1), r.take j ++ [x[i]] ++ r.drop j, y, x.reverse, x ++ x, r] (s4.trans (same_new n3)) ?_ rfl upd_same
    intro t ht
    simp only [List.mem_cons, List.not_mem_nil, or_false] at ht
    rcases ht with rfl | rfl | rfl | rfl | rfl | rfl
    · exact t1
    · exact t2
    · exact t3
    · exact t4
    · exact t5
    · exact t6
end
end RJ
set_option Elab.async false
set_option linter.all false
set_option maxRecDepth 100000
set_option maxHeartbeats 4000000
namespace RJ
open PySem PySem.Spec PyProof.Rows L2
section
variable {P : Program} {w : World} {K : PySem.W.Frag} {mg : Str → Option Value} {base : Heap} {k : Nat} {x : Str} {N ps : List Str} {sp : Sp}
/-- a def that may raise -/
theorem Dok.ofX {params : Arguments} {body : List Stmt} {scope : Scope} {f : Addr} {fd : FuncData} (F : FunD K x x params body scope [] [] f fd) (hg : mg x = some (.ref f)) (S : FnScope N ps scope)
    (hb : ∀ (kV doc pm : Value) (an : Option Addr) (cdv ct : Value) (us : List Value), us.length = ps.length → bindArgs (PySem.W.fnOf x x params body scope .none kV doc pm an cdv ct) ⟨us, []⟩ = pure (ps.zip us))
    (len : ∀ vs H Q E, sp vs H Q E → vs.length = ps.length)
    (h : ∀ (cdv : Value) (A : Around) (outer : List Env) (s : Shared) (H : Hp) (vs : List V) (Q : VK) (E : XK), Room k (A.deeper (envOfC x scope s.heap.objs.size f cdv)) → sp vs H Q E →
      ∃ t, PSs (cxOf (L2.CX P w) P w K mg base N x scope f cdv A outer s H E) body t ∧ t { nx := fun _ H' => Q .non H', rt := Q } (start N vs) H) : Dok P w K mg base (L2.CX P w) (k + 1) x ps sp :=
  ⟨f, fd, hg, F.kp, F.bindsN hb, F.ok S len fun cdv A outer s H vs Q E hr hs => h cdv A outer s H vs Q E hr hs⟩
end
section
variable {X : Cx} {x : Str} {p pos : Pos} {e : Expr} {es : List Expr} {k : Nat} {ps : List Str} {sp : Sp} {t : TA}
/-- such a def called where it raises nothing -/
theorem pcallL (D : Dok X.prog X.w X.K X.mg X.base (L2.CX X.prog X.w) k x ps sp) (hr : Room k X.A) (ha : PA X (e :: es) t) (hg : Gl X x := by rfl)
    (hdb : (x == ("__debug__" : Str)) = false := by decide) (he : starEach (e :: es) X.env = (false, eval e X.env) :: starEach es X.env := by rfl) (hpl : (backTo pos (starEach es X.env)).any (·.1) = false := by rfl) :
    PE X (.Call (.Name x p) (e :: es) [] pos) (tCall sp [] E0 t) := by
  obtain ⟨f, fd, hm, hk, hb, G⟩ := D.ex
  exact pe_call G hr hg hm hk hb .nil passL ha hdb he hpl
/-- in a try's body -/
theorem pcallT {W : WX} (D : Dok X.prog X.w X.K X.mg X.base (L2.CX X.prog X.w) k x ps sp) (hr : Room k X.A) (tk : Takes X W) (ha : PA X (e :: es) t) (hg : Gl X x := by rfl)
    (hdb : (x == ("__debug__" : Str)) = false := by decide) (he : starEach (e :: es) X.env = (false, eval e X.env) :: starEach es X.env := by rfl) (hpl : (backTo pos (starEach es X.env)).any (·.1) = false := by rfl) :
    PE X (.Call (.Name x p) (e :: es) [] pos) (tCallS sp (WE W) t) := by
  obtain ⟨f, fd, hm, hk, hb, G⟩ := D.ex
  exact pe_callS G hr hg hm hk hb (fun σ => passAt tk σ) ha hdb he hpl
end
/-! windows and words -/
def untx (z : Str) : List Nat := z.cps.toList.map (· - 97)
theorem untx_tx (l : List Nat) : untx (tx l) = l := by
  unfold untx
  rw [tx_cps, List.map_map]
  rw [show ((· - 97) ∘ (97 + ·) : Nat → Nat) = id from funext fun x => by show 97 + x - 97 = x; omega, List.map_id]
def wins (x : List Nat) (L : Nat) : List Str := (List.range x.length).map fun i => tx (cyc x L i)
theorem wins_len (x : List Nat) (L : Nat) : (wins x L).length = x.length := by
  unfold wins
  rw [List.length_map, List.length_range]
theorem wins_get {x : List Nat} {L i : Nat} (h : i < x.length) : (wins x L)[i]? = some (tx (cyc x L i)) := by
  unfold wins
  rw [List.getElem?_map, List.getElem?_range h]
  rfl
theorem wins_whole {x : List Nat} {L K : Nat} : (wins x L).Perm (words L K) ↔ whole x L K := by
  have e1 : wins x L = ((List.range x.length).map fun i => cyc x L i).map tx := by
    unfold wins
    rw [List.map_map]
    rfl
  have e2 : words L K = ((List.range (K ^ L)).map fun i => wdig L K i).map tx := by
    unfold words
    rw [List.map_map]
    rfl
  have un : ∀ l : List (List Nat), (l.map tx).map untx = l := fun l => by
    rw [List.map_map]
    rw [show (untx ∘ tx) = id from funext fun x => untx_tx x, List.map_id]
  rw [e1, e2]
  unfold whole
  constructor
  · intro h
    have := h.map untx
    rwa [un, un] at this
  · intro h
    exact h.map tx
theorem cyc_lt {x : List Nat} {L k n : Nat} (hx : ∀ d ∈ x, d < n) (h1 : 1 ≤ x.length) : ∀ d ∈ cyc x L k, d < n := fun d hd => by
  unfold cyc at hd
  obtain ⟨j, _, rfl⟩ := List.mem_map.mp hd
  have : (k + j) % x.length < x.length := Nat.mod_lt _ h1
  rw [List.getD_eq_getElem?_getD, List.getElem?_eq_getElem this]
  exact hx _ (List.getElem_mem _)
theorem ok_wins {x : List Nat} {L : Nat} (hx : ∀ d ∈ x, d < 6) (h : ∀ y ∈ wins x L, PyData.strOk y = true) : True := trivial
theorem wins_ok {x : List Nat} {L : Nat} (hx : ∀ d ∈ x, d < 6) : ∀ y ∈ wins x L, PyData.strOk y = true := fun y hy => by
  unfold wins at hy
  obtain ⟨i, hi, rfl⟩ := List.mem_map.mp hy
  exact ok_tx (cyc_lt hx (by have := List.mem_range.mp hi; omega))
/-- the test of sorted windows against all words -/
theorem sorted_wins {x : List Nat} {L K : Nat} {ys : List Str} (h1 : ys.Perm (wins x L)) (h2 : sortedS ys = true) : ys = words L K ↔ whole x L K := (sorted_words h1 h2).trans wins_whole
/-! a dict by numbers -/
def nkv (g : Nat → Str) (v : Nat → V) (n : Nat) : List (Key × V) := (List.range n).map fun i => ((Sum.inr (g i) : Key), v i)
theorem nkv_succ (g : Nat → Str) (v : Nat → V) (n : Nat) : nkv g v (n + 1) = nkv g v n ++ [((Sum.inr (g n) : Key), v n)] := by
  unfold nkv
  rw [List.range_succ, List.map_append]
  rfl
theorem nkv_none {g : Nat → Str} {v : Nat → V} {n : Nat} {z : Str} (h : ∀ j, j < n → g j ≠ z) : valV (nkv g v n) (Sum.inr z : Key) = none := by
  unfold valV
  rw [List.find?_eq_none.mpr]
  · rfl
  · intro y hy
    obtain ⟨i, hi, rfl⟩ := List.mem_map.mp hy
    simp only [decide_eq_true_eq]
    exact fun z => h i (List.mem_range.mp hi) (Sum.inr.inj z)
theorem nkv_val {g : Nat → Str} {v : Nat → V} : ∀ {n : Nat}, (∀ i j, i < n → j < n → g i = g j → i = j) → ∀ {p : Nat}, p < n → valV (nkv g v n) (Sum.inr (g p) : Key) = some (v p)
  | 0, _, p, h => absurd h (Nat.not_lt_zero _)
  | n + 1, hi, p, h => by
    rw [nkv_succ, valV_snoc _ _ _ _ (nkv_none fun j hj e => by have := hi j n (by omega) (by omega) e; omega)]
    by_cases c : p = n
    · subst c
      rw [if_pos rfl]
    · rw [if_neg (fun z => c (hi p n h (by omega) (Sum.inr.inj z))), nkv_val (fun i j a b => hi i j (by omega) (by omega)) (by omega)]
theorem nkv_len (g : Nat → Str) (v : Nat → V) (n : Nat) : (nkv g v n).length = n := by
  unfold nkv
  rw [List.length_map, List.length_range]
def nextL (x : List Nat) (L i : Nat) : Nat := x.getD ((i + L) % x.length) 0
abbrev mkv (x : List Nat) (L n : Nat) : List (Key × V) := nkv (fun i => tx (cyc x L i)) (fun i => V.str (tx [nextL x L i])) n
theorem whole.injW {x : List Nat} {L K : Nat} (h : whole x L K) : ∀ i j, i < x.length → j < x.length → tx (cyc x L i) = tx (cyc x L j) → i = j := fun i j hi hj e => h.inj hi hj (tx_inj e)
theorem mkv_at {x : List Nat} {L K i : Nat} (h : whole x L K) (hi : i < K ^ L) : valV (mkv x L x.length) (Sum.inr (word L K i) : Key) = some (V.str (tx [(mkr x L K).getD i 0])) := by
  obtain ⟨hp, e⟩ := h.at hi
  have := nkv_val (g := fun i => tx (cyc x L i)) (v := fun i => V.str (tx [nextL x L i])) h.injW hp
  rw [e] at this
  have e2 : (mkr x L K).getD i 0 = nextL x L (pos x L K i) := by
    rw [List.getD_eq_getElem?_getD]
    unfold mkr
    rw [List.getElem?_map, List.getElem?_range hi]
    rfl
  rw [e2]
  exact this
theorem DGet.mkv {H : Hp} {d : Addr} {x : List Nat} {L K i : Nat} (e : H d = some (.dK (mkv x L x.length))) (h : whole x L K) (hi : i < K ^ L) : DGet H d (.str (word L K i)) (some (V.str (tx [(mkr x L K).getD i 0]))) := by
  have := DGet.k (k := (Sum.inr (word L K i) : Key)) e
  rw [mkv_at h hi] at this
  exact this
theorem range_getD (l : List Nat) : ((List.range l.length).map fun i => l.getD i 0) = l := by
  refine List.ext_getElem? fun i => ?_
  rw [List.getElem?_map]
  rcases Nat.lt_or_ge i l.length with c | c
  · rw [List.getElem?_range c, List.getElem?_eq_getElem c]
    show some (l.getD i 0) = _
    rw [List.getD_eq_getElem?_getD, List.getElem?_eq_getElem c]
    rfl
  · rw [List.getElem?_eq_none (by rw [List.length_range]; exact c), List.getElem?_eq_none c]
    rfl
section
variable {P : Program} {w : World} {K : PySem.W.Frag} {mg : Str → Option Value} {base : Heap}
/-! made_of -/
def spMade (C CN : Addr) : Sp := fun vs H Q E => ∃ (x : List Nat) (m k : Nat), vs = [.str (tx x), .int ((m + 1 : Nat) : Int), .int k] ∧ Cfg m k ∧ sht x ∧
  (¬ whole x (m + 1) k → ∀ H', Same H H' → E (.ref CN) none H') ∧ (whole x (m + 1) k → ∀ H' q, Same H H' → H q = none → RuleT C H' q m k (mkr x (m + 1) k) → Q (.ref q) H')
theorem ok_made_of (T : Tx K mg) : Dok P w K mg base (L2.CX P w) 6 "made_of" ["ring", "length", "kinds"] (spMade (He.ga K "Rule") (He.ga K "NotOne")) := by
  obtain ⟨fd, F⟩ := T.f_made_of
  have D1 : Dok P w K mg base CX0 3 "size_asked" ["length", "kinds"] spSize := ok_size_asked T
  have D2 : Dok P w K mg base CX0 2 "has_letters" ["text", "kinds"] spHas := ok_has_letters T
  have D3 : Dok P w K mg base CX0 1 "windows" ["text", "length", "ring"] spWindows := ok_windows T
  have D4 : Dok P w K mg base CX0 4 "all_words" ["length", "kinds"] spAllWords := ok_all_words T
  obtain ⟨xP, kP, bP, tP⟩ := T.exc
  refine Dok.ofX F T.g_made_of sc_made_of (fun _ _ _ _ _ _ us hl => match us, hl with | [_, _, _], _ => rfl) (fun vs H Q E h => ?_) (fun cdv A outer s H vs Q E hr h => ?_)
  · obtain ⟨x, m, k, rfl, _⟩ := h
    rfl
  · obtain ⟨x, m, k, rfl, c, hx, qE, q⟩ := h
    have c1 := c.m7
    have c2 := c.sz
    have k1 := c.k1
    have k6 := c.k6
    have hn1 := c.pos
    have hu := hu_of hr
    have hr3 := hr.mono (j := 3) (by decide)
    have hr2 := hr.mono (j := 2) (by decide)
    have hr1 := hr.mono (j := 1) (by decide)
    have hr4 := hr.mono (j := 4) (by decide)
    refine ⟨_, pss_cons (ps_set (i := 3) sc_made_of.nd rfl (.inl rfl) (pcall D1 hr3 (pa_cons (pv 1) (pa_cons (pv 2) pa_nil))))
      (pss_cons (ps_if (PW.pt (pw_or (pt_cmpR op_ne (pe_callB call_len_str (by rfl) T.n_len PySem.boot_len (pa_cons (pv 0) pa_nil)) (pv 3) (nomark _)) (pw_or1 (pt_not (pt_val (pcall D2 hr2 (pa_cons (pv 0) (pa_cons (pv 2) pa_nil)))))))) (pss_one (ps_raise rfl (takes_of rfl rfl rfl rfl) (pmk_own PySem.F.excBase_ValueError xP T.g_NotOne kP (raises_own bP tP) (by exact rfl)))) pss_nil)
      (pss_cons (ps_set (i := 4) sc_made_of.nd rfl (.inl rfl) (pcall D3 hr1 (pa_cons (pv 0) (pa_cons (pv 1) (pa_cons pe_bl pa_nil)))))
      (pss_cons (ps_if (pt_cmpR (op_neD hr.units) (pe_callB cr_sortS (by rfl) T.n_sorted (by decide +kernel) (pa_cons (pv 4) pa_nil)) (pcall D4 hr4 (pa_cons (pv 1) (pa_cons (pv 2) pa_nil))) (nomark _)) (pss_one (ps_raise rfl (takes_of rfl rfl rfl rfl) (pmk_own PySem.F.excBase_ValueError xP T.g_NotOne kP (raises_own bP tP) (by exact rfl)))) pss_nil)
      (PSs.nox (pss_cons (ps_set (i := 5) sc_made_of.nd rfl (.inr rfl) pe_dnewK)
      (pss_cons (ps_for PassesOwn.never rfl (pi_enum rfl T.n_enumerate (pa_cons (pv 4) pa_nil)) (pg_tup rfl (pgs_cons (pg_name (i := 6) sc_made_of.nd rfl (.inl rfl)) (pgs_cons (pg_name (i := 7) sc_made_of.nd rfl (.inl rfl)) pgs_nil)))
        (pss_one (ps_dput hu (pv 5) (pv 7) (pe_ix ix_str (pv 0) (pe_op op_mod (pe_op op_add (pv 6) (pv 1)) (pv 3)) (fun _ _ => rfl)) rfl)))
      (pss_one (ps_ret (pe_rule T hr (pa_cons (pv 1) (pa_cons (pv 2) (pa_cons (pe_join pe_str (pe_lc (own := [("word", 7)]) (g := gName 7) (tt := tYes) rfl sc_made_of.nd (pi_list (pcall D4 hr4 (pa_cons (pv 1) (pa_cons (pv 2) pa_nil)))) (blkOk_by (N := n_made_of) (sc := defScope s_made_of) (by decide +kernel))
        (fun _ _ _ _ _ => pg_name (i := 7) sc_made_of.nd rfl (.inl rfl)) (fun _ _ _ _ _ => pts_nil) (fun _ _ _ _ _ => pe_dget hu (pv 5) (pv 7) (fun _ _ => rfl)))) pa_nil)))))))))))), ?_⟩
    have hxl : (tx x).length ≤ sizeLine := by rw [tx_len]; exact szl (by have := hx.1; omega)
    refine ⟨_, rfl, _, rfl, m, k, rfl, c, ?_⟩
    refine ⟨_, rfl, _, rfl, hxl, _, rfl, rfl, _, rfl, ?_⟩
    by_cases hlen : x.length = k ^ (m + 1)
    · refine iteNS (by rw [tx_len, hlen]) ?_
      refine ⟨_, rfl, _, rfl, x, k, rfl, k1, k6, _, rfl, ?_⟩
      by_cases hlt : ∀ d ∈ x, d < k
      · rw [decide_eq_true hlt]
        refine iteF ?_
        refine ⟨_, rfl, _, rfl, x, m + 1, rfl, by omega, by omega, by omega, by omega, fun H1 o s1 no ho => ?_⟩
        have ho' : H1 o = some (.lst ((wins x (m + 1)).map V.str)) := ho
        refine ⟨_, rfl, o, _, rfl, SqL.of ho', fun ys q1 hper hso n1 => ?_⟩
        have s2 := s1.trans (same_new (o := .lst (ys.map V.str)) n1)
        have hoq : o ≠ q1 := ne_of_none ho' n1
        refine ⟨_, rfl, _, rfl, m + 1, k, rfl, k1, k6, by omega, by omega, c2, fun H2 a s3 na ha => ?_⟩
        have hys : H2 q1 = some (.lst (ys.map V.str)) := s3 _ _ upd_same
        have s4 := s2.trans s3
        refine ⟨_, _, dp_strs (SqL.of hys), dp_strs (SqL.of ha), shaped_strs _ (fun y hy => wins_ok hx.2 y (hper.mem_iff.mp hy)), shaped_strs _ (ok_words k1 k6), _, rfl, ?_⟩
        rw [eqv_strs]
        by_cases hw : whole x (m + 1) k
        · rw [decide_eq_true ((sorted_wins hper hso).mpr hw)]
          refine iteF ?_
          intro d nd
          have ho2 : H2 o = some (.lst ((wins x (m + 1)).map V.str)) := by
            refine s3 _ _ ?_
            rw [upd_ne hoq]
            exact ho'
          have hod : o ≠ d := ne_of_none ho2 nd
          have ndH : H d = none := none_back s4 nd
          refine ⟨_, rfl, o, _, rfl, SqL.of (same_new nd _ _ ho2), for_it walk_enum (fun i σ H' => ∃ y6 y7, σ = [some (.str (tx x)), some (.int ((m + 1 : Nat) : Int)), some (.int k), some (.int ((k ^ (m + 1) : Nat) : Int)), some (.ref o), some (.ref d), y6, y7] ∧ Same H H' ∧ H' o = some (.lst ((wins x (m + 1)).map V.str)) ∧ H' d = some (.dK (mkv x (m + 1) i)))
            ⟨none, none, rfl, s4.trans (same_new nd), by rw [upd_ne hod]; exact ho2, upd_same⟩ (fun i σ H' _ ⟨_, _, _, _, z, _⟩ => SqL.of z) ?_ ?_⟩
          · rintro i v σ H3 H4 hi ⟨y6, y7, rfl, sm, ho3, hd3⟩ ⟨t, v1, v2, rfl, nt, rfl, h1, h2⟩
            rw [List.length_map, wins_len] at hi
            have e1 : V.int (i : Nat) = v1 := Option.some.inj h1
            subst e1
            have h2' : ((wins x (m + 1)).map V.str)[i]? = some v2 := h2
            rw [List.getElem?_map, wins_get hi] at h2'
            have e2 : V.str (tx (cyc x (m + 1) i)) = v2 := Option.some.inj h2'
            subst e2
            have smt := same_new (o := .tup [V.int (i : Nat), V.str (tx (cyc x (m + 1) i))]) nt
            have hd4 := smt _ _ hd3
            have hml : (i + (m + 1)) % x.length < x.length := Nat.mod_lt _ (by omega)
            have em : ((i : Int) + ((m + 1 : Nat) : Int)) % ((k ^ (m + 1) : Nat) : Int) = (((i + (m + 1)) % x.length : Nat) : Int) := by rw [hlen, ← Int.natCast_add, ← Int.natCast_emod]
            have eg : x[(i + (m + 1)) % x.length]? = some (nextL x (m + 1) i) := by
              unfold nextL
              rw [List.getD_eq_getElem?_getD, List.getElem?_eq_getElem hml]
              rfl
            refine ⟨t, _, rfl, SqT.of upd_same, rfl, _, _, rfl, _, _, rfl, rfl, ?_⟩
            refine ⟨_, rfl, _, rfl, _, rfl, _, _, rfl, rfl, _, rfl, _, _, rfl, rfl, by show (0 : Int) < _; omega, _, _, 97 + nextL x (m + 1) i, rfl, rfl, hxl, ?_, ?_⟩
            · show atI _ (((i : Int) + ((m + 1 : Nat) : Int)) % ((k ^ (m + 1) : Nat) : Int)) = _
              rw [em]
              exact at_tx eg
            · refine ⟨_, rfl, _, rfl, d, _, rfl, DPut.k (k := (Sum.inr (tx (cyc x (m + 1) i)) : Key)) hd4 (by rw [nkv_len]; exact szlt (by omega)), ?_⟩
              refine ⟨_, _, rfl, same_mut (sm.trans smt) ndH, ?_, ?_⟩
              · rw [upd_ne hod]
                exact smt _ _ ho3
              · rw [upd_same, putK_new _ (nkv_none fun j hj e => by have := hw.injW j i (by omega) hi e; omega), mkv, nkv_succ]
                rfl
          · rintro σ H3 ⟨y6, y7, rfl, sm, ho3, hd3⟩
            rw [List.length_map, wins_len] at hd3
            refine ⟨_, rfl, _, rfl, ⟨_, rfl⟩, _, rfl, _, rfl, m + 1, k, rfl, k1, k6, by omega, by omega, c2, fun H4 a2 sm4 na2 ha2 => ?_⟩
            refine ⟨a2, rfl, ⟨_, SqL.of ha2⟩, fun D hD => ?_⟩
            have hDH : H D = none := none_back (sm.trans sm4) hD
            have had : a2 ≠ D := ne_of_none ha2 hD
            have hd4 := sm4 _ _ hd3
            have hdD : d ≠ D := ne_of_none hd4 hD
            refine lc_it walk_list (fun i H' => Same H H' ∧ H' a2 = some (.lst ((words (m + 1) k).map V.str)) ∧ H' d = some (.dK (mkv x (m + 1) x.length)) ∧ H' D = some (.lst (((List.range i).map fun j => tx [(mkr x (m + 1) k).getD j 0]).map V.str)))
              ⟨(sm.trans sm4).trans (same_new hD), by rw [upd_ne had]; exact ha2, by rw [upd_ne hdD]; exact hd4, upd_same⟩ (fun i H' _ z => SqL.of z.2.1) ?_ ?_
            · rintro i y H5 H6 hi ⟨sm5, ha5, hd5, hD5⟩ ⟨rfl, hy⟩
              rw [List.length_map, words_len] at hi
              rw [List.getElem?_map, words_get hi] at hy
              have ex : V.str (word (m + 1) k i) = y := Option.some.inj hy
              subst ex
              refine ⟨rfl, yes_if ⟨_, rfl, _, rfl, d, _, rfl, DGet.mkv hd5 hw hi, _, hD5, ?_, same_mut sm5 hDH, ?_, ?_, ?_⟩⟩
              · rw [List.length_map, List.length_map, List.length_range]
                exact szlt (by omega)
              · rw [upd_ne had]
                exact ha5
              · rw [upd_ne hdD]
                exact hd5
              · rw [upd_same, List.range_succ, List.map_append, List.map_append]
                rfl
            · rintro H5 ⟨sm5, _, _, hD5⟩
              rw [List.length_map, words_len] at hD5
              have e0 : ((List.range (k ^ (m + 1))).map fun j => tx [(mkr x (m + 1) k).getD j 0]) = (mkr x (m + 1) k).map fun d => tx [d] := by
                have := range_getD (mkr x (m + 1) k)
                rw [mkr_len] at this
                conv => rhs; rw [← this]
                rw [List.map_map]
                rfl
              rw [e0] at hD5
              refine ⟨_, _, _, rfl, rfl, .inl (SqL.of hD5), ?_, ?_⟩
              · rw [ones_len _ (Str.ofString ""), List.length_map, mkr_len, ofs_empty_len]
                omega
              · rw [join_ones]
                exact rule_new c (mkr_len _ _ _) (hw.mkr_lt (by omega) k1) fun p' H' sm' hn' R' => q hw H' p' (sm5.trans sm') (none_back sm5 hn') R'
        · rw [decide_eq_false (fun z => hw ((sorted_wins hper hso).mp z))]
          refine iteT ?_
          exact qE hw H2 s4
      · rw [decide_eq_false hlt]
        refine iteT ?_
        exact qE (fun z => hlt (z.letters (by omega) k1)) H (Same.refl H)
    · rw [decide_eq_false (show ¬ V.int ((tx x).length : Nat) = V.int ((k ^ (m + 1) : Nat) : Int) from fun z => hlen (by
        have := V.int.inj z
        rw [tx_len] at this
        omega))]
      refine iteT ?_
      exact qE (fun z => hlen z.len) H (Same.refl H)
end
end RJ
set_option Elab.async false
set_option linter.all false
set_option maxRecDepth 100000
set_option maxHeartbeats 4000000
namespace RJ
open PySem PySem.Spec PyProof.Rows L2
section
variable {P : Program} {w : World} {K : PySem.W.Frag} {mg : Str → Option Value} {base : Heap}
/-! _law_made -/
def spLM : Sp := fun vs H Q _ => ∃ (x : List Nat) (m k : Nat), vs = [.str (tx x), .int ((m + 1 : Nat) : Int), .int k] ∧ Cfg m k ∧ sht x ∧
  ∀ H', Same H H' → (whole x (m + 1) k → Q (.str (tx (mkr x (m + 1) k))) H') ∧ (¬ whole x (m + 1) k → Q (.str (Str.ofString "one")) H')
theorem ok_law_made (T : Tx K mg) : Dok P w K mg base CX0 7 "_law_made" ["text", "length", "kinds"] spLM := by
  obtain ⟨fd, F⟩ := T.f_law_made
  have D1 : Dok P w K mg base (L2.CX P w) 6 "made_of" ["ring", "length", "kinds"] (spMade (He.ga K "Rule") (He.ga K "NotOne")) := ok_made_of T
  refine Dok.of F T.g_law_made sc_law_made (fun _ _ _ _ _ _ us hl => match us, hl with | [_, _, _], _ => rfl) (fun vs H Q E h => ?_) (fun cdv A outer s H vs Q E hr h => ?_)
  · obtain ⟨x, m, k, rfl, _⟩ := h
    rfl
  · obtain ⟨x, m, k, rfl, c, hx, q⟩ := h
    refine ⟨_, pss_cons (ps_set (i := 3) sc_law_made.nd rfl (.inl rfl) pe_non)
      (pss_cons (ps_try_only (tb := fun W => tAsg (tFld K (tCallS (spMade (He.ga K "Rule") (He.ga K "NotOne")) (WE W) (tCons (tVar 0) (tCons (tVar 1) (tCons (tVar 2) tNil)))) "told") (gName 3)) (ts := fun _ _ _ => tAsg (tC (.str (Str.ofString "one"))) (gName 3)) rfl rfl ⟨rfl, by decide, .inl T.g_NotOne⟩ takes0
        (fun W pn xe tk _ => pss_one (ps_set (i := 3) sc_law_made.nd rfl (.inl rfl) (by exact (pe_fld (pcallT D1 hr tk (by exact (pa_cons (pv 0) (pa_cons (pv 1) (pa_cons (pv 2) pa_nil))))) (by exact rfl)))))
        (fun a oe cls d pn _ _ => pss_one (ps_set (i := 3) sc_law_made.nd rfl (.inl rfl) pe_str)))
      (pss_one (ps_ret (pv 3)))), ?_⟩
    refine ⟨_, rfl, _, rfl, _, rfl, x, m, k, rfl, c, hx, fun hw H' sm => ?_, fun hw H' p sm np R => ?_⟩
    · exact ⟨true, T.exm, fun _ a ha => ⟨_, rfl, (q H' sm).2 hw⟩, fun z => nomatch z⟩
    · obtain ⟨dx, hp⟩ := R
      exact ⟨p, _, dx, _, _, rfl, hp, T.cls, T.no_told, rfs_told _ _ _, _, rfl, (q H' sm).1 hw⟩
/-! _law_slips_right -/
def spRight : Sp := fun vs H Q _ => ∃ (x : List Nat) (a : Addr) (m k : Nat) (n : Int), vs = [.str (tx x), .ref a, .int ((m + 1 : Nat) : Int), .int k, .int n] ∧ Cfg m k ∧ 1 ≤ x.length ∧ x.length ≤ 64 ∧ (∀ d ∈ x, d < 6) ∧ H a = some (.lst ((words (m + 1) k).map V.str)) ∧ ∀ H', Q (.bl true) H'
theorem rept_at {r : Nat} {x : List Nat} {i : Nat} (h : i < r * x.length) : (rept r x)[i]? = some (x.getD (i % x.length) 0) := rept_get r x i h
theorem ok_law_slips_right (T : Tx K mg) : Dok P w K mg base CX0 8 "_law_slips_right" ["ring", "words", "length", "kinds", "n"] spRight := by
  obtain ⟨fd, F⟩ := T.f_law_slips_right
  have D1 : Dok P w K mg base CX0 1 "_law_slips" ["ring", "n"] spSlips := ok_law_slips T
  have D2 : Dok P w K mg base CX0 7 "_law_made" ["text", "length", "kinds"] spLM := ok_law_made T
  refine Dok.of F T.g_law_slips_right sc_law_slips_right (fun _ _ _ _ _ _ us hl => match us, hl with | [_, _, _, _, _], _ => rfl) (fun vs H Q E h => ?_) (fun cdv A outer s H vs Q E hr h => ?_)
  · obtain ⟨x, a, m, k, n, rfl, _⟩ := h
    rfl
  · obtain ⟨x, a, m, k, n, rfl, c, hx1, hx64, hx6, ha, q⟩ := h
    have c1 := c.m7
    have c2 := c.sz
    have k1 := c.k1
    have k6 := c.k6
    have hu := hu_of hr
    refine ⟨_, pss_cons (ps_for PassesOwn.never rfl (pi_list (pcall D1 (hr.mono (by decide)) (pa_cons (pv 0) (pa_cons (pv 4) pa_nil)))) (pg_name (i := 5) sc_law_slips_right.nd rfl (.inl rfl))
        (pss_cons (ps_set (i := 6) sc_law_slips_right.nd rfl (.inr rfl) (pe_op op_mulS (pv 5) (pe_op op_add (pv 2) pe_int)))
        (pss_cons (ps_setLc (i := 8) (own := [("k", 7)]) (g := gName 7) (tt := tYes) rfl sc_law_slips_right.nd rfl rfl (sw_true rfl rfl rfl (by decide +kernel)) (pi_range1 rfl T.n_range (pa_cons (pe_callB call_len_str (by rfl) T.n_len PySem.boot_len (pa_cons (pv 5) pa_nil)) pa_nil)) (blkOk_by (N := n_law_slips_right) (sc := defScope s_law_slips_right) (by decide +kernel))
          (fun _ _ _ _ _ => pg_name (i := 7) sc_law_slips_right.nd rfl (.inl rfl)) (fun _ _ _ _ _ => pts_nil) (fun _ _ _ _ _ => pe_slice sl_str (pv 6) (po_some (pv 7)) (po_some (pe_op op_add (pv 7) (pv 2)))))
        (pss_cons (ps_set (i := 9) sc_law_slips_right.nd rfl (.inl rfl) pe_str)
        (pss_cons (ps_if (pt_cmpR (op_eqD hr.units) (pe_callB cr_sortS (by rfl) T.n_sorted (by decide +kernel) (pa_cons (pv 8) pa_nil)) (pv 1) (nomark _))
          (pss_cons (ps_set (i := 10) sc_law_slips_right.nd rfl (.inr rfl) pe_dnewK)
          (pss_cons (ps_for PassesOwn.never rfl (pi_range1 rfl T.n_range (pa_cons (pe_callB call_len_str (by rfl) T.n_len PySem.boot_len (pa_cons (pv 5) pa_nil)) pa_nil)) (pg_name (i := 7) sc_law_slips_right.nd rfl (.inl rfl))
            (pss_one (ps_dput hu (pv 10) (pe_ix ix_list (pv 8) (pv 7) (fun _ _ => rfl)) (pe_ix ix_str (pv 6) (pe_op op_add (pv 7) (pv 2)) (fun _ _ => rfl)) rfl)))
          (pss_one (ps_set (i := 9) sc_law_slips_right.nd rfl (.inl rfl) (pe_join pe_str (pe_lc (own := [("word", 11)]) (g := gName 11) (tt := tYes) rfl sc_law_slips_right.nd (pi_list (pv 1)) (blkOk_by (N := n_law_slips_right) (sc := defScope s_law_slips_right) (by decide +kernel))
            (fun _ _ _ _ _ => pg_name (i := 11) sc_law_slips_right.nd rfl (.inl rfl)) (fun _ _ _ _ _ => pts_nil) (fun _ _ _ _ _ => pe_dget hu (pv 10) (pv 11) (fun _ _ => rfl))))))))
          pss_nil)
        (pss_one (ps_if (pt_cmpR op_ne (pcall D2 hr (pa_cons (pv 5) (pa_cons (pv 2) (pa_cons (pv 3) pa_nil)))) (pv 9) (nomark _)) (pss_one (ps_ret pe_bl)) pss_nil)))))))
      (pss_one (ps_ret pe_bl)), ?_⟩
    refine ⟨_, rfl, _, rfl, x, n, rfl, hx1, hx64, hx6, fun H1 o ts s1 hts hlen ho => ?_⟩
    refine ⟨o, rfl, ⟨_, SqL.of ho⟩, for_it walk_list (fun i σ H' => ∃ y5 y6 y7 y8 y9 y10 y11, σ = [some (.str (tx x)), some (.ref a), some (.int ((m + 1 : Nat) : Int)), some (.int k), some (.int n), y5, y6, y7, y8, y9, y10, y11] ∧ Same H H' ∧ Same H1 H')
      ⟨none, none, none, none, none, none, none, rfl, s1, Same.refl _⟩ (fun i σ H' _ ⟨_, _, _, _, _, _, _, _, _, z⟩ => SqL.of (z _ _ ho)) ?_ ?_⟩
    · rintro i v σ H2 H3 hi ⟨y5, y6, y7, y8, y9, y10, y11, rfl, sm, sm1⟩ ⟨rfl, hv⟩
      obtain ⟨l, hl, rfl⟩ : ∃ l, l ∈ ts ∧ V.str (tx l) = v := by
        unfold strsV at hv
        rw [List.map_map, List.getElem?_map] at hv
        obtain ⟨l, hl, e⟩ := Option.map_eq_some_iff.mp hv
        exact ⟨l, List.mem_of_getElem? hl, e⟩
      have hst := hts l hl
      have hll := hst.1
      have hll2 : (tx l).length ≤ sizeLine := by rw [tx_len]; exact szl (by omega)
      refine ⟨_, rfl, _, rfl, _, _, rfl, rfl, tx l, ((m + 2 : Nat) : Int), rfl, ?_, by omega, by omega, by rw [tx_len]; omega, ?_⟩
      · show V.int (((m + 1 : Nat) : Int) + 1) = _
        congr 1
      rw [mul_tx l (m + 2) (by omega)]
      have hrl : (rept (m + 2) l).length = (m + 2) * l.length := rept_len _ _
      have hrb : (m + 2) * l.length ≤ 9 * 128 := Nat.mul_le_mul (by omega) hll
      have hrs : (tx (rept (m + 2) l)).length ≤ sizeLine := by rw [tx_len, hrl]; exact szl (by omega)
      have hin : ∀ j, j < l.length → j + (m + 1) < (m + 2) * l.length := fun j hj => by
        have e : (m + 2) * l.length = (m + 1) * l.length + l.length := Nat.succ_mul _ _
        have := Nat.le_mul_of_pos_right (m + 1) (show 0 < l.length by omega)
        omega
      refine ⟨_, rfl, _, rfl, hll2, _, rfl, by rw [tx_len]; omega, by rw [tx_len]; omega, fun D hD => ?_⟩
      have nDH : H D = none := none_back sm hD
      have nDH1 : H1 D = none := none_back sm1 hD
      refine lc_it walk_rng (fun j H' => Same H H' ∧ Same H1 H' ∧ H' D = some (.lst (((List.range j).map fun t => tx (cyc l (m + 1) t)).map V.str)))
        ⟨sm.trans (same_new hD), sm1.trans (same_new hD), upd_same⟩ (fun _ _ _ _ => trivial) ?_ ?_
      · rintro j y H4 H5 hj ⟨sm4, sm5, hD4⟩ ⟨rfl, rfl⟩
        rw [Int.toNat_natCast, tx_len] at hj
        refine ⟨rfl, yes_if ⟨_, rfl, _, rfl, _, rfl, _, rfl, _, rfl, _, _, rfl, rfl, _, rfl, tx (rept (m + 2) l), rfl, hrs, _, hD4, ?_, same_mut sm4 nDH, same_mut sm5 nDH1, ?_⟩⟩
        · rw [List.length_map, List.length_map, List.length_range]
          exact szlt (by omega)
        · have e3 : (j : Int) + ((m + 1 : Nat) : Int) = ((j + (m + 1) : Nat) : Int) := by omega
          rw [upd_same, e3, cut_mid, Nat.add_sub_cancel_left, rept_cut (by have := hin j hj; omega), List.range_succ, List.map_append, List.map_append]
          rfl
      · rintro H4 ⟨sm4, sm5, hD4⟩
        rw [Int.toNat_natCast, tx_len] at hD4
        have hD5 : H4 D = some (.lst ((wins l (m + 1)).map V.str)) := hD4
        refine ⟨_, rfl, D, _, rfl, SqL.of hD5, fun ys q1 hper hso n1 => ?_⟩
        have s6 := sm4.trans (same_new (o := .lst (ys.map V.str)) n1)
        have s7 := sm5.trans (same_new (o := .lst (ys.map V.str)) n1)
        have hDq : D ≠ q1 := ne_of_none hD5 n1
        have hD6 := same_new (o := .lst (ys.map V.str)) n1 _ _ hD5
        refine ⟨_, rfl, _, _, dp_strs (SqL.of upd_same), dp_strs (SqL.of (s6 _ _ ha)), shaped_strs _ (fun y hy => wins_ok hst.2 y (hper.mem_iff.mp hy)), shaped_strs _ (ok_words k1 k6), _, rfl, ?_⟩
        rw [eqv_strs]
        by_cases hw : whole l (m + 1) k
        · rw [decide_eq_true ((sorted_wins hper hso).mpr hw)]
          refine iteT ?_
          have hl1 : 1 ≤ l.length := by rw [hw.len]; exact c.pos
          intro d nd
          have hDd : D ≠ d := ne_of_none hD6 nd
          have ndH : H d = none := none_back s6 nd
          have ndH1 : H1 d = none := none_back s7 nd
          refine ⟨_, rfl, _, rfl, hll2, _, rfl, by rw [tx_len]; omega, by rw [tx_len]; omega, for_it walk_rng (fun j σ H' => ∃ y7, σ = [some (.str (tx x)), some (.ref a), some (.int ((m + 1 : Nat) : Int)), some (.int k), some (.int n), some (.str (tx l)), some (.str (tx (rept (m + 2) l))), y7, some (.ref D), some (.str (Str.ofString "one")), some (.ref d), y11] ∧ Same H H' ∧ Same H1 H' ∧ H' D = some (.lst ((wins l (m + 1)).map V.str)) ∧ H' d = some (.dK (mkv l (m + 1) j)))
            ⟨_, rfl, s6.trans (same_new nd), s7.trans (same_new nd), by rw [upd_ne hDd]; exact hD6, upd_same⟩ (fun _ _ _ _ _ => trivial) ?_ ?_⟩
          · rintro j y σ H7 H8 hj ⟨y7, rfl, sm8, sm9, hD8, hd8⟩ ⟨rfl, rfl⟩
            rw [Int.toNat_natCast, tx_len] at hj
            have e3 : (j : Int) + ((m + 1 : Nat) : Int) = ((j + (m + 1) : Nat) : Int) := by omega
            refine ⟨_, rfl, _, rfl, _, rfl, _, _, rfl, rfl, _, _, 97 + nextL l (m + 1) j, rfl, rfl, hrs, by rw [e3]; exact at_tx (rept_get _ _ _ (hin j hj)), _, rfl, _, rfl, _, rfl, D, _, _, V.str (tx (cyc l (m + 1) j)), rfl, rfl, SqL.of hD8, atI_nat (by rw [List.getElem?_map, wins_get hj]; rfl), d, _, rfl, DPut.k (k := (Sum.inr (tx (cyc l (m + 1) j)) : Key)) hd8 (by rw [nkv_len]; exact szlt (by omega)), ?_⟩
            refine ⟨_, rfl, same_mut sm8 ndH, same_mut sm9 ndH1, ?_, ?_⟩
            · rw [upd_ne hDd]
              exact hD8
            · rw [upd_same, putK_new _ (nkv_none fun t ht e => by have := hw.injW t j (by omega) hj e; omega), mkv, nkv_succ]
              rfl
          · rintro σ H7 ⟨y7, rfl, sm8, sm9, hD8, hd8⟩
            rw [Int.toNat_natCast, tx_len] at hd8
            refine ⟨⟨_, rfl⟩, _, rfl, a, rfl, ⟨_, SqL.of (sm8 _ _ ha)⟩, fun G hG => ?_⟩
            have nGH : H G = none := none_back sm8 hG
            have nGH1 : H1 G = none := none_back sm9 hG
            have hdG : d ≠ G := ne_of_none hd8 hG
            refine lc_it walk_list (fun i H' => Same H H' ∧ Same H1 H' ∧ H' d = some (.dK (mkv l (m + 1) l.length)) ∧ H' G = some (.lst (((List.range i).map fun j => tx [(mkr l (m + 1) k).getD j 0]).map V.str)))
              ⟨sm8.trans (same_new hG), sm9.trans (same_new hG), by rw [upd_ne hdG]; exact hd8, upd_same⟩ (fun i H' _ z => SqL.of (z.1 _ _ ha)) ?_ ?_
            · rintro i y H8 H9 hi ⟨sm10, sm11, hd10, hG10⟩ ⟨rfl, hy⟩
              rw [List.length_map, words_len] at hi
              rw [List.getElem?_map, words_get hi] at hy
              have ex : V.str (word (m + 1) k i) = y := Option.some.inj hy
              subst ex
              refine ⟨rfl, yes_if ⟨_, rfl, _, rfl, d, _, rfl, DGet.mkv hd10 hw hi, _, hG10, ?_, same_mut sm10 nGH, same_mut sm11 nGH1, ?_, ?_⟩⟩
              · rw [List.length_map, List.length_map, List.length_range]
                exact szlt (by omega)
              · rw [upd_ne hdG]
                exact hd10
              · rw [upd_same, List.range_succ, List.map_append, List.map_append]
                rfl
            · rintro H8 ⟨sm10, sm11, _, hG10⟩
              rw [List.length_map, words_len] at hG10
              have e0 : ((List.range (k ^ (m + 1))).map fun j => tx [(mkr l (m + 1) k).getD j 0]) = (mkr l (m + 1) k).map fun d => tx [d] := by
                have := range_getD (mkr l (m + 1) k)
                rw [mkr_len] at this
                conv => rhs; rw [← this]
                rw [List.map_map]
                rfl
              rw [e0] at hG10
              refine ⟨_, _, _, rfl, rfl, .inl (SqL.of hG10), ?_, ?_⟩
              · rw [ones_len _ (Str.ofString ""), List.length_map, mkr_len, ofs_empty_len]
                omega
              · rw [join_ones]
                refine ⟨_, rfl, _, rfl, _, rfl, l, m, k, rfl, c, hst, fun H11 sm12 => ⟨fun _ => ?_, fun z => absurd hw z⟩⟩
                exact ⟨_, rfl, rfl, _, rfl, iteNS rfl ⟨_, _, _, _, _, _, _, rfl, sm10.trans sm12, sm11.trans sm12⟩⟩
        · rw [decide_eq_false (fun z => hw ((sorted_wins hper hso).mp z))]
          refine iteF ?_
          refine ⟨_, rfl, _, rfl, _, rfl, l, m, k, rfl, c, hst, fun H11 sm12 => ⟨fun z => absurd z hw, fun _ => ?_⟩⟩
          exact ⟨_, rfl, rfl, _, rfl, iteNS rfl ⟨_, _, _, _, _, _, _, rfl, s6.trans sm12, s7.trans sm12⟩⟩
    · rintro σ H' ⟨y5, y6, y7, y8, y9, y10, y11, rfl, sm, _⟩
      exact q H'
end
end RJ
set_option Elab.async false
set_option linter.all false
set_option maxRecDepth 100000
set_option maxHeartbeats 4000000
namespace RJ
open PySem PySem.Spec PyProof.Rows L2
theorem tf_nx {m k : Nat} {t : List Nat} (ht : ∀ d ∈ t, d < k) (hl : t.length = k ^ (m + 1)) (hk : 0 < k) : tf m k (nx m k t) = t := by
  have e := range_getD t
  rw [hl] at e
  conv => rhs; rw [← e]
  unfold tf
  refine List.map_congr_left fun i hi => ?_
  exact (nx_lt ht hl (List.mem_range.mp hi) hk).2.2.1
theorem ok_word {L k i : Nat} (hk : 0 < k) (h6 : k ≤ 6) : PyData.strOk (word L k i) = true := ok_tx fun d hd => by
  have := wdig_lt hk d hd
  omega
theorem depth_pair (L k : Nat) (p : Nat × Nat) : PyData.depth (pairD L k p) ≤ 1 := by
  unfold pairD
  simp only [PyData.depth, PyData.depthAll]
  decide
theorem depth_pairs (L k : Nat) : ∀ ps : List (Nat × Nat), PyData.depthAll (ps.map (pairD L k)) ≤ 1
  | [] => Nat.zero_le _
  | p :: ps => by
    show max (PyData.depth (pairD L k p)) (PyData.depthAll (ps.map (pairD L k))) ≤ 1
    have := depth_pair L k p
    have := depth_pairs L k ps
    omega
theorem lay_pairs {L k : Nat} (hk : 0 < k) (h6 : k ≤ 6) : ∀ ps : List (Nat × Nat), PyData.canLayAll0 (ps.map (pairD L k)) = true
  | [] => rfl
  | p :: ps => by
    show (PyData.canLay0 (pairD L k p) && PyData.canLayAll0 (ps.map (pairD L k))) = true
    rw [lay_pairs hk h6 ps, Bool.and_true]
    unfold pairD
    simp only [PyData.canLay0, PyData.canLayAll0, ok_word hk h6, Bool.and_true]
theorem shaped_pairs {L k : Nat} (hk : 0 < k) (h6 : k ≤ 6) (ps : List (Nat × Nat)) : SeqAt.shaped (.list (ps.map (pairD L k))) = true := by
  show (PyData.canLay0 (.list (ps.map (pairD L k))) && decide (PyData.depth (.list (ps.map (pairD L k))) ≤ 64)) = true
  rw [Bool.and_eq_true]
  refine ⟨by simp only [PyData.canLay0]; exact lay_pairs hk h6 ps, decide_eq_true ?_⟩
  simp only [PyData.depth]
  have := depth_pairs L k ps
  omega
def iis (a b : Int) (t : Str) : PyData := .tuple [.int a, .int b, .str t]
theorem shaped_iis (a b : Int) {t : Str} (h : PyData.strOk t = true) : SeqAt.shaped (iis a b t) = true := by
  unfold iis
  show (PyData.canLay0 (.tuple [.int a, .int b, .str t]) && decide (PyData.depth (.tuple [.int a, .int b, .str t]) ≤ 64)) = true
  rw [Bool.and_eq_true]
  refine ⟨by simp only [PyData.canLay0, PyData.canLayAll0, h, Bool.and_true], decide_eq_true ?_⟩
  simp only [PyData.depth, PyData.depthAll]
  decide
/-- the one ring of the joined rule -/
theorem one_ring {m k : Nat} {f : Nat → Nat} (hk : 0 < k) (Fo : FolR m k f) :
    FolR m k (joinAt m k f (prs (k ^ (m + 1)) (k ^ m))).1 ∧ (joinAt m k f (prs (k ^ (m + 1)) (k ^ m))).2.length + 1 = cnt f (k ^ (m + 1)) ∧ lead (joinAt m k f (prs (k ^ (m + 1)) (k ^ m))).1 (k ^ (m + 1)) = [0] ∧
    ∀ x y, x < k ^ (m + 1) → y < k ^ (m + 1) → same (joinAt m k f (prs (k ^ (m + 1)) (k ^ m))).1 x y := by
  have hok : ∀ p ∈ prs (k ^ (m + 1)) (k ^ m), p.1 < k ^ (m + 1) ∧ p.2 < k ^ (m + 1) ∧ p.1 % k ^ m = p.2 % k ^ m := fun p hp => by
    have := mem_prs.mp hp
    exact ⟨this.1, this.2.1, this.2.2.2⟩
  have J := join_jn Fo hok
  have one := Fol.one hk J.f J.s
  have hl := cnt_one J.f.b (Nat.pow_pos hk) one
  refine ⟨J.f, ?_, hl, one⟩
  have h1 := J.c
  have h2 : cnt (joinAt m k f (prs (k ^ (m + 1)) (k ^ m))).1 (k ^ (m + 1)) = 1 := by
    unfold cnt
    rw [hl]
    rfl
  omega
theorem shaped_refl {d : PyData} (h : SeqAt.shaped d = true) : PyData.eqv d d = true := by
  have h2 : (PyData.canLay0 d && decide (PyData.depth d ≤ 64)) = true := h
  rw [Bool.and_eq_true] at h2
  exact SeqAt.eqv_refl d h2.1
end RJ
set_option Elab.async false
set_option linter.all false
set_option maxRecDepth 100000
set_option maxHeartbeats 4000000
namespace RJ
open PySem PySem.Spec PyProof.Rows L2
section
variable {P : Program} {w : World} {K : PySem.W.Frag} {mg : Str → Option Value} {base : Heap}
def spLaw (K : PySem.W.Frag) : Sp := fun vs H Q _ => ∃ (s : Addr) (ns : List Int), vs = [.ref s] ∧ SqL K H s (ns.map V.int) ∧ ns.length ≤ 50000 ∧ ∀ H', Q (.bl true) H'
theorem fn_nox {k : Nat} {x : Str} {N ps : List Str} {sp : Sp} {params : Arguments} {body : List Stmt} {scope : Scope} {f : Addr} {fd : FuncData} (F : FunD K x x params body scope [] [] f fd) (S : FnScope N ps scope)
    (len : ∀ vs H Q E, sp vs H Q E → vs.length = ps.length)
    (h : ∀ (cdv : Value) (A : Around) (outer : List Env) (s : Shared) (H : Hp) (vs : List V) (Q : VK) (E : XK), Room k (A.deeper (envOfC x scope s.heap.objs.size f cdv)) → sp vs H Q E →
      ∃ t, PSs (cxOf CX0 P w K mg base N x scope f cdv A outer s H E).nox body t ∧ t { nx := fun _ H' => Q .non H', rt := Q } (start N vs) H) : FnOk P w K mg base CX0 (k + 1) f fd ps sp :=
  F.ok S len fun cdv A outer s H vs Q E hr hs => by
    obtain ⟨t, h1, h2⟩ := h cdv A outer s H vs Q E hr hs
    exact ⟨t, h1.nox, h2⟩
theorem rule_new1 {C : Addr} {H : Hp} {m k : Nat} {t : List Nat} {Qx : Hp → Prop} {x dx : Addr} (c : Cfg m k) (hl : t.length = k ^ (m + 1)) (ht : ∀ d ∈ t, d < k) (hx : H x = none) (hdx : H dx = none) (h : ∀ H', Same H H' → RuleT C H' x m k t → Qx H') :
    spInit C (.ref x :: ([.int ((m + 1 : Nat) : Int), .int k, .str (tx t)] ++ [])) (upd (upd H dx (.own x)) x (.ins C dx [])) (fun v H2 => v = .non ∧ Qx H2) E0 := by
  refine ⟨x, dx, m, k, t, rfl, c, hl, ht, upd_same, rfl, h _ ?_ ⟨dx, upd_same⟩⟩
  rw [upd_upd]
  exact same_mut (same_new hdx) hx
theorem ok_law (T : Tx K mg) {fd : FuncData} (F : FunD K "law" "law" (defArgs s_law) (defBody s_law) (defScope s_law) [] [] (He.ga K "law") fd) : FnOk P w K mg base CX0 9 (He.ga K "law") fd ["script"] (spLaw K) := by
  have D1 : Dok P w K mg base CX0 1 "_law_size" ["cell"] spLawSize := ok_law_size T
  have D2 : Dok P w K mg base CX0 1 "_law_words" ["length", "kinds"] spAllWords := ok_law_words T
  have D3 : Dok P w K mg base CX0 2 "_law_fair" ["script", "length", "kinds"] (spFairT K) := ok_law_fair T
  have D4 : Dok P w K mg base CX0 7 "rounds" ["rule"] (spRounds (He.ga K "Rule")) := ok_rounds T
  have D5 : Dok P w K mg base CX0 2 "_law_joined" ["words", "told"] spLJ := ok_law_joined T
  have D6 : Dok P w K mg base CX0 7 "joined" ["rule"] (spJoined (He.ga K "Rule")) := ok_joined T
  have D7 : Dok P w K mg base CX0 1 "_law_rounds" ["words", "behind"] spLR := ok_law_rounds T
  have D8 : Dok P w K mg base (L2.CX P w) 6 "made_of" ["ring", "length", "kinds"] (spMade (He.ga K "Rule") (He.ga K "NotOne")) := ok_made_of T
  have D9 : Dok P w K mg base CX0 8 "_law_slips_right" ["ring", "words", "length", "kinds", "n"] spRight := ok_law_slips_right T
  have D10 : Dok P w K mg base CX0 1 "_law_stir" ["cell", "k"] spStir := ok_law_stir T
  refine fn_nox F sc_law (fun vs H Q E h => ?_) (fun cdv A outer s H vs Q E hr h => ?_)
  · obtain ⟨s, ns, rfl, _⟩ := h
    rfl
  · obtain ⟨sc, ns, rfl, hS, hns, q⟩ := h
    have hu := hu_of hr
    refine ⟨_, pss_cons (ps_set (i := 1) sc_law.nd rfl (.inl rfl) (pe_op op_mod (pe_op op_mul (pe_callB (cr_sum rfl) (by rfl) T.n_sum (by decide +kernel) (pa_cons (pv 0) pa_nil)) pe_int) pe_int))
      (pss_cons (ps_asg (pcall D1 (hr.mono (by decide)) (pa_cons (pe_op op_fdiv (pv 1) pe_int) pa_nil)) (pg_tup rfl (pgs_cons (pg_name (i := 2) sc_law.nd rfl (.inr rfl)) (pgs_cons (pg_name (i := 3) sc_law.nd rfl (.inl rfl)) pgs_nil))))
      (pss_cons (ps_set (i := 4) sc_law.nd rfl (.inl rfl) (pcall D2 (hr.mono (by decide)) (pa_cons (pv 2) (pa_cons (pv 3) pa_nil))))
      (pss_cons (ps_set (i := 5) sc_law.nd rfl (.inl rfl) (pcall D3 (hr.mono (by decide)) (pa_cons (pv 0) (pa_cons (pv 2) (pa_cons (pv 3) pa_nil)))))
      (pss_cons (ps_set (i := 6) sc_law.nd rfl (.inl rfl) (pe_rule T (hr.mono (by decide)) (pa_cons (pv 2) (pa_cons (pv 3) (pa_cons (pv 5) pa_nil)))))
      (pss_cons (ps_set (i := 7) sc_law.nd rfl (.inl rfl) (pe_callB call_len_seq (by rfl) T.n_len PySem.boot_len (pa_cons (pcall D4 (hr.mono (by decide)) (pa_cons (pv 6) pa_nil)) pa_nil)))
      (pss_cons (ps_asg (pcall D5 (hr.mono (by decide)) (pa_cons (pv 4) (pa_cons (pv 5) pa_nil))) (pg_tup rfl (pgs_cons (pg_name (i := 8) sc_law.nd rfl (.inr rfl)) (pgs_cons (pg_name (i := 9) sc_law.nd rfl (.inl rfl)) pgs_nil))))
      (pss_cons (ps_set (i := 10) sc_law.nd rfl (.inl rfl) (pcall D6 (hr.mono (by decide)) (pa_cons (pv 6) pa_nil)))
      (pss_cons (ps_if (PW.pt (pw_or (pt_not (pt_val (pe_callB call_isi (by rfl) T.n_isinstance (by decide +kernel) (pa_cons (pv 10) (pa_cons (pe_bltn (v := .ty "tuple") (by rfl) T.n_tuple (by decide +kernel) rfl) pa_nil))))) (pw_or (pt_cmpR op_ne (pe_callB call_len_seq (by rfl) T.n_len PySem.boot_len (pa_cons (pv 10) pa_nil)) (pe_int) (nomark _)) (pw_or (pt_not (pt_val (pe_callB call_isi (by rfl) T.n_isinstance (by decide +kernel) (pa_cons (pe_ix ix_tup (pv 10) pe_int (fun _ _ => rfl)) (pa_cons (pe_bltn (v := .ty "list") (by rfl) T.n_list (by decide +kernel) rfl) pa_nil))))) (pw_or1 (pt_cmpR (op_neD hr.units) (pe_ix ix_tup (pv 10) pe_int (fun _ _ => rfl)) (pv 9) (nomark _))))))) (pss_one (ps_ret pe_bl)) pss_nil)
      (pss_cons (ps_if (PW.pt (pw_or (pt_cmpR op_ne (pe_callB call_len_seq (by rfl) T.n_len PySem.boot_len (pa_cons (pv 9) pa_nil)) (pe_op op_sub (pv 7) pe_int) (nomark _)) (pw_or1 (pt_cmpR op_ne (pe_fld (pv 6) rfl) (pv 5) (nomark _))))) (pss_one (ps_ret pe_bl)) pss_nil)
      (pss_cons (ps_if (pt_cmpR op_ne (pe_fld (pe_ix ix_tup (pv 10) pe_int (fun _ _ => rfl)) rfl) (pe_join pe_str (pe_lc (own := [("word", 17)]) (g := gName 17) (tt := tYes) rfl sc_law.nd (pi_list (pv 4)) (blkOk_by (N := n_law) (sc := defScope s_law) (by decide +kernel)) (fun _ _ _ _ _ => pg_name (i := 17) sc_law.nd rfl (.inl rfl)) (fun _ _ _ _ _ => pts_nil) (fun _ _ _ _ _ => pe_ix ix_str (pe_dget hu (pv 8) (pv 17) (fun _ _ => rfl)) (pe_un un_neg pe_int) (fun _ _ => rfl)))) (nomark _)) (pss_one (ps_ret pe_bl)) pss_nil)
      (pss_cons (ps_expr (pe_bm PySem.F.plainAttrs_list PySem.F.slot_list_append PySem.F.type_list_append mt_append (pe_ix ix_tup (pv 10) pe_int (fun _ _ => rfl)) (pa_cons (pe_tup (pa_cons (pe_str) (pa_cons (pe_str) pa_nil))) pa_nil)))
      (pss_cons (ps_if (pt_cmpR (op_neD hr.units) (pe_ix ix_tup (pcall D6 (hr.mono (by decide)) (pa_cons (pv 6) pa_nil)) pe_int (fun _ _ => rfl)) (pv 9) (nomark _)) (pss_one (ps_ret pe_bl)) pss_nil)
      (pss_cons (ps_set (i := 11) sc_law.nd rfl (.inl rfl) (pcall D4 (hr.mono (by decide)) (pa_cons (pe_ix ix_tup (pv 10) pe_int (fun _ _ => rfl)) pa_nil)))
      (pss_cons (ps_if (PW.pt (pw_or (pt_cmpR (op_neD hr.units) (pv 11) (pcall D7 (hr.mono (by decide)) (pa_cons (pv 4) (pa_cons (pv 8) pa_nil))) (nomark _)) (pw_or1 (pt_cmpR op_ne (pe_callB call_len_seq (by rfl) T.n_len PySem.boot_len (pa_cons (pv 11) pa_nil)) (pe_int) (nomark _))))) (pss_one (ps_ret pe_bl)) pss_nil)
      (pss_cons (ps_set (i := 12) sc_law.nd rfl (.inl rfl) (pe_ix ix_list (pv 11) pe_int (fun _ _ => rfl)))
      (pss_cons (ps_set (i := 13) sc_law.nd rfl (.inr rfl) (pe_op op_mulS (pv 12) (pe_op op_add (pv 2) pe_int)))
      (pss_cons (ps_if (pt_cmpR (op_neD hr.units) (pe_callB cr_sortS (by rfl) T.n_sorted (by decide +kernel) (pa_cons (pe_lc (own := [("k", 18)]) (g := gName 18) (tt := tYes) rfl sc_law.nd (pi_range1 rfl T.n_range (pa_cons (pe_callB call_len_str (by rfl) T.n_len PySem.boot_len (pa_cons (pv 12) pa_nil)) pa_nil)) (blkOk_by (N := n_law) (sc := defScope s_law) (by decide +kernel)) (fun _ _ _ _ _ => pg_name (i := 18) sc_law.nd rfl (.inl rfl)) (fun _ _ _ _ _ => pts_nil) (fun _ _ _ _ _ => pe_slice sl_str (pv 13) (po_some (pv 18)) (po_some (pe_op op_add (pv 18) (pv 2))))) pa_nil)) (pv 4) (nomark _)) (pss_one (ps_ret pe_bl)) pss_nil)
      (pss_cons (ps_set (i := 14) sc_law.nd rfl (.inl rfl) (pe_op op_mod (pe_op op_fdiv (pv 1) pe_int) (pe_callB call_len_str (by rfl) T.n_len PySem.boot_len (pa_cons (pv 12) pa_nil))))
      (pss_cons (ps_for PassesOwn.never rfl (pi_list (pe_lst (pa_cons (pv 12) (pa_cons (pe_op op_add_str (pe_slice sl_str (pv 12) (po_some (pv 14)) po_none) (pe_slice sl_str (pv 12) po_none (po_some (pv 14)))) pa_nil)))) (pg_name (i := 15) sc_law.nd rfl (.inl rfl)) (pss_cons (ps_set (i := 16) sc_law.nd rfl (.inl rfl) (pcallL D8 (hr.mono (by decide)) (pa_cons (pv 15) (pa_cons (pv 2) (pa_cons (pv 3) pa_nil))))) (pss_one (ps_if (pt_cmpR (op_neD hr.units) (pe_tup (pa_cons (pe_fld (pv 16) rfl) (pa_cons (pe_fld (pv 16) rfl) (pa_cons (pe_fld (pv 16) rfl) pa_nil)))) (pe_tup (pa_cons (pv 2) (pa_cons (pv 3) (pa_cons (pe_fld (pe_ix ix_tup (pv 10) pe_int (fun _ _ => rfl)) rfl) pa_nil)))) (nomark _)) (pss_one (ps_ret pe_bl)) pss_nil))))
      (pss_one (ps_ret (pcall D9 hr (pa_cons (pv 12) (pa_cons (pv 4) (pa_cons (pv 2) (pa_cons (pv 3) (pa_cons (pcall D10 (hr.mono (by decide)) (pa_cons (pv 1) (pa_cons (pe_int) pa_nil))) pa_nil))))))))))))))))))))))))))), ?_⟩
    -- n
    refine ⟨_, rfl, sc, ns, rfl, hS, _, _, rfl, rfl, .inr ⟨by decide, by decide⟩, _, _, rfl, rfl, by show (0 : Int) < _; decide, ?_⟩
    show tSeq _ _ _ [some (.ref sc), some (.int (ns.sum * 69621 % 2147483647)), none, none, none, none, none, none, none, none, none, none, none, none, none, none, none, none, none] _
    generalize ns.sum * 69621 % 2147483647 = n
    -- length, kinds
    refine ⟨_, rfl, _, _, rfl, rfl, ⟨by show (0 : Int) < _; decide, by show _ < (1073741824 : Int); decide⟩, _, rfl, fun H1 t1 m k s1 c ht1 => ⟨t1, _, rfl, SqT.of ht1, rfl, _, _, rfl, _, _, rfl, rfl, ?_⟩⟩
    have c1 := c.m7
    have c2 := c.sz
    have k1 := c.k1
    have k6 := c.k6
    have hn1 := c.pos
    -- words
    refine ⟨_, rfl, _, rfl, m + 1, k, rfl, k1, k6, by omega, by omega, c2, fun H2 a s2 na ha2 => ?_⟩
    have s02 := s1.trans s2
    -- told
    refine ⟨_, rfl, _, rfl, _, rfl, sc, ns, m, k, rfl, SqL.same hS s02, hns, c, fun H3 g s3 hD => ?_⟩
    obtain ⟨htl, hbij⟩ := hD.bij k1
    have htn : ((List.range (k ^ (m + 1))).map g).length = k ^ (m + 1) := by rw [List.length_map, List.length_range]
    have etf := tf_nx htl htn k1
    have Fo : FolR m k (nx m k ((List.range (k ^ (m + 1))).map g)) := fol_nx htl htn k1 hbij
    rw [← etf]
    revert Fo
    generalize nx m k ((List.range (k ^ (m + 1))).map g) = f
    intro Fo
    have s03 := s02.trans s3
    have ha3 := s3 _ _ ha2
    -- rule
    refine ⟨_, rfl, _, rfl, _, rfl, fun p dx np ndx _ => rule_new1 c (tf_len m k f) (tf_lt k1 f) np ndx fun H4 s4 R4 => ?_⟩
    have ha4 := s4 _ _ ha3
    -- many
    refine ⟨_, rfl, p, m, k, f, rfl, c, Fo, R4, fun ys H5 q5 hper hso s5 n5 h5 => ⟨q5, _, rfl, .inl (SqL.of h5), ?_⟩⟩
    have hmany : (ys.map V.str).length = cnt f (k ^ (m + 1)) := by
      rw [List.length_map, hper.length_eq, List.length_map]
      rfl
    rw [hmany]
    have ha5 := s5 _ _ ha4
    have R5 := R4.same s5
    -- behind, due
    refine ⟨_, rfl, _, rfl, a, m, k, f, rfl, c, Fo, ha5, fun H6 t6 d l us s6 ht6 hd6 hl6 hT6 => ⟨t6, _, rfl, SqT.of ht6, rfl, _, _, rfl, _, _, rfl, rfl, ?_⟩⟩
    have R6 := R5.same s6
    have ha6 := s6 _ _ ha5
    obtain ⟨JF, Jc, Jl, Jone⟩ := one_ring k1 Fo
    -- found
    refine ⟨_, rfl, p, m, k, f, rfl, c, Fo, R6, fun H7 t7 r l7 us7 s7 ht7 nl7 hl7 hT7 hR7 => ?_⟩
    generalize eJ : joinAt m k f (prs (k ^ (m + 1)) (k ^ m)) = J at *
    obtain ⟨jf, jl⟩ := J
    simp only at JF Jc Jl Jone hd6 hT6 hT7 hR7
    have hl7' := s7 _ _ hl6
    have hT7' := hT6.same s7
    obtain ⟨dx7, hr7⟩ := id hR7
    have R7 := R6.same s7
    obtain ⟨dxp, hp7⟩ := id R7
    -- the first test
    refine ⟨_, rfl, _, _, _, _, true, rfl, .ty _, .base (.tup ht7), kit_ty (by decide +kernel), _, rfl, iteF ?_⟩
    refine ⟨_, rfl, t7, _, rfl, .inr (SqT.of ht7), rfl, _, rfl, iteNS rfl ?_⟩
    refine ⟨_, rfl, t7, _, _, _, rfl, rfl, SqT.of ht7, atI_nat (j := 1) rfl, _, _, _, _, true, rfl, .ty _, .base (.lst hl7), kit_ty (by decide +kernel), _, rfl, iteF ?_⟩
    refine ⟨_, rfl, t7, _, _, _, rfl, rfl, SqT.of ht7, atI_nat (j := 1) rfl, _, rfl, .list (jl.map (pairD (m + 1) k)), .list (jl.map (pairD (m + 1) k)), .lst (SqL.of hl7) hT7.dp, .lst (SqL.of hl7') hT7'.dp, shaped_pairs k1 k6 _, shaped_pairs k1 k6 _, _, rfl, ?_⟩
    rw [shaped_refl (shaped_pairs k1 k6 _)]
    refine iteF ?_
    -- the second
    have hul : us.length = jl.length := hT6.len
    refine ⟨_, rfl, l, _, rfl, .inl (SqL.of hl7'), _, rfl, _, _, rfl, rfl, rfl, _, rfl, iteNS ?_ ?_⟩
    · show V.int (us.length : Nat) = V.int ((cnt f (k ^ (m + 1)) : Nat) - 1)
      congr 1
      omega
    refine ⟨_, rfl, p, _, dxp, _, _, rfl, hp7, T.cls, T.no_told, rfs_told _ _ _, _, rfl, rfl, _, rfl, iteNS rfl ?_⟩
    -- the third
    have ha7 := s7 _ _ ha6
    have hd7 := s7 _ _ hd6
    refine ⟨_, rfl, t7, _, _, _, rfl, rfl, SqT.of ht7, atI_nat (j := 0) rfl, r, _, dx7, _, _, rfl, hr7, T.cls, T.no_told, rfs_told _ _ _, ⟨_, rfl⟩, _, rfl, a, rfl, ⟨_, SqL.of ha7⟩, fun D hD7 => ?_⟩
    refine lc_it walk_list (fun i H' => Same H7 H' ∧ H' D = some (.lst (((List.range i).map fun j => tx [jf j % k]).map V.str)))
      ⟨same_new hD7, upd_same⟩ (fun i H' _ z => SqL.of (z.1 _ _ ha7)) ?_ ?_
    · rintro i y H8 H9 hi ⟨sm8, hD8⟩ ⟨rfl, hy⟩
      rw [List.length_map, words_len] at hi
      rw [List.getElem?_map, words_get hi] at hy
      have ex : V.str (word (m + 1) k i) = y := Option.some.inj hy
      subst ex
      refine ⟨rfl, yes_if ⟨_, rfl, _, rfl, d, _, rfl, DGet.bkv (sm8 _ _ hd7) hi, _, rfl, _, _, 97 + jf i % k, rfl, rfl, wlen c1, ?_, _, hD8, ?_, same_mut sm8 hD7, ?_⟩⟩
      · unfold word
        rw [FolR.word JF k1 hi]
        exact at_tx_last _ _
      · rw [List.length_map, List.length_map, List.length_range]
        exact szlt (by omega)
      · rw [upd_same, List.range_succ, List.map_append, List.map_append]
        rfl
    rintro H8 ⟨s8, hD8⟩
    rw [List.length_map, words_len] at hD8
    have e0 : ((List.range (k ^ (m + 1))).map fun j => tx [jf j % k]) = (tf m k jf).map fun d => tx [d] := by
      unfold tf
      rw [List.map_map]
      rfl
    rw [e0] at hD8
    refine ⟨_, _, _, rfl, rfl, .inl (SqL.of hD8), ?_, ?_⟩
    · rw [ones_len _ (Str.ofString ""), List.length_map, tf_len, ofs_empty_len]
      omega
    rw [join_ones]
    refine ⟨rfl, _, rfl, iteNS rfl ?_⟩
    -- the append
    have hl8 := s8 _ _ hl7
    have ht8 := s8 _ _ ht7
    refine ⟨_, rfl, t7, _, _, _, rfl, rfl, SqT.of ht8, atI_nat (j := 1) rfl, .inl ⟨rfl, _, SqL.of hl8⟩, by show 2 ≤ sizeLine; exact szl (by decide), fun tt ntt => ?_⟩
    have s9 := s8.trans (same_new (o := .tup [V.str (Str.ofString ""), V.str (Str.ofString "")]) ntt)
    have hl9 := s9 _ _ hl7
    refine ⟨l7, _, _, rfl, rfl, hl9, ?_, ?_⟩
    · have := hT7.len
      have := cnt_le f (k ^ (m + 1))
      exact szlt (by omega)
    have s69 : Same H6 (upd (upd H8 tt (.tup [V.str (Str.ofString ""), V.str (Str.ofString "")])) l7 (.lst (us7 ++ [V.ref tt]))) := same_mut (s7.trans s9) nl7
    have ht9 : upd (upd H8 tt (.tup [V.str (Str.ofString ""), V.str (Str.ofString "")])) l7 (.lst (us7 ++ [V.ref tt])) t7 = some (.tup [.ref r, .ref l7]) := by
      rw [upd_ne (ne_of (s9 _ _ ht7) hl9 (by intro z; cases z))]
      exact s9 _ _ ht7
    have hr9 : upd (upd H8 tt (.tup [V.str (Str.ofString ""), V.str (Str.ofString "")])) l7 (.lst (us7 ++ [V.ref tt])) r = some (.ins (He.ga K "Rule") dx7 (rfs ((m + 1 : Nat) : Int) (k : Int) (tx (tf m k jf)))) := by
      rw [upd_ne (ne_of (s9 _ _ hr7) hl9 (by intro z; cases z))]
      exact s9 _ _ hr7
    revert s69 ht9 hr9
    generalize upd (upd H8 tt (.tup [V.str (Str.ofString ""), V.str (Str.ofString "")])) l7 (.lst (us7 ++ [V.ref tt])) = G9
    intro s69 ht9 hr9
    -- joined again
    refine ⟨_, rfl, p, m, k, f, rfl, c, Fo, R6.same s69, fun G10 t10 r10 l10 us10 s10 ht10 nl10 hl10 hT10 hR10 => ?_⟩
    rw [eJ] at hT10
    simp only at hT10
    refine ⟨t10, _, _, _, rfl, rfl, SqT.of ht10, atI_nat (j := 1) rfl, _, rfl, .list (jl.map (pairD (m + 1) k)), .list (jl.map (pairD (m + 1) k)), .lst (SqL.of hl10) hT10.dp, .lst (SqL.of (s10 _ _ (s69 _ _ hl6))) ((hT6.same s69).same s10).dp, shaped_pairs k1 k6 _, shaped_pairs k1 k6 _, _, rfl, ?_⟩
    rw [shaped_refl (shaped_pairs k1 k6 _)]
    refine iteF ?_
    have s610 := s69.trans s10
    have ht10' := s10 _ _ ht9
    have hr10 := s10 _ _ hr9
    -- told_rounds
    refine ⟨_, rfl, t7, _, _, _, rfl, rfl, SqT.of ht10', atI_nat (j := 0) rfl, r, m, k, jf, rfl, c, JF, ⟨dx7, hr10⟩, fun ys2 G11 q11 hper2 hso2 s11 n11 h11 => ?_⟩
    have s611 := s610.trans s11
    have hw0 : (0 : Nat) < k ^ (m + 1) := hn1
    obtain ⟨hper0, hwhole, hmkr⟩ := Fol.ring_whole JF k1 Jone hw0
    have hxl : (ringt m k jf 0).length = k ^ (m + 1) := hwhole.len
    have hx6 : ∀ d ∈ ringt m k jf 0, d < 6 := fun d hd => by
      have := hwhole.letters (by omega) k1 d hd
      omega
    rw [Jl] at hper2
    have ey2 : ys2 = [tx (ringt m k jf 0)] := List.perm_singleton.mp hper2
    subst ey2
    -- against the law's rounds
    refine ⟨_, rfl, _, rfl, _, rfl, a, d, m, k, jf, rfl, c, JF, s611 _ _ ha6, s611 _ _ hd6, fun ys3 G12 q12 hper3 hso3 s12 n12 h12 => ?_⟩
    rw [Jl] at hper3
    have ey3 : ys3 = [tx (ringt m k jf 0)] := List.perm_singleton.mp hper3
    subst ey3
    have hsh : SeqAt.shaped (.list ([tx (ringt m k jf 0)].map PyData.str)) = true := shaped_strs _ fun y hy => by
      rw [List.mem_singleton.mp hy]
      exact ok_tx hx6
    have h11' := s12 _ _ h11
    refine ⟨_, _, dp_strs (SqL.of h11'), dp_strs (SqL.of h12), hsh, hsh, _, rfl, ?_⟩
    rw [shaped_refl hsh]
    refine iteF ⟨_, rfl, q11, _, rfl, .inl (SqL.of h11'), rfl, _, rfl, iteNS rfl ?_⟩
    -- ring
    refine ⟨_, rfl, q11, _, _, _, rfl, rfl, SqL.of h11', atI_nat (j := 0) rfl, ?_⟩
    have s612 := s611.trans s12
    have hxlen : (tx (ringt m k jf 0)).length ≤ sizeLine := by rw [tx_len]; exact szl (by omega)
    -- round_text
    refine ⟨_, rfl, _, rfl, _, _, rfl, rfl, tx (ringt m k jf 0), ((m + 2 : Nat) : Int), rfl, ?_, by omega, by omega, by rw [tx_len]; omega, ?_⟩
    · show V.int (((m + 1 : Nat) : Int) + 1) = _
      congr 1
    rw [mul_tx (ringt m k jf 0) (m + 2) (by omega)]
    have hrl : (rept (m + 2) (ringt m k jf 0)).length = (m + 2) * (ringt m k jf 0).length := rept_len _ _
    have hrb : (m + 2) * (ringt m k jf 0).length ≤ 9 * 64 := Nat.mul_le_mul (by omega) (by omega)
    have hrs : (tx (rept (m + 2) (ringt m k jf 0))).length ≤ sizeLine := by rw [tx_len, hrl]; exact szl (by omega)
    have hin : ∀ j, j < (ringt m k jf 0).length → j + (m + 1) ≤ (m + 2) * (ringt m k jf 0).length := fun j hj => by
      have e : (m + 2) * (ringt m k jf 0).length = (m + 1) * (ringt m k jf 0).length + (ringt m k jf 0).length := Nat.succ_mul _ _
      have := Nat.le_mul_of_pos_right (m + 1) (show 0 < (ringt m k jf 0).length by omega)
      omega
    have ha12 := s612 _ _ ha6
    refine ⟨_, rfl, _, rfl, hxlen, _, rfl, by rw [tx_len]; omega, by rw [tx_len]; omega, fun D2 hD2 => ?_⟩
    refine lc_it walk_rng (fun j H' => Same G12 H' ∧ H' D2 = some (.lst (((List.range j).map fun t => tx (cyc (ringt m k jf 0) (m + 1) t)).map V.str)))
      ⟨same_new hD2, upd_same⟩ (fun _ _ _ _ => trivial) ?_ ?_
    · rintro j y H4 H5 hj ⟨sm4, hD4⟩ ⟨rfl, rfl⟩
      rw [Int.toNat_natCast, tx_len] at hj
      refine ⟨rfl, yes_if ⟨_, rfl, _, rfl, _, rfl, _, rfl, _, rfl, _, _, rfl, rfl, _, rfl, tx (rept (m + 2) (ringt m k jf 0)), rfl, hrs, _, hD4, ?_, same_mut sm4 hD2, ?_⟩⟩
      · rw [List.length_map, List.length_map, List.length_range]
        exact szlt (by omega)
      · have e3 : (j : Int) + ((m + 1 : Nat) : Int) = ((j + (m + 1) : Nat) : Int) := by omega
        rw [upd_same, e3, cut_mid, Nat.add_sub_cancel_left, rept_cut (by have := hin j hj; omega), List.range_succ, List.map_append, List.map_append]
        rfl
    rintro G13 ⟨s13, hD13⟩
    rw [Int.toNat_natCast, tx_len] at hD13
    have hD13' : G13 D2 = some (.lst ((wins (ringt m k jf 0) (m + 1)).map V.str)) := hD13
    refine ⟨D2, _, rfl, SqL.of hD13', fun ys4 q14 hper4 hso4 n14 => ?_⟩
    have s14 := s13.trans (same_new (o := .lst (ys4.map V.str)) n14)
    refine ⟨_, rfl, _, _, dp_strs (SqL.of upd_same), dp_strs (SqL.of (s14 _ _ ha12)), shaped_strs _ (fun y hy => wins_ok hx6 y (hper4.mem_iff.mp hy)), shaped_strs _ (ok_words k1 k6), _, rfl, ?_⟩
    rw [eqv_strs, decide_eq_true ((sorted_wins hper4 hso4).mpr hwhole)]
    refine iteF ?_
    have s614 := s612.trans s14
    have ht14 := s14 _ _ (s12 _ _ (s11 _ _ ht10'))
    have hr14 := s14 _ _ (s12 _ _ (s11 _ _ hr10))
    revert s614 ht14 hr14
    generalize upd G13 q14 (.lst (ys4.map V.str)) = G14
    intro s614 ht14 hr14
    -- by
    have hpos : (0 : Int) < ((tx (ringt m k jf 0)).length : Nat) := by rw [tx_len]; omega
    refine ⟨_, rfl, _, _, rfl, rfl, ⟨by show (0 : Int) < _; decide, by show _ < (1073741824 : Int); decide⟩, _, rfl, _, rfl, hxlen, _, _, rfl, rfl, hpos, ?_⟩
    obtain ⟨b, hb⟩ := Int.eq_ofNat_of_zero_le (Int.emod_nonneg (n / 200) (b := ((tx (ringt m k jf 0)).length : Nat)) (by omega))
    have hbx : b < (ringt m k jf 0).length := by
      have := Int.emod_lt_of_pos (n / 200) hpos
      rw [hb, tx_len] at this
      omega
    show tSeq _ _ _ [some (.ref sc), some (.int n), some (.int ((m + 1 : Nat) : Int)), some (.int k), some (.ref a), some (.str (tx (tf m k f))), some (.ref p), some (.int (cnt f (k ^ (m + 1)) : Nat)), some (.ref d), some (.ref l), some (.ref t7), some (.ref q11), some (.str (tx (ringt m k jf 0))), some (.str (tx (rept (m + 2) (ringt m k jf 0)))), some (.int (n / 200 % ((tx (ringt m k jf 0)).length : Nat))), none, none, none, none] _
    rw [hb]
    have hwb : it jf b 0 < k ^ (m + 1) := JF.b.it_lt b 0 hw0
    obtain ⟨hper1, hwhole1, hmkr1⟩ := Fol.ring_whole JF k1 Jone hwb
    have hturn : (ringt m k jf 0).drop b ++ (ringt m k jf 0).take b = ringt m k jf (it jf b 0) := Fol.ring_turn JF hw0 (by rw [hper0]; omega) (by rw [hper1, hper0])
    -- the two texts
    refine ⟨_, rfl, _, rfl, _, rfl, _, rfl, tx (ringt m k jf 0), rfl, hxlen, _, rfl, _, rfl, _, rfl, tx (ringt m k jf 0), rfl, hxlen, tx ((ringt m k jf 0).drop b), tx ((ringt m k jf 0).take b), by rw [cut_from], by rw [cut_to], ?_, ?_⟩
    · rw [tx_len, tx_len, List.length_drop, List.length_take]
      exact szl (by omega)
    rw [tx_app, hturn]
    refine ⟨by show 2 ≤ sizeLine; exact szl (by decide), fun o no => ⟨o, rfl, ⟨_, SqL.of upd_same⟩, ?_⟩⟩
    refine for_it walk_list (fun i σ H' => ∃ y15 y16, σ = [some (.ref sc), some (.int n), some (.int ((m + 1 : Nat) : Int)), some (.int k), some (.ref a), some (.str (tx (tf m k f))), some (.ref p), some (.int (cnt f (k ^ (m + 1)) : Nat)), some (.ref d), some (.ref l), some (.ref t7), some (.ref q11), some (.str (tx (ringt m k jf 0))), some (.str (tx (rept (m + 2) (ringt m k jf 0)))), some (.int (b : Nat)), y15, y16, none, none] ∧ Same G14 H' ∧ H' o = some (.lst [V.str (tx (ringt m k jf 0)), V.str (tx (ringt m k jf (it jf b 0)))]))
      ⟨none, none, rfl, same_new no, upd_same⟩ (fun i σ H' _ ⟨_, _, _, _, z⟩ => SqL.of z) ?_ ?_
    · rintro i v σ H4 H5 hi ⟨y15, y16, rfl, sm4, ho4⟩ ⟨rfl, hv⟩
      obtain ⟨x, rfl, hxw, hxm, hxn⟩ : ∃ x, v = V.str (tx x) ∧ whole x (m + 1) k ∧ mkr x (m + 1) k = tf m k jf ∧ x.length = k ^ (m + 1) := by
        match i, hi, hv with
        | 0, _, hv => exact ⟨ringt m k jf 0, (Option.some.inj hv).symm, hwhole, hmkr, hwhole.len⟩
        | 1, _, hv => exact ⟨ringt m k jf (it jf b 0), (Option.some.inj hv).symm, hwhole1, hmkr1, hwhole1.len⟩
      have hxs : sht x := ⟨by omega, fun d hd => by
        have := hxw.letters (by omega) k1 d hd
        omega⟩
      refine ⟨_, rfl, _, rfl, _, rfl, x, m, k, rfl, c, hxs, fun z => absurd hxw z, fun _ H6 q6 sm6 nq6 R6' => ?_⟩
      obtain ⟨dx6, h6⟩ := R6'
      rw [hxm] at h6
      have hok : PyData.strOk (tx (tf m k jf)) = true := ok_tx fun d hd => by
        have := tf_lt k1 jf d hd
        omega
      refine ⟨_, rfl, q6, _, dx6, _, _, rfl, h6, T.cls, T.no_length, rfs_length _ _ _, _, rfl, q6, _, dx6, _, _, rfl, h6, T.cls, T.no_kinds, rfs_kinds _ _ _, _, rfl, q6, _, dx6, _, _, rfl, h6, T.cls, T.no_told, rfs_told _ _ _, by show 3 ≤ sizeLine; exact szl (by decide), fun u1 nu1 => ?_⟩
      have su1 := same_new (o := .tup [V.int ((m + 1 : Nat) : Int), V.int (k : Int), V.str (tx (tf m k jf))]) nu1
      have sm7 := sm4.trans (sm6.trans su1)
      refine ⟨_, rfl, _, rfl, _, rfl, t7, _, _, _, rfl, rfl, SqT.of (sm7 _ _ ht14), atI_nat (j := 0) rfl, r, _, dx7, _, _, rfl, sm7 _ _ hr14, T.cls, T.no_told, rfs_told _ _ _, by show 3 ≤ sizeLine; exact szl (by decide), fun u2 nu2 => ?_⟩
      have su2 := same_new (o := .tup [V.int ((m + 1 : Nat) : Int), V.int (k : Int), V.str (tx (tf m k jf))]) nu2
      have dpi : DpAll K (upd (upd H6 u1 (.tup [V.int ((m + 1 : Nat) : Int), V.int (k : Int), V.str (tx (tf m k jf))])) u2 (.tup [V.int ((m + 1 : Nat) : Int), V.int (k : Int), V.str (tx (tf m k jf))])) [V.int ((m + 1 : Nat) : Int), V.int (k : Int), V.str (tx (tf m k jf))] [.int ((m + 1 : Nat) : Int), .int (k : Int), .str (tx (tf m k jf))] := .cons (.int _) (.cons (.int _) (.cons (.str _) .nil))
      refine ⟨iis ((m + 1 : Nat) : Int) (k : Int) (tx (tf m k jf)), iis ((m + 1 : Nat) : Int) (k : Int) (tx (tf m k jf)), .tup (SqT.of (su2 _ _ upd_same)) dpi, .tup (SqT.of upd_same) dpi, shaped_iis _ _ hok, shaped_iis _ _ hok, _, rfl, ?_⟩
      rw [shaped_refl (shaped_iis _ _ hok)]
      exact iteF ⟨_, _, rfl, sm7.trans su2, su2 _ _ (su1 _ _ (sm6 _ _ ho4))⟩
    · rintro σ H4 ⟨y15, y16, rfl, sm4, ho4⟩
      refine ⟨_, rfl, _, rfl, _, rfl, _, rfl, _, rfl, n, 31, rfl, by decide, fun v hv1 hv2 => ?_⟩
      exact ⟨ringt m k jf 0, a, m, k, v, rfl, c, by omega, by omega, hx6, sm4 _ _ (s614 _ _ ha6), fun H' => q H'⟩
end
end RJ
set_option Elab.async false
set_option linter.all false
set_option maxRecDepth 100000
set_option maxHeartbeats 0
namespace RJ
open PySem PySem.Spec PyProof.Rows L2
abbrev Rw : PySem.W.OpenRow := PySem.W.OpenLaw.row PySem.Challenge.rw_onceround_k50_whole_rounds_joined
abbrev hk : PySem.W.Hook := He.hookD 5 fa fn
def ob (s : PySem.W.SharedT) : He.AlD := He.obsDG 5 fa fn (HandSHeadRun.getT s)
theorem ob_eq (s : PySem.W.SharedT) : ob s = hk.obs s.abs := He.obsDG_eq (HandSHeadRun.getT_eq s)
theorem run (w : World) : HandSHeadRun.RunEq Rw (PySem.W.view Rw.prog [57]) hk ob 4000 loose w := by
  intro os
  kernel_rfl
theorem facts {P : Program} {w : World} {K : PySem.W.Frag} {h : Heap} {mg : Str → Option Value} {f : Addr} (X : K.In h) (G : h.Ns mainGlobals mg) (hfa : mg ("law" : Str) = some (.ref f)) (c : He.SaysD fa fn K) :
    ∃ fd : FuncData, (∀ (s : Shared) (v : Value), BindsTo s fd ⟨[v], []⟩ [("script", v)]) ∧ ∀ base : Heap, K.In base → base.Ns mainGlobals mg → FnOk P w K mg base CX0 9 f fd ["script"] (spLaw K) := by
  have T : Tx K mg := ⟨⟨h, X, G⟩, c⟩
  have e := hfa.symm.trans T.g_law
  cases e
  obtain ⟨fd, F⟩ := T.f_law
  have b := FunD.bindsA (ps := ["script"]) F fun _ _ _ _ _ _ us hl => match us, hl with | [_], _ => rfl
  exact ⟨fd, fun s v => b s [v] rfl, fun base _ _ => ok_law T F⟩
end RJ
open PySem PySem.W PySem.Calls PyProof.Rows
theorem PySem.Challenge.cw_onceround_k50_whole_rounds_joined_holds : PySem.Challenge.rw_onceround_k50_whole_rounds_joined.Holds := by
  w_on; o_law
  refine HandSHeadRun.head_any (r := OpenLaw.row PySem.Challenge.rw_onceround_k50_whole_rounds_joined) (q := view (OpenLaw.row PySem.Challenge.rw_onceround_k50_whole_rounds_joined).prog [57]) (H := RJ.hk) (ob := RJ.ob) (M := 4000) (loose := RJ.loose) (d := HandSHeadRun.topDef (OpenLaw.row PySem.Challenge.rw_onceround_k50_whole_rounds_joined).prog 57) (kwd := []) RJ.ob_eq
    (by kernel_rfl) (fun s => by kernel_rfl) RJ.run (by kernel_rfl) (by kernel_rfl) (by kernel_rfl) (by rfl) (by first | assumption | decide +kernel) (by decide +kernel) ⟨rfl, rfl, rfl, rfl, rfl, by decide +kernel⟩ ?hw ?hc
  case hw => w_witness2
  case hc =>
    refine L2.walk_ofE (l := PySem.Challenge.rw_onceround_k50_whole_rounds_joined) (n := 63) (k := 9) (x := "script") (CX := L2.CX0) rfl (by decide) (by kernel_rfl) ⟨rfl, by decide, by decide⟩ ?F (fun _ _ _ _ z => z)
    intro w mg fa h Y G hmg0
    obtain ⟨K, KX, c⟩ := Y
    have hmg : mg ("law" : PySem.Str) = some (.ref fa) := by
      have e : (HandSHeadRun.topDef (OpenLaw.row PySem.Challenge.rw_onceround_k50_whole_rounds_joined).prog 57).name = ("law" : PySem.Str) := by kernel_rfl
      rw [← e]
      exact hmg0
    obtain ⟨fd, hb, hF⟩ := RJ.facts (P := (PySem.Challenge.rw_onceround_k50_whole_rounds_joined).prog) (w := w) KX G hmg c
    exact ⟨K, fd, RJ.spLaw K, KX, hb, fun H a ns hl _ hS => ⟨a, ns, rfl, hS, by omega, fun _ => rfl⟩, hF⟩
