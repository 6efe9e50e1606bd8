import PyProof.Rows.All
import Wide.All
import OpenK.AllK
import Wide.FinOn
import HandS.ForMost
import HandS.Walk
import HandS.Evl
import HandS.Style
import HandS.TupAny
import HandS.TupLe
import HandS.IsInst
import HandS.Conv
import HandS.Defaults
import KE.GoesNew
import KE.GoesEnum
import KE.GoesMore
import HandS.SetFor
import HandS.TupMul
import HandS.Strs
import HandS.Deep
import KE.DataMinMax
import KE.SortData
import HandS.SortRule
import KE.KDictWalk
import KE.KDictCopyH
import KE.KDictDisplayH
import HandS.SortInts
import HandS.TupSets
import KE.KStateDown
import Lean
import HandS.WordsExc
import HandS.Head0
import HandS.Head1
import HandS.Head2
import HandS.HeadEnd
import HandS.HeadHook1
import HandS.HeadHook2
import PySem.Challenge.RW_handons_k39_whole_prices
/-! HkM1: lamps as whole numbers, standings as ascending lists; core Lean alone. -/
namespace Hk
/-- 0, 1, .., n - 1 -/
def rng (n : Nat) : List Int := (List.range n).map fun (i : Nat) => (i : Int)
def lst (n : Nat) (p : Int → Bool) : List Int := (rng n).filter p
theorem mem_rng {n : Nat} {k : Int} : k ∈ rng n ↔ 0 ≤ k ∧ k < (n : Int) := by
  unfold rng
  rw [List.mem_map]
  constructor
  · rintro ⟨i, hi, rfl⟩
    rw [List.mem_range] at hi
    omega
  · rintro ⟨h0, h1⟩
    exact ⟨k.toNat, List.mem_range.mpr (by omega), by omega⟩
theorem rng_asc (n : Nat) : (rng n).Pairwise (· < ·) := by
  unfold rng
  rw [List.pairwise_map]
  exact List.pairwise_lt_range.imp fun h => by omega
theorem rng_succ (n : Nat) : rng (n + 1) = rng n ++ [(n : Int)] := by
  unfold rng
  rw [List.range_succ, List.map_append] <;> rfl
theorem rng_len (n : Nat) : (rng n).length = n := by
  unfold rng
  rw [List.length_map, List.length_range]
theorem mem_lst {n : Nat} {p : Int → Bool} {k : Int} : k ∈ lst n p ↔ (0 ≤ k ∧ k < (n : Int)) ∧ p k = true := by
  unfold lst
  rw [List.mem_filter, mem_rng]
theorem lst_asc (n : Nat) (p : Int → Bool) : (lst n p).Pairwise (· < ·) := (rng_asc n).filter p
theorem lst_len (n : Nat) (p : Int → Bool) : (lst n p).length ≤ n := by
  have h := List.length_filter_le p (rng n)
  rw [rng_len] at h
  exact h
theorem lst_congr {n : Nat} {p q : Int → Bool} (h : ∀ k, 0 ≤ k → k < (n : Int) → p k = q k) : lst n p = lst n q :=
  List.filter_congr fun k hk => h k (mem_rng.mp hk).1 (mem_rng.mp hk).2
/-- ascending lists of the same items are one -/
theorem asc_ext : ∀ {s t : List Int}, s.Pairwise (· < ·) → t.Pairwise (· < ·) → (∀ k, k ∈ s ↔ k ∈ t) → s = t
  | [], [], _, _, _ => rfl
  | [], y :: t, _, _, h => absurd ((h y).mpr List.mem_cons_self) (by simp)
  | x :: s, [], _, _, h => absurd ((h x).mp List.mem_cons_self) (by simp)
  | x :: s, y :: t, hs, ht, h => by
    have hs1 := List.pairwise_cons.mp hs
    have ht1 := List.pairwise_cons.mp ht
    have e : x = y := by
      rcases List.mem_cons.mp ((h x).mp List.mem_cons_self) with e | hx
      · exact e
      · rcases List.mem_cons.mp ((h y).mpr List.mem_cons_self) with e | hy
        · exact e.symm
        · have := ht1.1 x hx
          have := hs1.1 y hy
          omega
    subst e
    rw [asc_ext hs1.2 ht1.2 fun k => ?_]
    constructor
    · intro hk
      rcases List.mem_cons.mp ((h k).mp (List.mem_cons_of_mem _ hk)) with e | hk'
      · have := hs1.1 k hk
        omega
      · exact hk'
    · intro hk
      rcases List.mem_cons.mp ((h k).mpr (List.mem_cons_of_mem _ hk)) with e | hk'
      · have := ht1.1 k hk
        omega
      · exact hk'
/-- a standing: lamps, ascending -/
structure Std (n : Nat) (b : List Int) : Prop where
  asc : b.Pairwise (· < ·)
  inr : ∀ k ∈ b, 0 ≤ k ∧ k < (n : Int)
theorem std_lst (n : Nat) (p : Int → Bool) : Std n (lst n p) := ⟨lst_asc n p, fun _ h => (mem_lst.mp h).1⟩
theorem std_eq {n : Nat} {b : List Int} (h : Std n b) : b = lst n fun k => decide (k ∈ b) :=
  asc_ext h.asc (lst_asc _ _) fun k => by
    rw [mem_lst, decide_eq_true_eq]
    exact ⟨fun hk => ⟨h.inr k hk, hk⟩, fun q => q.2⟩
theorem std_len {n : Nat} {b : List Int} (h : Std n b) : b.length ≤ n := by
  rw [std_eq h]
  exact lst_len _ _
theorem std_of_mem {n : Nat} {b : List Int} (h : Std n b) (p : Int → Bool) (e : ∀ k, 0 ≤ k → k < (n : Int) → (k ∈ b ↔ p k = true)) : b = lst n p := by
  refine asc_ext h.asc (lst_asc _ _) fun k => ?_
  rw [mem_lst]
  exact ⟨fun hk => ⟨h.inr k hk, (e k (h.inr k hk).1 (h.inr k hk).2).mp hk⟩, fun q => (e k q.1.1 q.1.2).mpr q.2⟩
/-- what sorted gives of lamps without a double one -/
theorem asc_of_le : ∀ {l : List Int}, l.Pairwise (· ≤ ·) → l.Nodup → l.Pairwise (· < ·)
  | [], _, _ => List.Pairwise.nil
  | x :: l, h, hn => by
    rw [List.pairwise_cons] at h
    rw [List.nodup_cons] at hn
    refine List.pairwise_cons.mpr ⟨fun y hy => ?_, asc_of_le h.2 hn.2⟩
    have h1 := h.1 y hy
    have h2 : x ≠ y := fun e => hn.1 (by rw [e]; exact hy)
    omega
theorem sorted_eq {n : Nat} {l m : List Int} (hp : m.Perm l) (hs : m.Pairwise (· ≤ ·)) (hn : l.Nodup) (hr : ∀ k ∈ l, 0 ≤ k ∧ k < (n : Int)) : m = lst n fun k => decide (k ∈ l) := by
  have hm : m.Pairwise (· < ·) := asc_of_le hs (hp.nodup_iff.mpr hn)
  have : Std n m := ⟨hm, fun k hk => hr k (hp.mem_iff.mp hk)⟩
  refine std_of_mem this _ fun k _ _ => ?_
  rw [decide_eq_true_eq]
  exact hp.mem_iff
theorem nodup_asc {l : List Int} (h : l.Pairwise (· < ·)) : l.Nodup := h.imp fun q e => by omega

/-! ### arrows -/
abbrev Arr := List (Int × Int)
structure Web (n : Nat) (E : Arr) : Prop where
  pos : 1 ≤ n
  few : n ≤ 5
  up : ∀ p ∈ E, 0 ≤ p.1 ∧ p.1 < p.2 ∧ p.2 < (n : Int)
/-- all ahead of k burn; all behind -/
def allA (E : Arr) (b : List Int) (k : Int) : Bool := E.all fun p => !(p.2 == k) || decide (p.1 ∈ b)
def allB (E : Arr) (b : List Int) (k : Int) : Bool := E.all fun p => !(p.1 == k) || decide (p.2 ∈ b)
theorem allA_iff {E : Arr} {b : List Int} {k : Int} : allA E b k = true ↔ ∀ j, (j, k) ∈ E → j ∈ b := by
  unfold allA
  rw [List.all_eq_true]
  constructor
  · intro h j hj
    have := h _ hj
    simpa using this
  · rintro h ⟨j, l⟩ hp
    by_cases e : l = k
    · subst e
      simp [h j hp]
    · simp [e]
theorem allB_iff {E : Arr} {b : List Int} {k : Int} : allB E b k = true ↔ ∀ j, (k, j) ∈ E → j ∈ b := by
  unfold allB
  rw [List.all_eq_true]
  constructor
  · intro h j hj
    have := h _ hj
    simpa using this
  · rintro h ⟨l, j⟩ hp
    by_cases e : l = k
    · subst e
      simp [h j hp]
    · simp [e]
def canL (E : Arr) (b : List Int) (k : Int) : Bool := !decide (k ∈ b) && allA E b k
def canQ (E : Arr) (b : List Int) (k : Int) : Bool := decide (k ∈ b) && allB E b k
def can (E : Arr) (b : List Int) (k : Int) : Bool := canL E b k || canQ E b k
/-- the standing behind a deed -/
def tog (n : Nat) (b : List Int) (l : Int) : List Int := lst n fun k => decide (k ∈ b) != (k == l)
theorem std_tog (n : Nat) (b : List Int) (l : Int) : Std n (tog n b l) := std_lst _ _
theorem mem_tog {n : Nat} {b : List Int} {l k : Int} (h : Std n b) (hl : 0 ≤ l ∧ l < (n : Int)) : k ∈ tog n b l ↔ (if k = l then k ∉ b else k ∈ b) := by
  unfold tog
  rw [mem_lst]
  by_cases e : k = l
  · subst e
    rw [if_pos rfl]
    by_cases q : k ∈ b <;> simp [q, hl]
  · rw [if_neg e]
    by_cases q : k ∈ b
    · simp [q, e, h.inr k q]
    · simp [q, e]
/-- the deeds of a word -/
def runW (n : Nat) (E : Arr) (b : List Int) : List Int → Option (List Int)
  | [] => some b
  | l :: ws => if decide (0 ≤ l ∧ l < (n : Int)) && can E b l then runW n E (tog n b l) ws else none
abbrev Prc := List (Int × Int)
def pL (P : Prc) (k : Int) : Int := (P.getD k.toNat (0, 0)).1
def pQ (P : Prc) (k : Int) : Int := (P.getD k.toNat (0, 0)).2
def pOf (P : Prc) (b : List Int) (l : Int) : Int := if l ∈ b then pQ P l else pL P l
def wcost (n : Nat) (P : Prc) (b : List Int) : List Int → Int
  | [] => 0
  | l :: ws => pOf P b l + wcost n P (tog n b l) ws
structure Prices (n : Nat) (P : Prc) : Prop where
  len : P.length = n
  inr : ∀ p ∈ P, (0 ≤ p.1 ∧ p.1 ≤ 1000) ∧ 0 ≤ p.2 ∧ p.2 ≤ 1000
theorem getD_inr {P : Prc} (h : ∀ p ∈ P, (0 ≤ p.1 ∧ p.1 ≤ 1000) ∧ 0 ≤ p.2 ∧ p.2 ≤ 1000) (i : Nat) : (0 ≤ (P.getD i (0, 0)).1 ∧ (P.getD i (0, 0)).1 ≤ 1000) ∧ 0 ≤ (P.getD i (0, 0)).2 ∧ (P.getD i (0, 0)).2 ≤ 1000 := by
  rw [List.getD_eq_getElem?_getD]
  cases e : P[i]? with
  | none => simp
  | some p => exact h p (List.mem_of_getElem? e)
theorem pOf_bd {n : Nat} {P : Prc} (h : Prices n P) (b : List Int) (l : Int) : 0 ≤ pOf P b l ∧ pOf P b l ≤ 1000 := by
  have := getD_inr h.inr l.toNat
  unfold pOf pL pQ
  split <;> omega

/-! ### lamps that have to burn for a time -/
inductive Spare (E : Arr) (one other : List Int) : Int → Prop
  | aF {k l : Int} : k ∉ one → k ∉ other → (k, l) ∈ E → l ∈ other → l ∉ one → Spare E one other k
  | aS {k l : Int} : k ∉ one → k ∉ other → (k, l) ∈ E → Spare E one other l → Spare E one other k
  | bF {k l : Int} : k ∉ one → k ∉ other → (l, k) ∈ E → l ∈ one → l ∉ other → Spare E one other k
  | bS {k l : Int} : k ∉ one → k ∉ other → (l, k) ∈ E → Spare E one other l → Spare E one other k
theorem Spare.dark {E : Arr} {one other : List Int} {k : Int} (h : Spare E one other k) : k ∉ one ∧ k ∉ other := by
  cases h with
  | aF h1 h2 => exact ⟨h1, h2⟩
  | aS h1 h2 => exact ⟨h1, h2⟩
  | bF h1 h2 => exact ⟨h1, h2⟩
  | bS h1 h2 => exact ⟨h1, h2⟩
theorem Spare.inr {n : Nat} {E : Arr} (W : Web n E) {one other : List Int} {k : Int} (h : Spare E one other k) : 0 ≤ k ∧ k < (n : Int) := by
  cases h with
  | aF _ _ h3 => have := W.up _ h3; simp only at this; omega
  | aS _ _ h3 => have := W.up _ h3; simp only at this; omega
  | bF _ _ h3 => have := W.up _ h3; simp only at this; omega
  | bS _ _ h3 => have := W.up _ h3; simp only at this; omega
def Lit (E : Arr) (one other : List Int) (k : Int) : Prop := (k ∈ other ∧ k ∉ one) ∨ Spare E one other k
def Out (E : Arr) (one other : List Int) (k : Int) : Prop := (k ∈ one ∧ k ∉ other) ∨ Spare E one other k
theorem Spare.a {E : Arr} {one other : List Int} {k l : Int} (h1 : k ∉ one) (h2 : k ∉ other) (h3 : (k, l) ∈ E) (h : Lit E one other l) : Spare E one other k :=
  h.elim (fun q => .aF h1 h2 h3 q.1 q.2) fun q => .aS h1 h2 h3 q
theorem Spare.b {E : Arr} {one other : List Int} {k l : Int} (h1 : k ∉ one) (h2 : k ∉ other) (h3 : (l, k) ∈ E) (h : Out E one other l) : Spare E one other k :=
  h.elim (fun q => .bF h1 h2 h3 q.1 q.2) fun q => .bS h1 h2 h3 q

/-- a lighting ahead: what is lit and put out from b on is so from b' on, or it is m -/
theorem spare_light {E : Arr} {b b' other : List Int} {m : Int} (_hm : m ∉ b) (ha : ∀ j, (j, m) ∈ E → j ∈ b) (hb : ∀ k, k ∈ b' ↔ (k = m ∨ k ∈ b)) {x : Int} (h : Spare E b other x) : x = m ∨ Spare E b' other x := by
  by_cases hmo : m ∈ other
  · induction h with
    | @aF k l h1 h2 h3 h4 h5 =>
      have hk : k ∉ b' := fun q => ((hb k).mp q).elim (fun e => h2 (by rw [e]; exact hmo)) h1
      have hl : l ∉ b' := fun q => ((hb l).mp q).elim (fun e => h1 (ha k (by rw [← e]; exact h3))) h5
      exact .inr (.aF hk h2 h3 h4 hl)
    | @aS k l h1 h2 h3 h4 ih =>
      have hk : k ∉ b' := fun q => ((hb k).mp q).elim (fun e => h2 (by rw [e]; exact hmo)) h1
      rcases ih with e | ih
      · exact absurd (ha k (by rw [← e]; exact h3)) h1
      · exact .inr (.aS hk h2 h3 ih)
    | @bF k l h1 h2 h3 h4 h5 =>
      have hk : k ∉ b' := fun q => ((hb k).mp q).elim (fun e => h2 (by rw [e]; exact hmo)) h1
      exact .inr (.bF hk h2 h3 ((hb l).mpr (.inr h4)) h5)
    | @bS k l h1 h2 h3 h4 ih =>
      have hk : k ∉ b' := fun q => ((hb k).mp q).elim (fun e => h2 (by rw [e]; exact hmo)) h1
      rcases ih with e | ih
      · exact absurd hmo (by rw [← e]; exact h4.dark.2)
      · exact .inr (.bS hk h2 h3 ih)
  · induction h with
    | @aF k l h1 h2 h3 h4 h5 =>
      by_cases e : k = m
      · exact .inl e
      · have hk : k ∉ b' := fun q => ((hb k).mp q).elim e h1
        have hl : l ∉ b' := fun q => ((hb l).mp q).elim (fun e => hmo (by rw [← e]; exact h4)) h5
        exact .inr (.aF hk h2 h3 h4 hl)
    | @aS k l h1 h2 h3 h4 ih =>
      by_cases e : k = m
      · exact .inl e
      · have hk : k ∉ b' := fun q => ((hb k).mp q).elim e h1
        rcases ih with e2 | ih
        · exact absurd (ha k (by rw [← e2]; exact h3)) h1
        · exact .inr (.aS hk h2 h3 ih)
    | @bF k l h1 h2 h3 h4 h5 =>
      by_cases e : k = m
      · exact .inl e
      · have hk : k ∉ b' := fun q => ((hb k).mp q).elim e h1
        exact .inr (.bF hk h2 h3 ((hb l).mpr (.inr h4)) h5)
    | @bS k l h1 h2 h3 h4 ih =>
      by_cases e : k = m
      · exact .inl e
      · have hk : k ∉ b' := fun q => ((hb k).mp q).elim e h1
        rcases ih with e2 | ih
        · exact .inr (.bF hk h2 h3 ((hb l).mpr (.inl e2)) (by rw [e2]; exact hmo))
        · exact .inr (.bS hk h2 h3 ih)
/-- a putting out ahead -/
theorem spare_quench {E : Arr} {b b' other : List Int} {m : Int} (_hm : m ∈ b) (ha : ∀ j, (m, j) ∈ E → j ∈ b) (hb : ∀ k, k ∈ b' ↔ (k ≠ m ∧ k ∈ b)) {x : Int} (h : Spare E b other x) : Spare E b' other x := by
  have dn : ∀ {k}, k ∉ b → k ∉ b' := fun h1 q => h1 ((hb _).mp q).2
  induction h with
  | @aF k l h1 h2 h3 h4 h5 => exact .aF (dn h1) h2 h3 h4 (dn h5)
  | @aS k l h1 h2 h3 h4 ih => exact .aS (dn h1) h2 h3 ih
  | @bF k l h1 h2 h3 h4 h5 =>
    by_cases e : l = m
    · exact absurd (ha k (by rw [← e]; exact h3)) h1
    · exact .bF (dn h1) h2 h3 ((hb l).mpr ⟨e, h4⟩) h5
  | @bS k l h1 h2 h3 h4 ih => exact .bS (dn h1) h2 h3 ih
theorem lit_light {E : Arr} {b b' other : List Int} {m : Int} (hm : m ∉ b) (ha : ∀ j, (j, m) ∈ E → j ∈ b) (hb : ∀ k, k ∈ b' ↔ (k = m ∨ k ∈ b)) {x : Int} (h : Lit E b other x) : x = m ∨ Lit E b' other x := by
  rcases h with ⟨h1, h2⟩ | h
  · by_cases e : x = m
    · exact .inl e
    · exact .inr (.inl ⟨h1, fun q => ((hb x).mp q).elim e h2⟩)
  · exact (spare_light hm ha hb h).imp id .inr
theorem out_light {E : Arr} {b b' other : List Int} {m : Int} (hm : m ∉ b) (ha : ∀ j, (j, m) ∈ E → j ∈ b) (hb : ∀ k, k ∈ b' ↔ (k = m ∨ k ∈ b)) {x : Int} (h : Out E b other x) : Out E b' other x := by
  rcases h with ⟨h1, h2⟩ | h
  · exact .inl ⟨(hb x).mpr (.inr h1), h2⟩
  · rcases spare_light hm ha hb h with e | q
    · subst e
      exact .inl ⟨(hb x).mpr (.inl rfl), h.dark.2⟩
    · exact .inr q
theorem lit_quench {E : Arr} {b b' other : List Int} {m : Int} (hm : m ∈ b) (ha : ∀ j, (m, j) ∈ E → j ∈ b) (hb : ∀ k, k ∈ b' ↔ (k ≠ m ∧ k ∈ b)) {x : Int} (h : Lit E b other x) : Lit E b' other x := by
  rcases h with ⟨h1, h2⟩ | h
  · exact .inl ⟨h1, fun q => h2 ((hb x).mp q).2⟩
  · exact .inr (spare_quench hm ha hb h)
theorem out_quench {E : Arr} {b b' other : List Int} {m : Int} (hm : m ∈ b) (ha : ∀ j, (m, j) ∈ E → j ∈ b) (hb : ∀ k, k ∈ b' ↔ (k ≠ m ∧ k ∈ b)) {x : Int} (h : Out E b other x) : x = m ∨ Out E b' other x := by
  rcases h with ⟨h1, h2⟩ | h
  · by_cases e : x = m
    · exact .inl e
    · exact .inr (.inl ⟨(hb x).mpr ⟨e, h1⟩, h2⟩)
  · exact .inr (.inr (spare_quench hm ha hb h))

/-! ### sums over lamps -/
def sumP (n : Nat) (p : Int → Bool) (f : Int → Int) : Int := ((lst n p).map f).sum
theorem sumP_succ (n : Nat) (p : Int → Bool) (f : Int → Int) : sumP (n + 1) p f = sumP n p f + if p n = true then f n else 0 := by
  unfold sumP lst
  rw [rng_succ, List.filter_append, List.map_append, List.sum_append]
  congr 1
  by_cases h : p n = true <;> simp [h]
theorem sumP_mono {n : Nat} {p q : Int → Bool} {f : Int → Int} (hf : ∀ k, 0 ≤ f k) (h : ∀ k, 0 ≤ k → k < (n : Int) → p k = true → q k = true) : sumP n p f ≤ sumP n q f := by
  induction n with
  | zero => exact Int.le_of_eq (by simp [sumP, lst, rng])
  | succ n ih =>
    rw [sumP_succ, sumP_succ]
    have h1 := ih fun k a b => h k a (by omega)
    have h2 := h n (by omega) (by omega)
    have h3 := hf n
    cases hp : p n with
    | true =>
      rw [h2 hp]
      simp only [if_true]
      omega
    | false =>
      simp only [Bool.false_eq_true, if_false]
      split <;> omega
theorem sumP_but {n : Nat} {p q : Int → Bool} {f : Int → Int} {m : Int} (hf : ∀ k, 0 ≤ f k) (h : ∀ k, 0 ≤ k → k < (n : Int) → p k = true → k = m ∨ q k = true) : sumP n p f ≤ f m + sumP n q f := by
  induction n with
  | zero =>
    have := hf m
    have e1 : sumP 0 p f = 0 := by simp [sumP, lst, rng]
    have e2 : sumP 0 q f = 0 := by simp [sumP, lst, rng]
    omega
  | succ n ih =>
    rw [sumP_succ, sumP_succ]
    have h3 := hf n
    by_cases e : (n : Int) = m
    · have h1 : sumP n p f ≤ sumP n q f := sumP_mono hf fun k a b c => (h k a (by omega) c).resolve_left (by omega)
      rw [← e]
      split <;> split <;> omega
    · have h1 := ih fun k a b => h k a (by omega)
      have h2 := h n (by omega) (by omega)
      cases hp : p n with
      | true =>
        rw [(h2 hp).resolve_left e]
        simp only [if_true]
        omega
      | false =>
        simp only [Bool.false_eq_true, if_false]
        split <;> omega
theorem sumP_congr {n : Nat} {p q : Int → Bool} {f g : Int → Int} (h : ∀ k, 0 ≤ k → k < (n : Int) → p k = q k) (hf : ∀ k, 0 ≤ k → k < (n : Int) → f k = g k) : sumP n p f = sumP n q g := by
  unfold sumP
  rw [lst_congr h]
  congr 1
  exact List.map_congr_left fun k hk => hf k (mem_lst.mp hk).1.1 (mem_lst.mp hk).1.2

/-! ### the least cost -/
noncomputable def litB (E : Arr) (one other : List Int) (k : Int) : Bool := open Classical in decide (Lit E one other k)
noncomputable def outB (E : Arr) (one other : List Int) (k : Int) : Bool := open Classical in decide (Out E one other k)
theorem litB_iff {E : Arr} {one other : List Int} {k : Int} : litB E one other k = true ↔ Lit E one other k := by
  unfold litB
  exact @decide_eq_true_iff _ (_)
theorem outB_iff {E : Arr} {one other : List Int} {k : Int} : outB E one other k = true ↔ Out E one other k := by
  unfold outB
  exact @decide_eq_true_iff _ (_)
noncomputable def litL (n : Nat) (E : Arr) (one other : List Int) : List Int := lst n (litB E one other)
noncomputable def outL (n : Nat) (E : Arr) (one other : List Int) : List Int := lst n (outB E one other)
noncomputable def costOf (n : Nat) (E : Arr) (P : Prc) (one other : List Int) : Int := sumP n (litB E one other) (pL P) + sumP n (outB E one other) (pQ P)
theorem pL_nn {n : Nat} {P : Prc} (h : Prices n P) (k : Int) : 0 ≤ pL P k := (getD_inr h.inr k.toNat).1.1
theorem pQ_nn {n : Nat} {P : Prc} (h : Prices n P) (k : Int) : 0 ≤ pQ P k := (getD_inr h.inr k.toNat).2.1
theorem can_cases {E : Arr} {b : List Int} {k : Int} (h : can E b k = true) : (k ∉ b ∧ ∀ j, (j, k) ∈ E → j ∈ b) ∨ (k ∈ b ∧ ∀ j, (k, j) ∈ E → j ∈ b) := by
  unfold can canL canQ at h
  simp only [Bool.or_eq_true, Bool.and_eq_true, Bool.not_eq_true', decide_eq_false_iff_not, decide_eq_true_eq, allA_iff, allB_iff] at h
  exact h
theorem can_l {E : Arr} {b : List Int} {k : Int} (h : k ∉ b) (ha : ∀ j, (j, k) ∈ E → j ∈ b) : can E b k = true := by
  unfold can canL
  rw [allA_iff.mpr ha, decide_eq_false h] <;> rfl
theorem can_q {E : Arr} {b : List Int} {k : Int} (h : k ∈ b) (ha : ∀ j, (k, j) ∈ E → j ∈ b) : can E b k = true := by
  unfold can canQ
  rw [allB_iff.mpr ha, decide_eq_true h, Bool.and_true, Bool.or_true]
theorem cost_step {n : Nat} {E : Arr} {P : Prc} (HP : Prices n P) {b other : List Int} {l : Int} (hb : Std n b) (hl : 0 ≤ l ∧ l < (n : Int)) (hc : can E b l = true) :
    costOf n E P b other ≤ pOf P b l + costOf n E P (tog n b l) other := by
  unfold costOf
  rcases can_cases hc with ⟨h1, h2⟩ | ⟨h1, h2⟩
  · have hm : ∀ k, k ∈ tog n b l ↔ (k = l ∨ k ∈ b) := fun k => by
      rw [mem_tog hb hl]
      by_cases e : k = l
      · subst e
        simp [h1]
      · simp [e]
    have e1 : pOf P b l = pL P l := if_neg h1
    have a := sumP_but (n := n) (m := l) (q := litB E (tog n b l) other) (pL_nn HP) fun k _ _ (q : litB E b other k = true) => (lit_light h1 h2 hm (litB_iff.mp q)).imp id fun z => litB_iff.mpr z
    have c := sumP_mono (n := n) (q := outB E (tog n b l) other) (pQ_nn HP) fun k _ _ (q : outB E b other k = true) => outB_iff.mpr (out_light h1 h2 hm (outB_iff.mp q))
    rw [e1]
    omega
  · have hm : ∀ k, k ∈ tog n b l ↔ (k ≠ l ∧ k ∈ b) := fun k => by
      rw [mem_tog hb hl]
      by_cases e : k = l
      · subst e
        simp [h1]
      · simp [e]
    have e1 : pOf P b l = pQ P l := if_pos h1
    have a := sumP_but (n := n) (m := l) (q := outB E (tog n b l) other) (pQ_nn HP) fun k _ _ (q : outB E b other k = true) => (out_quench h1 h2 hm (outB_iff.mp q)).imp id fun z => outB_iff.mpr z
    have c := sumP_mono (n := n) (q := litB E (tog n b l) other) (pL_nn HP) fun k _ _ (q : litB E b other k = true) => litB_iff.mpr (lit_quench h1 h2 hm (litB_iff.mp q))
    rw [e1]
    omega
theorem spare_self {E : Arr} {b : List Int} {k : Int} (h : Spare E b b k) : False := by
  induction h with
  | aF _ _ _ h4 h5 => exact h5 h4
  | aS _ _ _ _ ih => exact ih
  | bF _ _ _ h4 h5 => exact h5 h4
  | bS _ _ _ _ ih => exact ih
theorem sumP_none {n : Nat} {p : Int → Bool} {f : Int → Int} (h : ∀ k, 0 ≤ k → k < (n : Int) → p k = false) : sumP n p f = 0 := by
  induction n with
  | zero => rfl
  | succ n ih =>
    rw [sumP_succ, ih fun k a b => h k a (by omega), h n (by omega) (by omega)]
    rfl
theorem cost_self (n : Nat) (E : Arr) (P : Prc) (b : List Int) : costOf n E P b b = 0 := by
  unfold costOf
  rw [sumP_none fun k _ _ => ?_, sumP_none fun k _ _ => ?_]
  · rfl
  · refine Bool.eq_false_iff.mpr fun q => ?_
    rcases outB_iff.mp q with h | h
    · exact h.2 h.1
    · exact spare_self h
  · refine Bool.eq_false_iff.mpr fun q => ?_
    rcases litB_iff.mp q with h | h
    · exact h.2 h.1
    · exact spare_self h
/-- no word costs less -/
theorem cost_le {n : Nat} {E : Arr} {P : Prc} (HP : Prices n P) {other : List Int} : ∀ (ws : List Int) (b : List Int), Std n b → runW n E b ws = some other → costOf n E P b other ≤ wcost n P b ws
  | [], b, _, h => by
    have e : b = other := Option.some.inj h
    rw [e, cost_self]
    exact Int.le_refl _
  | l :: ws, b, hb, h => by
    unfold runW at h
    by_cases hc : (decide (0 ≤ l ∧ l < (n : Int)) && can E b l) = true
    · rw [if_pos hc] at h
      rw [Bool.and_eq_true, decide_eq_true_eq] at hc
      have h1 := cost_step (other := other) HP hb hc.1 hc.2
      have h2 := cost_le HP ws (tog n b l) (std_tog _ _ _) h
      show _ ≤ pOf P b l + wcost n P (tog n b l) ws
      omega
    · rw [if_neg hc] at h
      cases h
end Hk
/-! HkM2: the word that lights first, the program's and the law's ways to the spare lamps. -/
namespace Hk
/-! ### words, one behind another -/
theorem runW_append {n : Nat} {E : Arr} : ∀ (u : List Int) (b : List Int) (v : List Int) {c : List Int}, runW n E b u = some c → runW n E b (u ++ v) = runW n E c v
  | [], b, v, c, h => by
    cases h
    rfl
  | l :: u, b, v, c, h => by
    unfold runW at h
    show runW n E b (l :: (u ++ v)) = _
    conv => lhs; unfold runW
    by_cases hc : (decide (0 ≤ l ∧ l < (n : Int)) && can E b l) = true
    · rw [if_pos hc] at h ⊢
      exact runW_append u _ v h
    · rw [if_neg hc] at h
      cases h
theorem wcost_append {n : Nat} {E : Arr} {P : Prc} : ∀ (u : List Int) (b : List Int) (v : List Int) {c : List Int}, runW n E b u = some c → wcost n P b (u ++ v) = wcost n P b u + wcost n P c v
  | [], b, v, c, h => by
    cases h
    show wcost n P b v = 0 + wcost n P b v
    omega
  | l :: u, b, v, c, h => by
    unfold runW at h
    by_cases hc : (decide (0 ≤ l ∧ l < (n : Int)) && can E b l) = true
    · rw [if_pos hc] at h
      have ih := wcost_append (P := P) u _ v h
      show pOf P b l + wcost n P (tog n b l) (u ++ v) = (pOf P b l + wcost n P (tog n b l) u) + wcost n P c v
      omega
    · rw [if_neg hc] at h
      cases h
theorem runW_std {n : Nat} {E : Arr} : ∀ (u : List Int) (b : List Int) {c : List Int}, Std n b → runW n E b u = some c → Std n c
  | [], b, c, hb, h => by
    cases h
    exact hb
  | l :: u, b, c, hb, h => by
    unfold runW at h
    by_cases hc : (decide (0 ≤ l ∧ l < (n : Int)) && can E b l) = true
    · rw [if_pos hc] at h
      exact runW_std u _ (std_tog _ _ _) h
    · rw [if_neg hc] at h
      cases h
theorem runW_one {n : Nat} {E : Arr} {b : List Int} {l : Int} (hl : 0 ≤ l ∧ l < (n : Int)) (hc : can E b l = true) : runW n E b [l] = some (tog n b l) := by
  unfold runW
  rw [hc, decide_eq_true hl]
  rfl
theorem lst_succ (t : Nat) (p : Int → Bool) : lst (t + 1) p = lst t p ++ if p t = true then [(t : Int)] else [] := by
  unfold lst
  rw [rng_succ, List.filter_append]
  congr 1
  by_cases h : p t = true <;> simp [h]
theorem lst_zero (p : Int → Bool) : lst 0 p = [] := by simp [lst, rng]
theorem sumP_zero (p : Int → Bool) (f : Int → Int) : sumP 0 p f = 0 := by simp [sumP, lst_zero]
/-- lightings, by lamps -/
theorem run_lights {n : Nat} {E : Arr} {P : Prc} {one : List Int} (W : Web n E) (h1 : Std n one) (p : Int → Bool) (hn : ∀ k, p k = true → k ∉ one) (ha : ∀ k j, p k = true → (j, k) ∈ E → j ∈ one ∨ p j = true) : ∀ t, t ≤ n →
    runW n E one (lst t p) = some (lst n fun k => decide (k ∈ one) || (p k && decide (k < (t : Int)))) ∧ wcost n P one (lst t p) = sumP t p (pL P)
  | 0, _ => by
    rw [lst_zero, sumP_zero]
    refine ⟨congrArg some (std_of_mem h1 _ fun k h0 _ => ?_), rfl⟩
    have q : decide (k < ((0 : Nat) : Int)) = false := decide_eq_false (by omega)
    rw [q, Bool.and_false, Bool.or_false, decide_eq_true_eq]
  | t + 1, ht => by
    obtain ⟨r, c⟩ := run_lights (P := P) W h1 p hn ha t (by omega)
    rw [lst_succ, sumP_succ]
    by_cases hp : p t = true
    · rw [if_pos hp, if_pos hp, runW_append _ _ _ r, wcost_append _ _ _ r, c]
      have hl : (0 : Int) ≤ (t : Int) ∧ (t : Int) < (n : Int) := by omega
      have m : ∀ k, k ∈ (lst n fun k => decide (k ∈ one) || (p k && decide (k < (t : Int)))) ↔ (k ∈ one ∨ (p k = true ∧ k < (t : Int) ∧ 0 ≤ k)) := fun k => by
        rw [mem_lst]
        simp only [Bool.or_eq_true, Bool.and_eq_true, decide_eq_true_eq]
        constructor
        · rintro ⟨q0, q | q⟩
          · exact .inl q
          · exact .inr ⟨q.1, q.2, q0.1⟩
        · rintro (q | q)
          · exact ⟨h1.inr k q, .inl q⟩
          · exact ⟨by omega, .inr ⟨q.1, q.2.1⟩⟩
      have hno : (t : Int) ∉ (lst n fun k => decide (k ∈ one) || (p k && decide (k < (t : Int)))) := fun q => by
        rcases (m _).mp q with q | q
        · exact hn _ hp q
        · omega
      have hcan : can E (lst n fun k => decide (k ∈ one) || (p k && decide (k < (t : Int)))) t = true := can_l hno fun j hj => (m j).mpr (by
        have u := W.up _ hj
        simp only at u
        rcases ha _ j hp hj with q | q
        · exact .inl q
        · exact .inr ⟨q, u.2.1, u.1⟩)
      rw [runW_one hl hcan]
      refine ⟨congrArg some (std_of_mem (std_tog _ _ _) _ fun k h0 hk => ?_), ?_⟩
      · rw [mem_tog (std_lst _ _) hl]
        simp only [Bool.or_eq_true, Bool.and_eq_true, decide_eq_true_eq]
        by_cases e : k = (t : Int)
        · subst e
          rw [if_pos rfl]
          exact ⟨fun _ => .inr ⟨hp, by omega⟩, fun _ => hno⟩
        · rw [if_neg e, m]
          constructor
          · rintro (q | q)
            · exact .inl q
            · exact .inr ⟨q.1, by omega⟩
          · rintro (q | q)
            · exact .inl q
            · exact .inr ⟨q.1, by omega, h0⟩
      · show sumP t p (pL P) + (pOf P _ _ + 0) = _
        rw [show pOf P (lst n fun k => decide (k ∈ one) || (p k && decide (k < (t : Int)))) t = pL P t from if_neg hno]
        omega
    · rw [if_neg hp, if_neg hp, List.append_nil, r, c]
      refine ⟨congrArg some (lst_congr fun k h0 hk => ?_), by omega⟩
      by_cases e : k = (t : Int)
      · subst e
        simp [hp]
      · have q : decide (k < (t : Int)) = decide (k < ((t + 1 : Nat) : Int)) := decide_eq_decide.mpr (by omega)
        rw [q]
/-- puttings out, by lamps -/
theorem run_quenches {n : Nat} {E : Arr} {P : Prc} {one : List Int} (W : Web n E) (h1 : Std n one) (p : Int → Bool) (hn : ∀ k, p k = true → k ∈ one) (ha : ∀ k j, p k = true → (k, j) ∈ E → j ∈ one) : ∀ t, t ≤ n →
    runW n E one (lst t p) = some (lst n fun k => decide (k ∈ one) && !(p k && decide (k < (t : Int)))) ∧ wcost n P one (lst t p) = sumP t p (pQ P)
  | 0, _ => by
    rw [lst_zero, sumP_zero]
    refine ⟨congrArg some (std_of_mem h1 _ fun k h0 _ => ?_), rfl⟩
    have q : decide (k < ((0 : Nat) : Int)) = false := decide_eq_false (by omega)
    rw [q, Bool.and_false]
    simp
  | t + 1, ht => by
    obtain ⟨r, c⟩ := run_quenches (P := P) W h1 p hn ha t (by omega)
    rw [lst_succ, sumP_succ]
    by_cases hp : p t = true
    · rw [if_pos hp, if_pos hp, runW_append _ _ _ r, wcost_append _ _ _ r, c]
      have hl : (0 : Int) ≤ (t : Int) ∧ (t : Int) < (n : Int) := by omega
      have m : ∀ k, k ∈ (lst n fun k => decide (k ∈ one) && !(p k && decide (k < (t : Int)))) ↔ (k ∈ one ∧ ¬ (p k = true ∧ k < (t : Int))) := fun k => by
        rw [mem_lst]
        simp only [Bool.and_eq_true, Bool.not_eq_true', Bool.and_eq_false_iff, decide_eq_true_eq, decide_eq_false_iff_not]
        constructor
        · rintro ⟨q0, q, q2⟩
          refine ⟨q, fun z => ?_⟩
          rcases q2 with q2 | q2
          · rw [z.1] at q2
            cases q2
          · exact q2 z.2
        · rintro ⟨q, q2⟩
          refine ⟨h1.inr k q, q, ?_⟩
          by_cases e : p k = true
          · exact .inr fun z => q2 ⟨e, z⟩
          · exact .inl (Bool.eq_false_iff.mpr e)
      have hyes : (t : Int) ∈ (lst n fun k => decide (k ∈ one) && !(p k && decide (k < (t : Int)))) := (m _).mpr ⟨hn _ hp, by omega⟩
      have hcan : can E (lst n fun k => decide (k ∈ one) && !(p k && decide (k < (t : Int)))) t = true := can_q hyes fun j hj => (m j).mpr (by
        have u := W.up _ hj
        simp only at u
        exact ⟨ha _ j hp hj, by omega⟩)
      rw [runW_one hl hcan]
      refine ⟨congrArg some (std_of_mem (std_tog _ _ _) _ fun k h0 hk => ?_), ?_⟩
      · rw [mem_tog (std_lst _ _) hl]
        simp only [Bool.and_eq_true, Bool.not_eq_true', Bool.and_eq_false_iff, decide_eq_true_eq, decide_eq_false_iff_not]
        by_cases e : k = (t : Int)
        · subst e
          rw [if_pos rfl]
          refine ⟨fun q => absurd hyes q, fun q => ?_⟩
          rcases q.2 with z | z
          · rw [hp] at z
            cases z
          · omega
        · rw [if_neg e, m]
          constructor
          · rintro ⟨q, q2⟩
            refine ⟨q, ?_⟩
            by_cases e2 : p k = true
            · exact .inr fun z => q2 ⟨e2, by omega⟩
            · exact .inl (Bool.eq_false_iff.mpr e2)
          · rintro ⟨q, q2⟩
            refine ⟨q, fun z => ?_⟩
            rcases q2 with q2 | q2
            · rw [z.1] at q2
              cases q2
            · omega
      · show sumP t p (pQ P) + (pOf P _ _ + 0) = _
        rw [show pOf P (lst n fun k => decide (k ∈ one) && !(p k && decide (k < (t : Int)))) t = pQ P t from if_pos hyes]
        omega
    · rw [if_neg hp, if_neg hp, List.append_nil, r, c]
      refine ⟨congrArg some (lst_congr fun k h0 hk => ?_), by omega⟩
      by_cases e : k = (t : Int)
      · subst e
        simp [hp]
      · have q : decide (k < (t : Int)) = decide (k < ((t + 1 : Nat) : Int)) := decide_eq_decide.mpr (by omega)
        rw [q]
/-- the law's word: all lightings, then all puttings out -/
noncomputable def wordOf (n : Nat) (E : Arr) (one other : List Int) : List Int := litL n E one other ++ outL n E one other
theorem word_run {n : Nat} {E : Arr} {P : Prc} {one other : List Int} (W : Web n E) (h1 : Std n one) (h2 : Std n other) :
    runW n E one (wordOf n E one other) = some other ∧ wcost n P one (wordOf n E one other) = costOf n E P one other := by
  obtain ⟨r, c⟩ := run_lights (P := P) W h1 (litB E one other) (fun k q => (litB_iff.mp q).elim (fun z => z.2) fun z => z.dark.1)
    (fun k j q hj => by
      by_cases h : j ∈ one
      · exact .inl h
      · refine .inr (litB_iff.mpr ?_)
        by_cases h' : j ∈ other
        · exact .inl ⟨h', h⟩
        · exact .inr (.a h h' hj (litB_iff.mp q))) n (Nat.le_refl _)
  have m : ∀ k, k ∈ (lst n fun k => decide (k ∈ one) || (litB E one other k && decide (k < (n : Int)))) ↔ ((k ∈ one ∨ Lit E one other k) ∧ 0 ≤ k ∧ k < (n : Int)) := fun k => by
    rw [mem_lst]
    simp only [Bool.or_eq_true, Bool.and_eq_true, decide_eq_true_eq, litB_iff]
    constructor
    · rintro ⟨q0, q | q⟩
      · exact ⟨.inl q, q0⟩
      · exact ⟨.inr q.1, q0⟩
    · rintro ⟨q | q, q0⟩
      · exact ⟨q0, .inl q⟩
      · exact ⟨q0, .inr ⟨q, q0.2⟩⟩
  obtain ⟨r2, c2⟩ := run_quenches (P := P) W (std_lst n fun k => decide (k ∈ one) || (litB E one other k && decide (k < (n : Int)))) (outB E one other)
    (fun k q => (m k).mpr (by
      rcases outB_iff.mp q with z | z
      · exact ⟨.inl z.1, h1.inr k z.1⟩
      · exact ⟨.inr (.inr z), z.inr W⟩))
    (fun k j q hj => (m j).mpr (by
      have u := W.up _ hj
      simp only at u
      refine ⟨?_, by omega⟩
      by_cases h : j ∈ one
      · exact .inl h
      · refine .inr ?_
        by_cases h' : j ∈ other
        · exact .inl ⟨h', h⟩
        · exact .inr (.b h h' hj (outB_iff.mp q)))) n (Nat.le_refl _)
  unfold wordOf litL outL
  rw [runW_append _ _ _ r, wcost_append _ _ _ r, c, r2, c2]
  refine ⟨congrArg some (std_of_mem h2 _ fun k h0 hk => ?_).symm, rfl⟩
  simp only [Bool.and_eq_true, Bool.not_eq_true', Bool.and_eq_false_iff, decide_eq_true_eq, decide_eq_false_iff_not, m]
  constructor
  · intro q
    refine ⟨⟨?_, h0, hk⟩, .inl (Bool.eq_false_iff.mpr fun z => ?_)⟩
    · by_cases h : k ∈ one
      · exact .inl h
      · exact .inr (.inl ⟨q, h⟩)
    · rcases outB_iff.mp z with z | z
      · exact z.2 q
      · exact z.dark.2 q
  · rintro ⟨⟨q, _⟩, q2⟩
    rcases q2 with q2 | q2
    · by_cases h : k ∈ other
      · exact h
      · exfalso
        refine (Bool.eq_false_iff.mp q2) (outB_iff.mpr ?_)
        rcases q with q | q
        · exact .inl ⟨q, h⟩
        · rcases q with q | q
          · exact absurd q.1 h
          · exact .inr q
    · exact absurd hk q2

/-! ### which lamps some lamps need -/
def needsA (E : Arr) (one other some : List Int) (k : Int) : Bool := E.any fun p => (p.1 == k) && ((decide (p.2 ∈ other) && !decide (p.2 ∈ one)) || decide (p.2 ∈ some))
def needsB (E : Arr) (one other some : List Int) (k : Int) : Bool := E.any fun p => (p.2 == k) && ((decide (p.1 ∈ one) && !decide (p.1 ∈ other)) || decide (p.1 ∈ some))
def needs (E : Arr) (one other some : List Int) (k : Int) : Bool := (!decide (k ∈ one) && !decide (k ∈ other)) && (needsA E one other some k || needsB E one other some k)
theorem needsA_iff {E : Arr} {one other some : List Int} {k : Int} : needsA E one other some k = true ↔ ∃ l, (k, l) ∈ E ∧ ((l ∈ other ∧ l ∉ one) ∨ l ∈ some) := by
  unfold needsA
  rw [List.any_eq_true]
  constructor
  · rintro ⟨⟨j, l⟩, hp, q⟩
    simp only [Bool.and_eq_true, Bool.or_eq_true, beq_iff_eq, decide_eq_true_eq, Bool.not_eq_true', decide_eq_false_iff_not] at q
    obtain ⟨rfl, q⟩ := q
    exact ⟨l, hp, q⟩
  · rintro ⟨l, hp, q⟩
    refine ⟨(k, l), hp, ?_⟩
    simp only [Bool.and_eq_true, Bool.or_eq_true, beq_iff_eq, decide_eq_true_eq, Bool.not_eq_true', decide_eq_false_iff_not]
    exact ⟨trivial, q⟩
theorem needsB_iff {E : Arr} {one other some : List Int} {k : Int} : needsB E one other some k = true ↔ ∃ l, (l, k) ∈ E ∧ ((l ∈ one ∧ l ∉ other) ∨ l ∈ some) := by
  unfold needsB
  rw [List.any_eq_true]
  constructor
  · rintro ⟨⟨l, j⟩, hp, q⟩
    simp only [Bool.and_eq_true, Bool.or_eq_true, beq_iff_eq, decide_eq_true_eq, Bool.not_eq_true', decide_eq_false_iff_not] at q
    obtain ⟨rfl, q⟩ := q
    exact ⟨l, hp, q⟩
  · rintro ⟨l, hp, q⟩
    refine ⟨(l, k), hp, ?_⟩
    simp only [Bool.and_eq_true, Bool.or_eq_true, beq_iff_eq, decide_eq_true_eq, Bool.not_eq_true', decide_eq_false_iff_not]
    exact ⟨trivial, q⟩
theorem needs_iff {E : Arr} {one other some : List Int} {k : Int} : needs E one other some k = true ↔ (k ∉ one ∧ k ∉ other) ∧ ((∃ l, (k, l) ∈ E ∧ ((l ∈ other ∧ l ∉ one) ∨ l ∈ some)) ∨ ∃ l, (l, k) ∈ E ∧ ((l ∈ one ∧ l ∉ other) ∨ l ∈ some)) := by
  unfold needs
  simp only [Bool.and_eq_true, Bool.or_eq_true, Bool.not_eq_true', decide_eq_false_iff_not, needsA_iff, needsB_iff]
theorem needs_spare {E : Arr} {one other some : List Int} (h : ∀ k ∈ some, Spare E one other k) {k : Int} (q : needs E one other some k = true) : Spare E one other k := by
  obtain ⟨⟨h1, h2⟩, ⟨l, hl, z | z⟩ | ⟨l, hl, z | z⟩⟩ := needs_iff.mp q
  · exact .aF h1 h2 hl z.1 z.2
  · exact .aS h1 h2 hl (h l z)
  · exact .bF h1 h2 hl z.1 z.2
  · exact .bS h1 h2 hl (h l z)
theorem needs_mono {E : Arr} {one other s t : List Int} (h : ∀ k ∈ s, k ∈ t) {k : Int} (q : needs E one other s k = true) : needs E one other t k = true := by
  obtain ⟨d, ⟨l, hl, z | z⟩ | ⟨l, hl, z | z⟩⟩ := needs_iff.mp q
  · exact needs_iff.mpr ⟨d, .inl ⟨l, hl, .inl z⟩⟩
  · exact needs_iff.mpr ⟨d, .inl ⟨l, hl, .inr (h l z)⟩⟩
  · exact needs_iff.mpr ⟨d, .inr ⟨l, hl, .inl z⟩⟩
  · exact needs_iff.mpr ⟨d, .inr ⟨l, hl, .inr (h l z)⟩⟩
/-- what holds all that it needs holds all spare lamps -/
theorem spare_closed {E : Arr} {one other s : List Int} (h : ∀ k, needs E one other s k = true → k ∈ s) {k : Int} (q : Spare E one other k) : k ∈ s := by
  induction q with
  | @aF k l h1 h2 h3 h4 h5 => exact h k (needs_iff.mpr ⟨⟨h1, h2⟩, .inl ⟨l, h3, .inl ⟨h4, h5⟩⟩⟩)
  | @aS k l h1 h2 h3 h4 ih => exact h k (needs_iff.mpr ⟨⟨h1, h2⟩, .inl ⟨l, h3, .inr ih⟩⟩)
  | @bF k l h1 h2 h3 h4 h5 => exact h k (needs_iff.mpr ⟨⟨h1, h2⟩, .inr ⟨l, h3, .inl ⟨h4, h5⟩⟩⟩)
  | @bS k l h1 h2 h3 h4 ih => exact h k (needs_iff.mpr ⟨⟨h1, h2⟩, .inr ⟨l, h3, .inr ih⟩⟩)
theorem needs_inr {n : Nat} {E : Arr} (W : Web n E) {one other s : List Int} {k : Int} (q : needs E one other s k = true) : 0 ≤ k ∧ k < (n : Int) := by
  obtain ⟨d, ⟨l, hl, _⟩ | ⟨l, hl, _⟩⟩ := needs_iff.mp q <;> have := W.up _ hl <;> simp only at this <;> omega
noncomputable def spareB (E : Arr) (one other : List Int) (k : Int) : Bool := open Classical in decide (Spare E one other k)
theorem spareB_iff {E : Arr} {one other : List Int} {k : Int} : spareB E one other k = true ↔ Spare E one other k := by
  unfold spareB
  exact @decide_eq_true_iff _ (_)
noncomputable def spareL (n : Nat) (E : Arr) (one other : List Int) : List Int := lst n (spareB E one other)
theorem mem_spareL {n : Nat} {E : Arr} (W : Web n E) {one other : List Int} {k : Int} : k ∈ spareL n E one other ↔ Spare E one other k := by
  unfold spareL
  rw [mem_lst, spareB_iff]
  exact ⟨fun q => q.2, fun q => ⟨q.inr W, q⟩⟩

/-! the program's loop -/
def needL (n : Nat) (E : Arr) (one other some : List Int) : List Int := lst n (needs E one other some)
def grow (n : Nat) (E : Arr) (one other some : List Int) : List Int := lst n fun k => decide (k ∈ some) || needs E one other some k
structure Grows (n : Nat) (E : Arr) (one other s : List Int) : Prop where
  std : Std n s
  spare : ∀ k ∈ s, Spare E one other k
  back : ∀ k ∈ s, needs E one other s k = true
theorem Grows.nil (n : Nat) (E : Arr) (one other : List Int) : Grows n E one other [] := ⟨⟨List.Pairwise.nil, by simp⟩, by simp, by simp⟩
theorem len_lt {n : Nat} {s t : List Int} (hs : Std n s) (ht : Std n t) (h : ∀ k ∈ s, k ∈ t) (hne : s ≠ t) : s.length < t.length := by
  have h1 : s.length ≤ t.length := (nodup_asc hs.asc).length_le_of_subset h
  refine Nat.lt_of_le_of_ne h1 fun e => hne ?_
  refine asc_ext hs.asc ht.asc fun k => ⟨h k, fun hk => ?_⟩
  by_cases q : k ∈ s
  · exact q
  · have h2 : (k :: s).Nodup := List.nodup_cons.mpr ⟨q, nodup_asc hs.asc⟩
    have h3 := h2.length_le_of_subset (l₂ := t) fun x hx => (List.mem_cons.mp hx).elim (fun e => e ▸ hk) (h x)
    rw [List.length_cons] at h3
    omega
theorem Grows.step {n : Nat} {E : Arr} (W : Web n E) {one other s : List Int} (g : Grows n E one other s) (hne : needL n E one other s ≠ s) :
    Grows n E one other (grow n E one other s) ∧ s.length < (grow n E one other s).length := by
  have m : ∀ k, k ∈ grow n E one other s ↔ (k ∈ s ∨ needs E one other s k = true) := fun k => by
    unfold grow
    rw [mem_lst]
    simp only [Bool.or_eq_true, decide_eq_true_eq]
    exact ⟨fun q => q.2, fun q => ⟨q.elim (g.std.inr k) (needs_inr W), q⟩⟩
  refine ⟨⟨std_lst _ _, fun k hk => ?_, fun k hk => ?_⟩, len_lt g.std (std_lst _ _) (fun k hk => (m k).mpr (.inl hk)) fun e => hne ?_⟩
  · exact ((m k).mp hk).elim (g.spare k) (needs_spare g.spare)
  · exact ((m k).mp hk).elim (fun q => needs_mono (fun j hj => (m j).mpr (.inl hj)) (g.back k q)) fun q => needs_mono (fun j hj => (m j).mpr (.inl hj)) q
  · refine asc_ext (lst_asc _ _) g.std.asc fun k => ?_
    unfold needL
    rw [mem_lst]
    constructor
    · intro q
      have : k ∈ grow n E one other s := (m k).mpr (.inr q.2)
      rwa [← e] at this
    · intro q
      exact ⟨g.std.inr k q, g.back k q⟩
theorem Grows.done {n : Nat} {E : Arr} (W : Web n E) {one other s : List Int} (g : Grows n E one other s) (he : needL n E one other s = s) : s = spareL n E one other := by
  refine asc_ext g.std.asc (lst_asc _ _) fun k => ?_
  rw [mem_spareL W]
  refine ⟨g.spare k, fun q => spare_closed (fun j hj => ?_) q⟩
  rw [← he]
  exact mem_lst.mpr ⟨needs_inr W hj, hj⟩

/-! the law's loops -/
def dark (n : Nat) (one other : List Int) : List Int := lst n fun k => !decide (k ∈ one) && !decide (k ∈ other)
theorem mem_dark {n : Nat} {one other : List Int} {k : Int} : k ∈ dark n one other ↔ (0 ≤ k ∧ k < (n : Int)) ∧ k ∉ one ∧ k ∉ other := by
  unfold dark
  rw [mem_lst]
  simp only [Bool.and_eq_true, Bool.not_eq_true', decide_eq_false_iff_not]
def turn (n : Nat) (E : Arr) (one other s : List Int) (k : Int) : List Int :=
  if !decide (k ∈ s) && (needsA E one other s k || needsB E one other s k) then lst n fun j => decide (j ∈ s) || (j == k) else s
def pass (n : Nat) (E : Arr) (one other : List Int) (s ks : List Int) : List Int := ks.foldl (turn n E one other) s
structure Sdk (n : Nat) (E : Arr) (one other s : List Int) : Prop where
  std : Std n s
  spare : ∀ k ∈ s, Spare E one other k
theorem Sdk.nil (n : Nat) (E : Arr) (one other : List Int) : Sdk n E one other [] := ⟨⟨List.Pairwise.nil, by simp⟩, by simp⟩
theorem turn_no {n : Nat} {E : Arr} {one other s : List Int} {k : Int} (h : ¬ (!decide (k ∈ s) && (needsA E one other s k || needsB E one other s k)) = true) : turn n E one other s k = s := if_neg h
theorem mem_turn {n : Nat} {E : Arr} {one other s : List Int} {k : Int} (hs : Std n s) (hk : 0 ≤ k ∧ k < (n : Int)) (h : (!decide (k ∈ s) && (needsA E one other s k || needsB E one other s k)) = true) (j : Int) : j ∈ turn n E one other s k ↔ (j = k ∨ j ∈ s) := by
  unfold turn
  rw [if_pos h, mem_lst]
  simp only [Bool.or_eq_true, decide_eq_true_eq, beq_iff_eq]
  constructor
  · rintro ⟨_, q | q⟩
    · exact .inr q
    · exact .inl q
  · rintro (q | q)
    · exact ⟨by omega, .inr q⟩
    · exact ⟨hs.inr j q, .inl q⟩
theorem Sdk.tstep {n : Nat} {E : Arr} {one other s : List Int} {k : Int} (g : Sdk n E one other s) (hk : k ∈ dark n one other) : Sdk n E one other (turn n E one other s k) ∧ (turn n E one other s k = s ∨ s.length < (Hk.turn n E one other s k).length) := by
  obtain ⟨h0, h1, h2⟩ := mem_dark.mp hk
  by_cases h : (!decide (k ∈ s) && (needsA E one other s k || needsB E one other s k)) = true
  · have m := mem_turn g.std h0 h
    have st : Std n (Hk.turn n E one other s k) := by
      unfold Hk.turn
      rw [if_pos h]
      exact std_lst _ _
    have h' := h
    simp only [Bool.and_eq_true, Bool.not_eq_true', decide_eq_false_iff_not, Bool.or_eq_true] at h'
    refine ⟨⟨st, fun j hj => ((m j).mp hj).elim (fun e => ?_) (g.spare j)⟩, .inr (len_lt g.std st (fun j hj => (m j).mpr (.inr hj)) fun e => h'.1 ?_)⟩
    · subst e
      refine needs_spare g.spare (some := s) ?_
      unfold needs
      simp only [Bool.and_eq_true, Bool.not_eq_true', decide_eq_false_iff_not, Bool.or_eq_true]
      exact ⟨⟨h1, h2⟩, h'.2⟩
    · rw [e]
      exact (m k).mpr (.inl rfl)
  · rw [turn_no h]
    exact ⟨g, .inl rfl⟩
theorem Sdk.ppass {n : Nat} {E : Arr} {one other : List Int} : ∀ (ks : List Int) {s : List Int}, Sdk n E one other s → (∀ k ∈ ks, k ∈ dark n one other) →
    Sdk n E one other (pass n E one other s ks) ∧ ((Hk.pass n E one other s ks = s ∧ ∀ k ∈ ks, needs E one other s k = true → k ∈ s) ∨ s.length < (Hk.pass n E one other s ks).length)
  | [], s, g, _ => ⟨g, .inl ⟨rfl, by simp⟩⟩
  | k :: ks, s, g, h => by
    obtain ⟨g1, q1⟩ := g.tstep (h k List.mem_cons_self)
    obtain ⟨g2, q2⟩ := Sdk.ppass ks g1 fun j hj => h j (List.mem_cons_of_mem _ hj)
    refine ⟨g2, ?_⟩
    show (Hk.pass n E one other (turn n E one other s k) ks = s ∧ _) ∨ s.length < (Hk.pass n E one other (turn n E one other s k) ks).length
    rcases q1 with q1 | q1
    · rw [q1] at q2 ⊢
      rcases q2 with ⟨q2, q3⟩ | q2
      · refine .inl ⟨q2, fun j hj hn => ?_⟩
        rcases List.mem_cons.mp hj with e | hj
        · subst e
          by_cases hm : j ∈ s
          · exact hm
          · have hn' := hn
            unfold needs at hn'
            simp only [Bool.and_eq_true] at hn'
            have hc : (!decide (j ∈ s) && (needsA E one other s j || needsB E one other s j)) = true := by
              rw [decide_eq_false hm, hn'.2]
              rfl
            have := (mem_turn g.std (mem_dark.mp (h j List.mem_cons_self)).1 hc j).mpr (.inl rfl)
            rwa [q1] at this
        · exact q3 j hj hn
      · exact .inr q2
    · rcases q2 with ⟨q2, _⟩ | q2
      · rw [q2]
        exact .inr q1
      · exact .inr (by omega)
def passes (n : Nat) (E : Arr) (one other : List Int) : Nat → List Int
  | 0 => []
  | t + 1 => pass n E one other (passes n E one other t) (dark n one other)
theorem passes_ok {n : Nat} {E : Arr} (W : Web n E) {one other : List Int} : ∀ t, Sdk n E one other (passes n E one other t) ∧ ((∀ k, needs E one other (passes n E one other t) k = true → k ∈ passes n E one other t) ∨ t ≤ (passes n E one other t).length)
  | 0 => ⟨Sdk.nil _ _ _ _, .inr (Nat.zero_le _)⟩
  | t + 1 => by
    obtain ⟨g, q⟩ := passes_ok W (one := one) (other := other) t
    obtain ⟨g2, q2⟩ := Sdk.ppass (dark n one other) g fun _ h => h
    refine ⟨g2, ?_⟩
    show (∀ k, needs E one other (pass n E one other (passes n E one other t) (dark n one other)) k = true → k ∈ pass n E one other (passes n E one other t) (dark n one other)) ∨ t + 1 ≤ (pass n E one other (passes n E one other t) (dark n one other)).length
    rcases q2 with ⟨q2, q3⟩ | q2
    · rw [q2]
      refine .inl fun k hk => q3 k (mem_dark.mpr ⟨needs_inr W hk, (needs_iff.mp hk).1⟩) hk
    · rcases q with q | q
      · exfalso
        have st : ∀ (ks : List Int), pass n E one other (passes n E one other t) ks = passes n E one other t ∨ ¬ ∀ k ∈ ks, k ∈ dark n one other := fun ks => by
          induction ks with
          | nil => exact .inl rfl
          | cons k ks ih =>
            by_cases hk : k ∈ dark n one other
            · have e : turn n E one other (passes n E one other t) k = passes n E one other t := turn_no fun z => by
                simp only [Bool.and_eq_true, Bool.not_eq_true', decide_eq_false_iff_not] at z
                refine z.1 (q k ?_)
                unfold needs
                obtain ⟨_, h1, h2⟩ := mem_dark.mp hk
                rw [decide_eq_false h1, decide_eq_false h2, z.2]
                rfl
              rcases ih with ih | ih
              · refine .inl ?_
                show pass n E one other (turn n E one other (passes n E one other t) k) ks = _
                rw [e, ih]
              · exact .inr fun z => ih fun j hj => z j (List.mem_cons_of_mem _ hj)
            · exact .inr fun z => hk (z k List.mem_cons_self)
        rcases st (dark n one other) with e | e
        · rw [e] at q2
          omega
        · exact e fun _ h => h
      · exact .inr (by omega)
theorem passes_spare {n : Nat} {E : Arr} (W : Web n E) {one other : List Int} : passes n E one other n = spareL n E one other := by
  obtain ⟨g, q⟩ := passes_ok W (one := one) (other := other) n
  refine asc_ext g.std.asc (lst_asc _ _) fun k => ?_
  rw [mem_spareL W]
  refine ⟨g.spare k, fun h => ?_⟩
  rcases q with q | q
  · exact spare_closed q h
  · by_cases hm : k ∈ passes n E one other n
    · exact hm
    · have h2 : (k :: passes n E one other n).Nodup := List.nodup_cons.mpr ⟨hm, nodup_asc g.std.asc⟩
      have h3 := h2.length_le_of_subset (l₂ := rng n) fun x hx => (List.mem_cons.mp hx).elim (fun e => mem_rng.mpr (e ▸ h.inr W)) fun z => mem_rng.mpr (g.std.inr x z)
      rw [List.length_cons, rng_len] at h3
      omega

/-! ### a deed can always be done -/
theorem some_deed {n : Nat} {E : Arr} (W : Web n E) {b : List Int} (_hb : Std n b) : ∃ k, (0 ≤ k ∧ k < (n : Int)) ∧ can E b k = true := by
  have key : ∀ t : Nat, t ≤ n → (∃ k, (0 ≤ k ∧ k < (n : Int)) ∧ can E b k = true) ∨ ∀ k : Int, 0 ≤ k → k < (t : Int) → k ∈ b := fun t => by
    induction t with
    | zero => exact fun _ => .inr fun k h0 h1 => by omega
    | succ t ih =>
      intro ht
      rcases ih (by omega) with h | h
      · exact .inl h
      · by_cases hm : (t : Int) ∈ b
        · refine .inr fun k h0 h1 => ?_
          by_cases e : k = (t : Int)
          · rw [e]
            exact hm
          · exact h k h0 (by omega)
        · refine .inl ⟨t, by omega, can_l hm fun j hj => ?_⟩
          have u := W.up _ hj
          simp only at u
          exact h j u.1 u.2.1
  rcases key n (Nat.le_refl _) with h | h
  · exact h
  · have hp := W.pos
    refine ⟨(n : Int) - 1, by omega, can_q (h _ (by omega) (by omega)) fun j hj => ?_⟩
    have u := W.up _ hj
    simp only at u
    omega
end Hk
/-! HkM3: all standings; the law's costs, made better until nothing changes. -/
namespace Hk
/-! ### all standings -/
def sub (ks : List Int) (acc : List (List Int)) : List (List Int) := ks.foldl (fun f k => f ++ f.map fun s => s ++ [k]) acc
def pset (n : Nat) : List (List Int) := sub (rng n) [[]]
theorem pset_succ (n : Nat) : pset (n + 1) = pset n ++ (pset n).map fun s => s ++ [(n : Int)] := by
  unfold pset sub
  rw [rng_succ, List.foldl_append] <;> rfl
theorem pset_len : ∀ n, (pset n).length = 2 ^ n
  | 0 => rfl
  | n + 1 => by
    rw [pset_succ, List.length_append, List.length_map, pset_len n, Nat.pow_succ]
    omega
theorem mem_pset : ∀ {n : Nat} {s : List Int}, s ∈ pset n ↔ Std n s
  | 0, s => by
    constructor
    · intro h
      have e : s = [] := by simpa [pset, sub, rng] using h
      rw [e]
      exact ⟨List.Pairwise.nil, by simp⟩
    · intro h
      cases s with
      | nil => simp [pset, sub, rng]
      | cons x r =>
        have := h.inr x List.mem_cons_self
        omega
  | n + 1, s => by
    rw [pset_succ, List.mem_append, List.mem_map]
    constructor
    · rintro (h | ⟨t, ht, rfl⟩)
      · have q := mem_pset.mp h
        exact ⟨q.asc, fun k hk => ⟨(q.inr k hk).1, by have := (q.inr k hk).2; omega⟩⟩
      · have q := mem_pset.mp ht
        refine ⟨List.pairwise_append.mpr ⟨q.asc, List.pairwise_singleton _ _, fun a ha b hb => ?_⟩, fun k hk => ?_⟩
        · rw [List.mem_singleton] at hb
          have := (q.inr a ha).2
          omega
        · rcases List.mem_append.mp hk with hk | hk
          · have := q.inr k hk
            omega
          · rw [List.mem_singleton] at hk
            omega
    · intro q
      by_cases h : (n : Int) ∈ s
      · refine .inr ⟨lst n fun k => decide (k ∈ s), mem_pset.mpr (std_lst _ _), ?_⟩
        have e := std_eq q
        rw [lst_succ, if_pos (decide_eq_true h)] at e
        exact e.symm
      · refine .inl (mem_pset.mpr ⟨q.asc, fun k hk => ?_⟩)
        have := q.inr k hk
        have : k ≠ (n : Int) := fun e => h (e ▸ hk)
        omega
theorem pset_nodup : ∀ n, (pset n).Nodup
  | 0 => by simp [pset, sub, rng]
  | n + 1 => by
    rw [pset_succ]
    refine List.pairwise_append.mpr ⟨pset_nodup n, List.pairwise_map.mpr ((pset_nodup n).imp fun h e => h (List.append_cancel_right e)), fun a ha b hb e => ?_⟩
    obtain ⟨t, _, rfl⟩ := List.mem_map.mp hb
    have q := (mem_pset.mp ha).inr n (by rw [e]; simp)
    omega

/-! ### a table: pairs of a standing and a cost -/
abbrev Tab := List (List Int × Int)
def look (t : Tab) (k : List Int) : Option Int := (t.find? fun p => decide (p.1 = k)).map (·.2)
def put (t : Tab) (k : List Int) (v : Int) : Tab := if t.any (fun p => decide (p.1 = k)) then t.map (fun p => if p.1 = k then (p.1, v) else p) else t ++ [(k, v)]
def keysT (t : Tab) : List (List Int) := t.map (·.1)
theorem look_nil (k : List Int) : look [] k = none := rfl
theorem look_cons (p : List Int × Int) (t : Tab) (k : List Int) : look (p :: t) k = if p.1 = k then some p.2 else look t k := by
  unfold look
  rw [List.find?_cons]
  by_cases e : p.1 = k <;> simp [e]
theorem look_some_mem : ∀ {t : Tab} {k : List Int} {v : Int}, look t k = some v → (k, v) ∈ t
  | [], k, v, h => by cases h
  | p :: t, k, v, h => by
    rw [look_cons] at h
    by_cases e : p.1 = k
    · rw [if_pos e] at h
      cases h
      subst e
      exact List.mem_cons_self
    · rw [if_neg e] at h
      exact List.mem_cons_of_mem _ (look_some_mem h)
theorem look_of_mem : ∀ {t : Tab} {k : List Int} {v : Int}, (keysT t).Nodup → (k, v) ∈ t → look t k = some v
  | p :: t, k, v, hn, h => by
    rw [look_cons]
    have hn' := List.nodup_cons.mp (show (p.1 :: keysT t).Nodup from hn)
    rcases List.mem_cons.mp h with e | h
    · rw [← e, if_pos rfl]
    · have : p.1 ≠ k := fun e => hn'.1 (by rw [e]; exact List.mem_map.mpr ⟨_, h, rfl⟩)
      rw [if_neg this]
      exact look_of_mem hn'.2 h
theorem look_isSome : ∀ {t : Tab} {k : List Int}, (look t k).isSome = t.any fun p => decide (p.1 = k)
  | [], k => rfl
  | p :: t, k => by
    rw [look_cons, List.any_cons, ← look_isSome]
    by_cases e : p.1 = k <;> simp [e]
theorem look_none_iff {t : Tab} {k : List Int} : look t k = none ↔ k ∉ keysT t := by
  rw [← Option.not_isSome_iff_eq_none, look_isSome, List.any_eq_true]
  unfold keysT
  rw [List.mem_map]
  constructor
  · rintro h ⟨p, hp, e⟩
    exact h ⟨p, hp, decide_eq_true e⟩
  · rintro h ⟨p, hp, e⟩
    exact h ⟨p, hp, of_decide_eq_true e⟩
theorem look_map (t : Tab) (k j : List Int) (v : Int) : look (t.map fun p => if p.1 = k then (p.1, v) else p) j = (look t j).map fun x => if j = k then v else x := by
  induction t with
  | nil => rfl
  | cons p t ih =>
    rw [List.map_cons, look_cons, look_cons, ih]
    by_cases e : p.1 = k
    · rw [if_pos e]
      by_cases e2 : p.1 = j
      · rw [if_pos e2, if_pos e2, ← e2, e]
        simp
      · rw [if_neg e2, if_neg e2]
    · rw [if_neg e]
      by_cases e2 : p.1 = j
      · rw [if_pos e2, if_pos e2]
        simp [← e2, e]
      · rw [if_neg e2, if_neg e2]
theorem look_snoc (t : Tab) (k j : List Int) (v : Int) (h : look t k = none) : look (t ++ [(k, v)]) j = if j = k then some v else look t j := by
  induction t with
  | nil =>
    show look [(k, v)] j = _
    rw [look_cons]
    by_cases e : k = j
    · rw [if_pos e, if_pos e.symm]
    · rw [if_neg e, if_neg fun z => e z.symm]
  | cons p t ih =>
    rw [look_cons] at h
    rw [List.cons_append, look_cons, look_cons]
    by_cases e : p.1 = k
    · rw [if_pos e] at h
      cases h
    · rw [if_neg e] at h
      rw [ih h]
      by_cases e2 : p.1 = j
      · rw [if_pos e2, if_pos e2, if_neg]
        rw [← e2]
        exact e
      · rw [if_neg e2, if_neg e2]
theorem look_put (t : Tab) (k j : List Int) (v : Int) : look (put t k v) j = if j = k then some v else look t j := by
  unfold put
  rw [← look_isSome]
  by_cases h : (look t k).isSome = true
  · rw [if_pos h, look_map]
    by_cases e : j = k
    · subst e
      obtain ⟨x, hx⟩ := Option.isSome_iff_exists.mp h
      rw [hx]
      simp
    · rw [if_neg e]
      simp [e]
  · rw [if_neg h]
    exact look_snoc t k j v (Option.not_isSome_iff_eq_none.mp h)
theorem keys_map (t : Tab) (k : List Int) (v : Int) : keysT (t.map fun p => if p.1 = k then (p.1, v) else p) = keysT t := by
  unfold keysT
  rw [List.map_map]
  refine List.map_congr_left fun p _ => ?_
  show (if p.1 = k then (p.1, v) else p).1 = p.1
  split <;> rfl
theorem keys_put_old {t : Tab} {k : List Int} {v : Int} (h : (look t k).isSome = true) : keysT (put t k v) = keysT t := by
  unfold put
  rw [← look_isSome, if_pos h, keys_map]
theorem put_new {t : Tab} {k : List Int} {v : Int} (h : look t k = none) : put t k v = t ++ [(k, v)] := by
  unfold put
  rw [← look_isSome, h]
  exact if_neg (by simp)
theorem keys_put_new {t : Tab} {k : List Int} {v : Int} (h : look t k = none) : keysT (put t k v) = keysT t ++ [k] := by
  rw [put_new h]
  unfold keysT
  rw [List.map_append]
  rfl
theorem len_put_le (t : Tab) (k : List Int) (v : Int) : (put t k v).length ≤ t.length + 1 := by
  unfold put
  split
  · rw [List.length_map]
    omega
  · rw [List.length_append]
    simp
def vsum (t : Tab) : Int := (t.map (·.2)).sum
theorem vsum_cons (p : List Int × Int) (t : Tab) : vsum (p :: t) = p.2 + vsum t := by simp [vsum]
theorem vsum_same {t : Tab} {k : List Int} {v : Int} (h : k ∉ keysT t) : vsum (t.map fun p => if p.1 = k then (p.1, v) else p) = vsum t := by
  unfold vsum
  rw [List.map_map]
  congr 1
  refine List.map_congr_left fun p hp => ?_
  show (if p.1 = k then (p.1, v) else p).2 = p.2
  rw [if_neg fun e => h (List.mem_map.mpr ⟨p, hp, e⟩)]
theorem vsum_map : ∀ {t : Tab} {k : List Int} {v c : Int}, (keysT t).Nodup → look t k = some c → vsum (t.map fun p => if p.1 = k then (p.1, v) else p) = vsum t - c + v
  | [], k, v, c, _, h => by cases h
  | p :: t, k, v, c, hn, h => by
    have hn' := List.nodup_cons.mp (show (p.1 :: keysT t).Nodup from hn)
    rw [look_cons] at h
    rw [List.map_cons, vsum_cons, vsum_cons]
    by_cases e : p.1 = k
    · rw [if_pos e] at h ⊢
      cases h
      rw [vsum_same (by rw [← e]; exact hn'.1)]
      show v + vsum t = _
      omega
    · rw [if_neg e] at h ⊢
      rw [vsum_map hn'.2 h]
      omega
theorem vsum_snoc (t : Tab) (k : List Int) (v : Int) : vsum (t ++ [(k, v)]) = vsum t + v := by
  unfold vsum
  rw [List.map_append, List.sum_append]
  simp

/-! ### one try to make a cost better -/
def addK (m : List (List Int)) (k : List Int) : List (List Int) := if k ∈ m then m else m ++ [k]
theorem mem_addK {m : List (List Int)} {k j : List Int} : j ∈ addK m k ↔ (j = k ∨ j ∈ m) := by
  unfold addK
  split
  · rename_i h
    exact ⟨.inr, fun q => q.elim (fun e => e ▸ h) id⟩
  · rw [List.mem_append, List.mem_singleton]
    exact ⟨fun q => q.symm, fun q => q.symm⟩
theorem nodup_addK {m : List (List Int)} {k : List Int} (h : m.Nodup) : (addK m k).Nodup := by
  unfold addK
  split
  · exact h
  · rename_i hk
    exact List.pairwise_append.mpr ⟨h, List.pairwise_singleton _ _, fun a ha b hb e => hk (by rw [List.mem_singleton] at hb; rw [← hb, ← e]; exact ha)⟩
/-- is the cost to be stored -/
def better (t : Tab) (k : List Int) (c : Int) : Bool := match look t k with
  | none => true
  | some d => decide (c < d)
def relax (t : Tab) (m : List (List Int)) (k : List Int) (c : Int) : Tab × List (List Int) := if better t k c then (put t k c, addK m k) else (t, m)
/-- what holds of the table at all times -/
structure Good (n : Nat) (E : Arr) (P : Prc) (one : List Int) (t : Tab) : Prop where
  nodup : (keysT t).Nodup
  word : ∀ v c, look t v = some c → Std n v ∧ ∃ ws, runW n E one ws = some v ∧ wcost n P one ws = c
  bd : ∀ v c, look t v = some c → 0 ≤ c ∧ c ≤ 1000 * ((t.length : Int) - 1)
  self : ∃ c, look t one = some c ∧ c ≤ 0
def big (n : Nat) : Int := 1000 * 2 ^ n
def phi (n : Nat) (t : Tab) : Int := vsum t + (2 ^ n - (t.length : Int)) * big n
theorem Good.len {n : Nat} {E : Arr} {P : Prc} {one : List Int} {t : Tab} (g : Good n E P one t) : t.length ≤ 2 ^ n := by
  have h := g.nodup.length_le_of_subset (l₂ := pset n) fun v hv => by
    cases e : look t v with
    | none => exact absurd hv (look_none_iff.mp e)
    | some c => exact mem_pset.mpr (g.word v c e).1
  unfold keysT at h
  rw [List.length_map, pset_len] at h
  exact h
theorem Good.len_new {n : Nat} {E : Arr} {P : Prc} {one : List Int} {t : Tab} (g : Good n E P one t) {k : List Int} (hk : Std n k) (h : look t k = none) : t.length + 1 ≤ 2 ^ n := by
  have h2 : (k :: keysT t).Nodup := List.nodup_cons.mpr ⟨look_none_iff.mp h, g.nodup⟩
  have h := h2.length_le_of_subset (l₂ := pset n) fun v hv => by
    rcases List.mem_cons.mp hv with e | hv
    · rw [e]
      exact mem_pset.mpr hk
    · cases e : look t v with
      | none => exact absurd hv (look_none_iff.mp e)
      | some c => exact mem_pset.mpr (g.word v c e).1
  unfold keysT at h
  rw [List.length_cons, List.length_map, pset_len] at h
  exact h
/-- relaxed: from u on nothing is to be had -/
def Rlx (n : Nat) (_E : Arr) (P : Prc) (t : Tab) (u : List Int) (c : Int) (k : Int) : Prop := ∃ d, look t (tog n u k) = some d ∧ d ≤ c + pOf P u k
structure Less (t t' : Tab) : Prop where
  le : ∀ v c, look t v = some c → ∃ c', look t' v = some c' ∧ c' ≤ c
theorem Less.refl (t : Tab) : Less t t := ⟨fun _ c h => ⟨c, h, Int.le_refl _⟩⟩
theorem Less.trans {t t' t'' : Tab} (a : Less t t') (b : Less t' t'') : Less t t'' := ⟨fun v c h => by
  obtain ⟨c1, h1, l1⟩ := a.le v c h
  obtain ⟨c2, h2, l2⟩ := b.le v c1 h1
  exact ⟨c2, h2, by omega⟩⟩
theorem Rlx.less {n : Nat} {E : Arr} {P : Prc} {t t' : Tab} {u : List Int} {c : Int} {k : Int} (h : Rlx n E P t u c k) (l : Less t t') : Rlx n E P t' u c k := by
  obtain ⟨d, h1, h2⟩ := h
  obtain ⟨d', h3, h4⟩ := l.le _ _ h1
  exact ⟨d', h3, by omega⟩
theorem tog_ne {n : Nat} {b : List Int} {k : Int} (hb : Std n b) (hk : 0 ≤ k ∧ k < (n : Int)) : tog n b k ≠ b := fun e => by
  have h := mem_tog (k := k) hb hk
  rw [if_pos rfl, e] at h
  by_cases q : k ∈ b
  · exact (h.mp q) q
  · exact q (h.mpr q)
theorem relax_ok {n : Nat} {E : Arr} {P : Prc} {one : List Int} {t : Tab} {m : List (List Int)} (HP : Prices n P) (g : Good n E P one t) {here : List Int} {ch : Int} (hh : look t here = some ch) {k : Int} (hk : 0 ≤ k ∧ k < (n : Int)) (hc : can E here k = true) :
    Good n E P one (relax t m (tog n here k) (ch + pOf P here k)).1 ∧ Less t (relax t m (tog n here k) (ch + pOf P here k)).1 ∧ look (relax t m (tog n here k) (ch + pOf P here k)).1 here = some ch ∧
    Rlx n E P (relax t m (tog n here k) (ch + pOf P here k)).1 here ch k ∧ (∀ v, v ∈ m → v ∈ (relax t m (tog n here k) (ch + pOf P here k)).2) ∧
    (∀ v, v ∉ (relax t m (tog n here k) (ch + pOf P here k)).2 → look (relax t m (tog n here k) (ch + pOf P here k)).1 v = look t v) ∧
    ((relax t m (tog n here k) (ch + pOf P here k)).2 = m ∧ (relax t m (tog n here k) (ch + pOf P here k)).1 = t ∨ phi n (relax t m (tog n here k) (ch + pOf P here k)).1 < phi n t) := by
  obtain ⟨st, ws, hr, hw⟩ := g.word here ch hh
  have pb := pOf_bd HP here k
  have hb := g.bd here ch hh
  have ne := tog_ne st hk
  have stt := std_tog n here k
  generalize eT : tog n here k = there at ne stt
  generalize eC : ch + pOf P here k = cost
  unfold relax
  by_cases q : better t there cost = true
  · rw [if_pos q]
    have l1 : Less t (put t there cost) := ⟨fun v c h => by
      rw [look_put]
      by_cases e : v = there
      · subst e
        rw [if_pos rfl]
        refine ⟨cost, rfl, ?_⟩
        unfold better at q
        rw [h] at q
        have := of_decide_eq_true q
        omega
      · rw [if_neg e]
        exact ⟨c, h, Int.le_refl _⟩⟩
    have hlen := g.len
    have hl2 : (t.length : Int) ≤ (put t there cost).length ∧ (look t there = none → ((put t there cost).length : Int) = t.length + 1) := by
      cases e : look t there with
      | none =>
        rw [put_new e, List.length_append]
        simp
        omega
      | some d =>
        have := keys_put_old (v := cost) (show (look t there).isSome = true by rw [e]; rfl)
        have h3 := congrArg List.length this
        unfold keysT at h3
        rw [List.length_map, List.length_map] at h3
        rw [h3]
        exact ⟨Int.le_refl _, fun z => by cases z⟩
    refine ⟨⟨?_, fun v c h => ?_, fun v c h => ?_, ?_⟩, l1, ?_, ⟨cost, ?_, by omega⟩, fun v hv => mem_addK.mpr (.inr hv), fun v hv => ?_, .inr ?_⟩
    · cases e : look t there with
      | none =>
        rw [keys_put_new e]
        exact List.pairwise_append.mpr ⟨g.nodup, List.pairwise_singleton _ _, fun a ha b hb z => (look_none_iff.mp e) (by rw [List.mem_singleton] at hb; rw [← hb, ← z]; exact ha)⟩
      | some d =>
        rw [keys_put_old (by rw [e]; rfl)]
        exact g.nodup
    · rw [look_put] at h
      by_cases e : v = there
      · rw [if_pos e] at h
        cases h
        rw [e]
        refine ⟨stt, ws ++ [k], ?_, ?_⟩
        · rw [runW_append _ _ _ hr, runW_one hk hc, eT]
        · rw [wcost_append _ _ _ hr, hw, ← eC]
          show ch + (pOf P here k + 0) = _
          omega
      · rw [if_neg e] at h
        exact g.word v c h
    · show 0 ≤ c ∧ c ≤ 1000 * (((put t there cost).length : Int) - 1)
      rw [look_put] at h
      by_cases e : v = there
      · rw [if_pos e] at h
        cases h
        refine ⟨by omega, ?_⟩
        cases e2 : look t there with
        | none =>
          have := hl2.2 e2
          omega
        | some d =>
          unfold better at q
          rw [e2] at q
          have := of_decide_eq_true q
          have := g.bd there d e2
          omega
      · rw [if_neg e] at h
        have := g.bd v c h
        omega
    · obtain ⟨c, h1, h2⟩ := g.self
      obtain ⟨c', h3, h4⟩ := l1.le one c h1
      exact ⟨c', h3, by omega⟩
    · rw [look_put, if_neg fun e => ne e.symm]
      exact hh
    · rw [eT, look_put, if_pos rfl]
    · rw [look_put, if_neg fun e => hv (mem_addK.mpr (.inl e))]
    · unfold phi
      cases e : look t there with
      | none =>
        have hn := g.len_new stt e
        rw [put_new e, vsum_snoc, List.length_append]
        have e1 : (((t.length + [(there, cost)].length : Nat)) : Int) = (t.length : Int) + 1 := by simp
        rw [e1, show ((2 : Int) ^ n - ((t.length : Int) + 1)) * big n = ((2 : Int) ^ n - (t.length : Int)) * big n - big n by rw [← Int.sub_sub, Int.sub_mul (_ - _), Int.one_mul]]
        have hb2 : cost < big n := by
          unfold big
          have : ((t.length + 1 : Nat) : Int) ≤ ((2 ^ n : Nat) : Int) := Int.ofNat_le.mpr hn
          rw [Int.natCast_pow] at this
          have e3 : ((2 : Nat) : Int) = 2 := rfl
          rw [e3] at this
          generalize (2 : Int) ^ n = z at this ⊢
          omega
        omega
      | some d =>
        have eL : (put t there cost).length = t.length := by
          have h3 := congrArg List.length (keys_put_old (v := cost) (show (look t there).isSome = true by rw [e]; rfl))
          unfold keysT at h3
          rwa [List.length_map, List.length_map] at h3
        have eV : vsum (put t there cost) = vsum t - d + cost := by
          unfold put
          rw [← look_isSome, e]
          exact (congrArg vsum (if_pos rfl)).trans (vsum_map g.nodup e)
        rw [eL, eV]
        unfold better at q
        rw [e] at q
        have := of_decide_eq_true q
        omega
  · rw [if_neg q]
    refine ⟨g, Less.refl t, hh, ?_, fun v hv => hv, fun _ _ => rfl, .inl ⟨rfl, rfl⟩⟩
    unfold better at q
    cases e : look t there with
    | none =>
      rw [e] at q
      exact absurd rfl q
    | some d =>
      rw [e] at q
      have : ¬ cost < d := fun z => q (decide_eq_true z)
      exact ⟨d, by rw [eT]; exact e, by omega⟩

/-! ### the lamps of one standing, one by one -/
def deeds (n : Nat) (E : Arr) (b : List Int) : List Int := lst n (can E b)
theorem mem_deeds {n : Nat} {E : Arr} {b : List Int} {k : Int} : k ∈ deeds n E b ↔ (0 ≤ k ∧ k < (n : Int)) ∧ can E b k = true := mem_lst
/-- one turn of the inner loop -/
def try1 (n : Nat) (P : Prc) (here : List Int) (s : Tab × List (List Int)) (k : Int) : Tab × List (List Int) := relax s.1 s.2 (tog n here k) ((look s.1 here).getD 0 + pOf P here k)
/-- all is relaxed but what waits -/
structure Wait (n : Nat) (E : Arr) (P : Prc) (one : List Int) (t : Tab) (w : List Int → Prop) : Prop where
  good : Good n E P one t
  done : ∀ u c, look t u = some c → w u ∨ ∀ k, 0 ≤ k → k < (n : Int) → can E u k = true → Rlx n E P t u c k
theorem try_ok {n : Nat} {E : Arr} {P : Prc} {one : List Int} (HP : Prices n P) {w : List Int → Prop} {here : List Int} : ∀ (ks : List Int) {s : Tab × List (List Int)} {ch : Int}, look s.1 here = some ch → (∀ k ∈ ks, k ∈ deeds n E here) →
    Wait n E P one s.1 (fun u => w u ∨ u = here ∨ u ∈ s.2) → s.2.Nodup → (∀ k, k ∈ deeds n E here → k ∉ ks → Rlx n E P s.1 here ch k) →
    Wait n E P one (ks.foldl (try1 n P here) s).1 (fun u => w u ∨ u ∈ (ks.foldl (try1 n P here) s).2) ∧ (ks.foldl (try1 n P here) s).2.Nodup ∧ Less s.1 (ks.foldl (try1 n P here) s).1 ∧ (∀ v, v ∈ s.2 → v ∈ (ks.foldl (try1 n P here) s).2) ∧
    ((ks.foldl (try1 n P here) s).2 = s.2 ∧ (ks.foldl (try1 n P here) s).1 = s.1 ∨ phi n (ks.foldl (try1 n P here) s).1 < phi n s.1)
  | [], s, ch, hh, _, g, hn, hr => by
    refine ⟨⟨g.good, fun u c h => ?_⟩, hn, Less.refl _, fun _ q => q, .inl ⟨rfl, rfl⟩⟩
    rcases g.done u c h with (q | q | q) | q
    · exact .inl (.inl q)
    · subst q
      have e : c = ch := Option.some.inj (h.symm.trans hh)
      subst e
      exact .inr fun k h0 h1 hc => hr k (mem_deeds.mpr ⟨⟨h0, h1⟩, hc⟩) (by simp)
    · exact .inl (.inr q)
    · exact .inr q
  | k :: ks, s, ch, hh, hk, g, hn, hr => by
    obtain ⟨k0, kc⟩ := mem_deeds.mp (hk k List.mem_cons_self)
    obtain ⟨g1, l1, h1, r1, m1, o1, p1⟩ := relax_ok (m := s.2) HP g.good hh k0 kc
    have e : try1 n P here s k = relax s.1 s.2 (tog n here k) (ch + pOf P here k) := by
      unfold try1
      rw [hh] <;> rfl
    rw [List.foldl_cons, e]
    have hn1 : (relax s.1 s.2 (tog n here k) (ch + pOf P here k)).2.Nodup := by
      unfold relax
      split
      · exact nodup_addK hn
      · exact hn
    generalize relax s.1 s.2 (tog n here k) (ch + pOf P here k) = s1 at g1 l1 h1 r1 m1 o1 p1 hn1
    have g2 : Wait n E P one s1.1 (fun u => w u ∨ u = here ∨ u ∈ s1.2) := ⟨g1, fun u c h => by
      by_cases hu : u ∈ s1.2
      · exact .inl (.inr (.inr hu))
      · rw [o1 u hu] at h
        rcases g.done u c h with (q | q | q) | q
        · exact .inl (.inl q)
        · exact .inl (.inr (.inl q))
        · exact absurd (m1 u q) hu
        · exact .inr fun j j0 j1 jc => (q j j0 j1 jc).less l1⟩
    obtain ⟨a, b, c, d, f⟩ := try_ok HP ks h1 (fun j hj => hk j (List.mem_cons_of_mem _ hj)) g2 hn1 fun j hj hnj => by
      by_cases e : j = k
      · rw [e]
        exact r1
      · exact (hr j hj fun z => (List.mem_cons.mp z).elim e hnj).less l1
    refine ⟨a, b, l1.trans c, fun v hv => d v (m1 v hv), ?_⟩
    rcases p1 with ⟨p1, p2⟩ | p1
    · rcases f with ⟨f1, f2⟩ | f
      · exact .inl ⟨f1.trans p1, f2.trans p2⟩
      · rw [p2] at f
        exact .inr f
    · rcases f with ⟨_, f2⟩ | f
      · rw [f2]
        exact .inr p1
      · exact .inr (by omega)

/-! ### one round -/
def round1 (n : Nat) (E : Arr) (P : Prc) (s : Tab × List (List Int)) (here : List Int) : Tab × List (List Int) := (deeds n E here).foldl (try1 n P here) s
def rnd (n : Nat) (E : Arr) (P : Prc) (t : Tab) (fresh : List (List Int)) : Tab × List (List Int) := fresh.foldl (round1 n E P) (t, [])
theorem round_ok {n : Nat} {E : Arr} {P : Prc} {one : List Int} (HP : Prices n P) : ∀ (fs : List (List Int)) {s : Tab × List (List Int)}, (∀ v ∈ fs, ∃ c, look s.1 v = some c) →
    Wait n E P one s.1 (fun u => u ∈ fs ∨ u ∈ s.2) → s.2.Nodup →
    Wait n E P one (fs.foldl (round1 n E P) s).1 (fun u => u ∈ (fs.foldl (round1 n E P) s).2) ∧ (fs.foldl (round1 n E P) s).2.Nodup ∧ Less s.1 (fs.foldl (round1 n E P) s).1 ∧
    ((fs.foldl (round1 n E P) s).2 = s.2 ∧ (fs.foldl (round1 n E P) s).1 = s.1 ∨ phi n (fs.foldl (round1 n E P) s).1 < phi n s.1)
  | [], s, _, g, hn => ⟨⟨g.good, fun u c h => (g.done u c h).imp (fun q => q.elim (fun z => by simp at z) id) id⟩, hn, Less.refl _, .inl ⟨rfl, rfl⟩⟩
  | v :: fs, s, hf, g, hn => by
    obtain ⟨ch, hh⟩ := hf v List.mem_cons_self
    have g0 : Wait n E P one s.1 (fun u => u ∈ fs ∨ u = v ∨ u ∈ s.2) := ⟨g.good, fun u c h => (g.done u c h).imp (fun q => q.elim (fun z => (List.mem_cons.mp z).elim (fun e => .inr (.inl e)) .inl) fun z => .inr (.inr z)) id⟩
    obtain ⟨a, b, c, d, f⟩ := try_ok HP (w := fun u => u ∈ fs) (deeds n E v) hh (fun _ h => h) g0 hn fun k hk hnk => absurd hk hnk
    obtain ⟨a2, b2, c2, f2⟩ := round_ok HP fs (s := round1 n E P s v) (fun u hu => by
      obtain ⟨x, hx⟩ := hf u (List.mem_cons_of_mem _ hu)
      obtain ⟨y, hy, _⟩ := c.le u x hx
      exact ⟨y, hy⟩) a b
    refine ⟨a2, b2, c.trans c2, ?_⟩
    show ((fs.foldl (round1 n E P) (round1 n E P s v)).2 = s.2 ∧ (fs.foldl (round1 n E P) (round1 n E P s v)).1 = s.1) ∨ _
    have f' : (round1 n E P s v).2 = s.2 ∧ (round1 n E P s v).1 = s.1 ∨ phi n (round1 n E P s v).1 < phi n s.1 := f
    rcases f' with ⟨f1, f3⟩ | f'
    · rw [f1, f3] at f2
      exact f2
    · rcases f2 with ⟨_, f4⟩ | f2
      · refine .inr ?_
        show phi n (fs.foldl (round1 n E P) (round1 n E P s v)).1 < _
        rw [f4]
        exact f'
      · refine .inr ?_
        show phi n (fs.foldl (round1 n E P) (round1 n E P s v)).1 < _
        omega
/-- the loop's word: what is fresh stands in the table, all else is relaxed -/
structure Loop (n : Nat) (E : Arr) (P : Prc) (one : List Int) (t : Tab) (fresh : List (List Int)) : Prop where
  wait : Wait n E P one t (fun u => u ∈ fresh)
  there : ∀ v ∈ fresh, ∃ c, look t v = some c
  nodup : fresh.Nodup
theorem phi_nn {n : Nat} {E : Arr} {P : Prc} {one : List Int} {t : Tab} (g : Good n E P one t) : 0 ≤ phi n t := by
  have h1 : 0 ≤ vsum t := by
    have : ∀ l : Tab, (∀ p ∈ l, 0 ≤ p.2) → 0 ≤ vsum l := fun l => by
      induction l with
      | nil => exact fun _ => Int.le_refl _
      | cons p l ih =>
        intro h
        rw [vsum_cons]
        have := h p List.mem_cons_self
        have := ih fun q hq => h q (List.mem_cons_of_mem _ hq)
        omega
    exact this t fun p hp => (g.bd p.1 p.2 (look_of_mem g.nodup hp)).1
  have h2 : (0 : Int) ≤ 2 ^ n - (t.length : Int) := by
    have h3 : ((t.length : Nat) : Int) ≤ ((2 ^ n : Nat) : Int) := Int.ofNat_le.mpr g.len
    rw [Int.natCast_pow] at h3
    have e3 : ((2 : Nat) : Int) = 2 := rfl
    rw [e3] at h3
    omega
  have h3 : 0 ≤ big n := by
    unfold big
    have : (0 : Int) ≤ 2 ^ n := Int.pow_nonneg (by decide)
    omega
  have h4 := Int.mul_nonneg h2 h3
  unfold phi
  omega
theorem Loop.start {n : Nat} {E : Arr} {P : Prc} {one : List Int} (h1 : Std n one) : Loop n E P one [(one, 0)] [one] := by
  have e : ∀ v c, look [(one, 0)] v = some c → v = one ∧ c = 0 := fun v c h => by
    rw [look_cons] at h
    by_cases q : one = v
    · rw [if_pos (show (one, (0 : Int)).1 = v from q)] at h
      exact ⟨q.symm, (Option.some.inj h).symm⟩
    · rw [if_neg (show ¬ (one, (0 : Int)).1 = v from q)] at h
      cases h
  refine ⟨⟨⟨by simp [keysT], fun v c h => ?_, fun v c h => ?_, ⟨0, ?_, Int.le_refl _⟩⟩, fun u c h => .inl ?_⟩, fun v hv => ⟨0, ?_⟩, by simp⟩
  · obtain ⟨rfl, rfl⟩ := e v c h
    exact ⟨h1, [], rfl, rfl⟩
  · obtain ⟨rfl, rfl⟩ := e v c h
    simp
  · rw [look_cons, if_pos rfl]
  · rw [(e u c h).1]
    simp
  · rw [List.mem_singleton] at hv
    rw [hv, look_cons, if_pos rfl]
/-- what a round adds stands in the table -/
theorem more_there {n : Nat} {E : Arr} {P : Prc} : ∀ (fs : List (List Int)) {s : Tab × List (List Int)}, (∀ v ∈ s.2, (look s.1 v).isSome = true) → ∀ v ∈ (fs.foldl (round1 n E P) s).2, (look (fs.foldl (round1 n E P) s).1 v).isSome = true := by
  have h1 : ∀ (here : List Int) (ks : List Int) {s : Tab × List (List Int)}, (∀ v ∈ s.2, (look s.1 v).isSome = true) → ∀ v ∈ (ks.foldl (try1 n P here) s).2, (look (ks.foldl (try1 n P here) s).1 v).isSome = true := fun here ks => by
    induction ks with
    | nil => exact fun h => h
    | cons k ks ih =>
      intro s h
      rw [List.foldl_cons]
      refine ih fun v hv => ?_
      unfold try1 relax at hv ⊢
      split at hv
      · rename_i q
        rw [if_pos q]
        rw [look_put]
        by_cases e : v = tog n here k
        · rw [if_pos e]
          rfl
        · rw [if_neg e]
          exact h v ((mem_addK.mp hv).resolve_left e)
      · rename_i q
        rw [if_neg q]
        exact h v hv
  intro fs
  induction fs with
  | nil => exact fun h => h
  | cons u fs ih =>
    intro s h
    rw [List.foldl_cons]
    exact ih (h1 u _ h)
/-- a round: the loop's word again (the fresh ones in any order), the measure less -/
theorem Loop.round {n : Nat} {E : Arr} {P : Prc} {one : List Int} (HP : Prices n P) {t : Tab} {fresh : List (List Int)} (g : Loop n E P one t fresh) {fresh' : List (List Int)} (hp : fresh'.Perm (rnd n E P t fresh).2) :
    Loop n E P one (rnd n E P t fresh).1 fresh' ∧ (fresh' = [] ∨ phi n (rnd n E P t fresh).1 < phi n t) := by
  obtain ⟨a, b, c, f⟩ := round_ok HP fresh (s := (t, [])) g.there (⟨g.wait.good, fun u c h => (g.wait.done u c h).imp .inl id⟩) (by simp)
  refine ⟨⟨⟨a.good, fun u c h => (a.done u c h).imp (fun q => hp.mem_iff.mpr q) id⟩, fun v hv => ?_, hp.nodup_iff.mpr b⟩, ?_⟩
  · have := more_there (E := E) (P := P) (n := n) fresh (s := (t, [])) (by simp) v (hp.mem_iff.mp hv)
    exact Option.isSome_iff_exists.mp this
  · rcases f with ⟨f1, _⟩ | f
    · refine .inl ?_
      have e : (rnd n E P t fresh).2 = [] := f1
      rw [e] at hp
      exact hp.eq_nil
    · exact .inr f
theorem Loop.phi_le {n : Nat} {E : Arr} {P : Prc} {one : List Int} (HP : Prices n P) {t : Tab} {fresh : List (List Int)} (g : Loop n E P one t fresh) : phi n (rnd n E P t fresh).1 ≤ phi n t := by
  obtain ⟨a, b, c, f⟩ := round_ok HP fresh (s := (t, [])) g.there (⟨g.wait.good, fun u c h => (g.wait.done u c h).imp .inl id⟩) (by simp)
  rcases f with ⟨_, f⟩ | f
  · show phi n (fresh.foldl (round1 n E P) (t, [])).1 ≤ _
    rw [f]
    exact Int.le_refl _
  · exact Int.le_of_lt f
/-- the measure of a turn -/
def mu (n : Nat) (t : Tab) (fresh : List (List Int)) : Nat := (phi n t).toNat + if fresh = [] then 0 else 1
theorem Loop.mu_lt {n : Nat} {E : Arr} {P : Prc} {one : List Int} (HP : Prices n P) {t : Tab} {fresh : List (List Int)} (g : Loop n E P one t fresh) (hne : fresh ≠ []) {fresh' : List (List Int)} (hp : fresh'.Perm (rnd n E P t fresh).2) : mu n (rnd n E P t fresh).1 fresh' < mu n t fresh := by
  obtain ⟨g2, q⟩ := g.round HP hp
  have h1 := g.phi_le HP
  have h2 := phi_nn g.wait.good
  have h3 := phi_nn g2.wait.good
  unfold mu
  rw [if_neg hne]
  rcases q with q | q
  · rw [if_pos q]
    omega
  · split <;> omega
/-- at the end the table holds the least cost of each standing -/
theorem Loop.le_word {n : Nat} {E : Arr} {P : Prc} {one : List Int} {t : Tab} (g : Loop n E P one t []) : ∀ (ws : List Int) (b : List Int) {c d : Int} {v : List Int}, look t b = some c → c ≤ d → runW n E b ws = some v → ∃ c', look t v = some c' ∧ c' ≤ d + wcost n P b ws
  | [], b, c, d, v, h, hd, hr => by
    cases hr
    exact ⟨c, h, by show c ≤ d + 0; omega⟩
  | l :: ws, b, c, d, v, h, hd, hr => by
    unfold runW at hr
    by_cases hc : (decide (0 ≤ l ∧ l < (n : Int)) && can E b l) = true
    · rw [if_pos hc] at hr
      rw [Bool.and_eq_true, decide_eq_true_eq] at hc
      rcases g.wait.done b c h with q | q
      · simp at q
      · obtain ⟨e, h1, h2⟩ := q l hc.1.1 hc.1.2 hc.2
        obtain ⟨c', h3, h4⟩ := g.le_word ws (tog n b l) h1 (d := d + pOf P b l) (by omega) hr
        refine ⟨c', h3, ?_⟩
        show c' ≤ d + (pOf P b l + wcost n P (tog n b l) ws)
        omega
    · rw [if_neg hc] at hr
      cases hr
theorem Loop.least {n : Nat} {E : Arr} {P : Prc} {one : List Int} (W : Web n E) (HP : Prices n P) (h1 : Std n one) {t : Tab} (g : Loop n E P one t []) {v : List Int} (hv : Std n v) : look t v = some (costOf n E P one v) := by
  obtain ⟨r, c⟩ := word_run (P := P) W h1 hv
  obtain ⟨z, hz, zl⟩ := g.wait.good.self
  obtain ⟨c', h2, h3⟩ := g.le_word _ one hz zl r
  rw [c] at h3
  obtain ⟨_, ws, r2, c2⟩ := g.wait.good.word v c' h2
  have := cost_le HP ws one h1 r2
  rw [h2]
  exact congrArg some (by omega)
theorem Loop.keys {n : Nat} {E : Arr} {P : Prc} {one : List Int} (W : Web n E) (HP : Prices n P) (h1 : Std n one) {t : Tab} (g : Loop n E P one t []) : (keysT t).Perm (pset n) := by
  refine (List.perm_ext_iff_of_nodup g.wait.good.nodup (pset_nodup n)).mpr fun v => ?_
  constructor
  · intro hv
    cases e : look t v with
    | none => exact absurd hv (look_none_iff.mp e)
    | some c => exact mem_pset.mpr (g.wait.good.word v c e).1
  · intro hv
    have := g.least W HP h1 (mem_pset.mp hv)
    by_cases q : v ∈ keysT t
    · exact q
    · rw [look_none_iff.mpr q] at this
      cases this
end Hk
set_option Elab.async false
set_option linter.all false
set_option maxRecDepth 100000
set_option maxHeartbeats 4000000
set_option autoImplicit false
/-! HkL: data over the tracked heap; what an expression, a test, a statement does, told by data alone. -/
namespace Hk
open PySem PySem.Spec PyProof.Rows L2
abbrev Ex := Evl.Ex
/-! ### values that hold data -/
mutual
inductive Rp (H : Hp) : V → PyData → Prop
  | non : Rp H .non .none
  | bl (b : Bool) : Rp H (.bl b) (.bool b)
  | int (i : Int) : Rp H (.int i) (.int i)
  | lst {a : Addr} {xs : List V} {ds : List PyData} : H a = some (.lst xs) → RpAll H xs ds → Rp H (.ref a) (.list ds)
  | tup {a : Addr} {xs : List V} {ds : List PyData} : H a = some (.tup xs) → RpAll H xs ds → Rp H (.ref a) (.tuple ds)
  | dct {a : Addr} {es : List (Key × V)} {kvs : List (PyData × PyData)} : H a = some (.dK es) → RpKV H es kvs → Rp H (.ref a) (.dict kvs)
inductive RpAll (H : Hp) : List V → List PyData → Prop
  | nil : RpAll H [] []
  | cons {v : V} {vs : List V} {d : PyData} {ds : List PyData} : Rp H v d → RpAll H vs ds → RpAll H (v :: vs) (d :: ds)
inductive RpKV (H : Hp) : List (Key × V) → List (PyData × PyData) → Prop
  | nil : RpKV H [] []
  | cons {i : Int} {v : V} {es : List (Key × V)} {d : PyData} {kvs : List (PyData × PyData)} : Rp H v d → RpKV H es kvs → RpKV H ((.inl i, v) :: es) ((.int i, d) :: kvs)
end
mutual
theorem Rp.ex {H H' : Hp} (e : Ex H H') : ∀ (d : PyData) {v : V}, Rp H v d → Rp H' v d
  | .none, _, h => by
    cases h
    exact .non
  | .bool b, _, h => by
    cases h
    exact .bl b
  | .int i, _, h => by
    cases h
    exact .int i
  | .str _, _, h => by cases h
  | .list ds, _, h => by
    cases h with
    | lst h1 h2 => exact .lst (e _ _ h1) (RpAll.ex e ds h2)
  | .tuple ds, _, h => by
    cases h with
    | tup h1 h2 => exact .tup (e _ _ h1) (RpAll.ex e ds h2)
  | .dict kvs, _, h => by
    cases h with
    | dct h1 h2 => exact .dct (e _ _ h1) (RpKV.ex e kvs h2)
theorem RpAll.ex {H H' : Hp} (e : Ex H H') : ∀ (ds : List PyData) {vs : List V}, RpAll H vs ds → RpAll H' vs ds
  | [], _, h => by
    cases h
    exact .nil
  | d :: ds, _, h => by
    cases h with
    | cons h1 h2 => exact .cons (Rp.ex e d h1) (RpAll.ex e ds h2)
theorem RpKV.ex {H H' : Hp} (e : Ex H H') : ∀ (kvs : List (PyData × PyData)) {es : List (Key × V)}, RpKV H es kvs → RpKV H' es kvs
  | [], _, h => by
    cases h
    exact .nil
  | kv :: kvs, _, h => by
    cases h with
    | cons h1 h2 => exact .cons (Rp.ex e _ h1) (RpKV.ex e kvs h2)
end
mutual
theorem Rp.exX {H H' : Hp} {od : Obj} {fs : List (List Key × V)} (e : ∀ b o, o ≠ HO.frz od (.dT fs) → H b = some o → H' b = some o) : ∀ (d : PyData) {v : V}, Rp H v d → Rp H' v d
  | .none, _, h => by
    cases h
    exact .non
  | .bool b, _, h => by
    cases h
    exact .bl b
  | .int i, _, h => by
    cases h
    exact .int i
  | .str _, _, h => by cases h
  | .list ds, _, h => by
    cases h with
    | lst h1 h2 => exact .lst (e _ _ (fun z => nomatch z) h1) (RpAll.exX e ds h2)
  | .tuple ds, _, h => by
    cases h with
    | tup h1 h2 => exact .tup (e _ _ (fun z => nomatch z) h1) (RpAll.exX e ds h2)
  | .dict kvs, _, h => by
    cases h with
    | dct h1 h2 => exact .dct (e _ _ (fun z => nomatch z) h1) (RpKV.exX e kvs h2)
theorem RpAll.exX {H H' : Hp} {od : Obj} {fs : List (List Key × V)} (e : ∀ b o, o ≠ HO.frz od (.dT fs) → H b = some o → H' b = some o) : ∀ (ds : List PyData) {vs : List V}, RpAll H vs ds → RpAll H' vs ds
  | [], _, h => by
    cases h
    exact .nil
  | d :: ds, _, h => by
    cases h with
    | cons h1 h2 => exact .cons (Rp.exX e d h1) (RpAll.exX e ds h2)
theorem RpKV.exX {H H' : Hp} {od : Obj} {fs : List (List Key × V)} (e : ∀ b o, o ≠ HO.frz od (.dT fs) → H b = some o → H' b = some o) : ∀ (kvs : List (PyData × PyData)) {es : List (Key × V)}, RpKV H es kvs → RpKV H' es kvs
  | [], _, h => by
    cases h
    exact .nil
  | kv :: kvs, _, h => by
    cases h with
    | cons h1 h2 => exact .cons (Rp.exX e _ h1) (RpKV.exX e kvs h2)
end
theorem RpAll.length {H : Hp} : ∀ {vs : List V} {ds : List PyData}, RpAll H vs ds → vs.length = ds.length
  | _, _, .nil => rfl
  | _, _, .cons _ t => congrArg (· + 1) (RpAll.length t)
theorem RpAll.get {H : Hp} : ∀ {vs : List V} {ds : List PyData} {i : Nat} {d : PyData}, RpAll H vs ds → ds[i]? = some d → ∃ v, vs[i]? = some v ∧ Rp H v d
  | _, _, i, _, .nil, h => by simp at h
  | _, _, 0, _, .cons r _, h => by
    simp at h
    subst h
    exact ⟨_, rfl, r⟩
  | _, _, i + 1, _, .cons _ t, h => by
    obtain ⟨v, h1, h2⟩ := RpAll.get (i := i) t (by simpa using h)
    exact ⟨v, by simpa using h1, h2⟩
theorem RpAll.getV {H : Hp} : ∀ {vs : List V} {ds : List PyData} {i : Nat} {v : V}, RpAll H vs ds → vs[i]? = some v → ∃ d, ds[i]? = some d ∧ Rp H v d
  | _, _, i, _, .nil, h => by simp at h
  | _, _, 0, _, .cons r _, h => by
    simp at h
    subst h
    exact ⟨_, rfl, r⟩
  | _, _, i + 1, _, .cons _ t, h => by
    obtain ⟨v, h1, h2⟩ := RpAll.getV (i := i) t (by simpa using h)
    exact ⟨v, by simpa using h1, h2⟩
theorem RpAll.append {H : Hp} : ∀ {vs ws : List V} {ds es : List PyData}, RpAll H vs ds → RpAll H ws es → RpAll H (vs ++ ws) (ds ++ es)
  | _, _, _, _, .nil, s => s
  | _, _, _, _, .cons r t, s => .cons r (RpAll.append t s)
theorem RpAll.set {H : Hp} {v : V} {d : PyData} (r : Rp H v d) : ∀ {vs : List V} {ds : List PyData} (i : Nat), RpAll H vs ds → RpAll H (vs.set i v) (ds.set i d)
  | _, _, _, .nil => .nil
  | _, _, 0, .cons _ t => .cons r t
  | _, _, i + 1, .cons q t => .cons q (RpAll.set r i t)
theorem RpAll.take {H : Hp} : ∀ {vs : List V} {ds : List PyData} (n : Nat), RpAll H vs ds → RpAll H (vs.take n) (ds.take n)
  | _, _, 0, _ => .nil
  | _, _, _ + 1, .nil => .nil
  | _, _, n + 1, .cons r t => .cons r (RpAll.take n t)
theorem RpAll.drop {H : Hp} : ∀ {vs : List V} {ds : List PyData} (n : Nat), RpAll H vs ds → RpAll H (vs.drop n) (ds.drop n)
  | _, _, 0, r => r
  | _, _, _ + 1, .nil => .nil
  | _, _, n + 1, .cons _ t => RpAll.drop n t
theorem RpAll.reverse {H : Hp} : ∀ {vs : List V} {ds : List PyData}, RpAll H vs ds → RpAll H vs.reverse ds.reverse
  | _, _, .nil => .nil
  | _, _, .cons r t => by
    rw [List.reverse_cons, List.reverse_cons]
    exact RpAll.append (RpAll.reverse t) (.cons r .nil)
/-- lists of numbers -/
abbrev eIs (ns : List Int) : List PyData := ns.map PyData.int
theorem RpAll.ints (H : Hp) : ∀ ns : List Int, RpAll H (ns.map V.int) (eIs ns)
  | [] => .nil
  | n :: ns => .cons (.int n) (RpAll.ints H ns)
theorem RpAll.ints_inv {H : Hp} : ∀ {ns : List Int} {vs : List V}, RpAll H vs (eIs ns) → vs = ns.map V.int
  | [], _, h => by
    cases h
    rfl
  | n :: ns, _, h => by
    have h' : RpAll H _ (.int n :: eIs ns) := h
    cases h' with
    | cons h1 h2 =>
      cases h1
      rw [RpAll.ints_inv h2]
      rfl
/-! data that the library reads -/
mutual
def plain : PyData → Bool
  | .none => true
  | .bool _ => true
  | .int _ => true
  | .str _ => false
  | .list ds => plainAll ds
  | .tuple ds => plainAll ds
  | .dict _ => false
def plainAll : List PyData → Bool
  | [] => true
  | d :: ds => plain d && plainAll ds
end
mutual
theorem Rp.dp {K : PySem.W.Frag} {H : Hp} : ∀ (d : PyData) {v : V}, plain d = true → Rp H v d → Dp K H v d
  | .none, _, _, h => by
    cases h
    exact .non
  | .bool b, _, _, h => by
    cases h
    exact .bl b
  | .int i, _, _, h => by
    cases h
    exact .int i
  | .str _, _, _, h => by cases h
  | .list ds, _, p, h => by
    cases h with
    | lst h1 h2 => exact .lst (.of h1) (RpAll.dp ds (by simpa [plain] using p) h2)
  | .tuple ds, _, p, h => by
    cases h with
    | tup h1 h2 => exact .tup (.of h1) (RpAll.dp ds (by simpa [plain] using p) h2)
  | .dict _, _, p, _ => by simp [plain] at p
theorem RpAll.dp {K : PySem.W.Frag} {H : Hp} : ∀ (ds : List PyData) {vs : List V}, plainAll ds = true → RpAll H vs ds → DpAll K H vs ds
  | [], _, _, h => by
    cases h
    exact .nil
  | d :: ds, _, p, h => by
    cases h with
    | cons h1 h2 =>
      have q : plain d = true ∧ plainAll ds = true := by simpa [plainAll] using p
      exact .cons (Rp.dp d q.1 h1) (RpAll.dp ds q.2 h2)
end
/-! ### what is hidden, what is owned -/
abbrev ASet := Addr → Prop
def un (F O : ASet) : ASet := fun a => F a ∨ O a
def no : ASet := fun _ => False
noncomputable def hid (S : ASet) (H : Hp) : Hp := fun b => open Classical in if S b then none else H b
theorem hid_in {S : ASet} {H : Hp} {a : Addr} (h : ¬ S a) : hid S H a = H a := by
  unfold hid
  exact if_neg h
theorem hid_out {S : ASet} {H : Hp} {a : Addr} (h : S a) : hid S H a = none := by
  unfold hid
  exact if_pos h
theorem hid_some {S : ASet} {H : Hp} {a : Addr} {o : HO} (h : hid S H a = some o) : ¬ S a ∧ H a = some o := by
  by_cases q : S a
  · rw [hid_out q] at h
    cases h
  · rw [hid_in q] at h
    exact ⟨q, h⟩
theorem hid_sub (S : ASet) (H : Hp) : Ex (hid S H) H := fun a o h => (hid_some h).2
theorem hid_le {S T : ASet} {H : Hp} (h : ∀ a, T a → S a) : Ex (hid S H) (hid T H) := fun a o q => by
  obtain ⟨h1, h2⟩ := hid_some q
  rw [hid_in fun z => h1 (h a z)]
  exact h2
theorem hid_upd {S : ASet} {H : Hp} {a : Addr} {o : HO} (h : S a) : hid S (upd H a o) = hid S H := by
  funext b
  by_cases q : S b
  · rw [hid_out q, hid_out q]
  · rw [hid_in q, hid_in q, upd_ne fun e => q (by rw [e]; exact h)]
theorem hid_no (H : Hp) : hid no H = H := by
  funext b
  exact hid_in id
def notTup : HO → Prop
  | .tup _ => False
  | _ => True
def Own (S : ASet) (H : Hp) : Prop := ∀ a, S a → ∃ o, H a = some o ∧ notTup o
structure Ext (O : ASet) (H : Hp) (O' : ASet) (H' : Hp) : Prop where
  kp : ∀ a o, ¬ O a → H a = some o → H' a = some o
  fr : ∀ a, O' a → O a ∨ H a = none
theorem Ext.refl (O : ASet) (H : Hp) : Ext O H O H := ⟨fun _ _ _ h => h, fun _ h => .inl h⟩
theorem Ext.trans {O O' O'' : ASet} {H H' H'' : Hp} (a : Ext O H O' H') (b : Ext O' H' O'' H'') : Ext O H O'' H'' where
  kp := fun x o n h => b.kp x o (fun z => (a.fr x z).elim n fun e => by rw [e] at h; cases h) (a.kp x o n h)
  fr := fun x h => by
    rcases b.fr x h with q | q
    · exact a.fr x q
    · by_cases n : O x
      · exact .inl n
      · cases e : H x with
        | none => exact .inr rfl
        | some o =>
          rw [a.kp x o n e] at q
          cases q
theorem Ext.of_ex {O : ASet} {H H' : Hp} (e : Ex H H') : Ext O H O H' := ⟨fun a o _ h => e a o h, fun _ h => .inl h⟩
theorem Ext.ex {H H' : Hp} {O' : ASet} (e : Ext no H O' H') : Ex H H' := fun a o h => e.kp a o id h
theorem Ext.hid {F O O' : ASet} {H H' : Hp} (e : Ext O H O' H') : Ex (hid (un F O) H) (hid (un F O') H') := fun a o h => by
  obtain ⟨n, h⟩ := hid_some h
  have n1 : ¬ O a := fun z => n (.inr z)
  have n2 : ¬ O' a := fun z => (e.fr a z).elim n1 fun q => by rw [q] at h; cases h
  rw [hid_in fun z => z.elim (fun z => n (.inl z)) n2]
  exact e.kp a o n1 h
theorem Own.ex {S : ASet} {H H' : Hp} (w : Own S H) (e : Ex H H') : Own S H' := fun a h => by
  obtain ⟨o, h1, h2⟩ := w a h
  exact ⟨o, e a o h1, h2⟩
theorem Own.fresh {S : ASet} {H : Hp} (w : Own S H) {p : Addr} (h : H p = none) : ¬ S p := fun z => by
  obtain ⟨o, h1, _⟩ := w p z
  rw [h] at h1
  cases h1
theorem Own.tup {S : ASet} {H : Hp} (w : Own S H) {p : Addr} {xs : List V} (h : H p = some (.tup xs)) : ¬ S p := fun z => by
  obtain ⟨o, h1, h2⟩ := w p z
  rw [h] at h1
  cases h1
  exact h2
/-! ### the slots -/
inductive Slot where
  | non
  | dat (d : PyData)
  | own (a : Addr) (xs : List PyData)
  | tab (a : Addr) (kvs : List (List Int × PyData))
  | ftab (a : Addr) (od : Obj) (es : List (List Key × V)) (kvs : List (List Int × PyData))
  | row (K : PySem.W.Frag) (a : Addr)
abbrev Sl := List Slot
def Slot.addr : Slot → Option Addr
  | .own a _ => some a
  | .tab a _ => some a
  | .row _ a => some a
  | _ => none
inductive RpTab (H : Hp) : List (List Key × V) → List (List Int × PyData) → Prop
  | nil : RpTab H [] []
  | cons {k : List Int} {v : V} {es : List (List Key × V)} {d : PyData} {kvs : List (List Int × PyData)} : Rp H v d → RpTab H es kvs → RpTab H ((k.map Sum.inl, v) :: es) ((k, d) :: kvs)
theorem RpTab.ex {H H' : Hp} (e : Ex H H') : ∀ {es : List (List Key × V)} {kvs : List (List Int × PyData)}, RpTab H es kvs → RpTab H' es kvs
  | _, _, .nil => .nil
  | _, _, .cons r t => .cons (Rp.ex e _ r) (RpTab.ex e t)
/-- the drawing row: the script, the place, the mixed number, the rest of a cell -/
def RowIs (K : PySem.W.Frag) (G H : Hp) (a : Addr) : Prop := ∃ (sc : Addr) (i x c : Int) (ns : List Int), H a = some (.lst [.ref sc, .int i, .int x, .int c]) ∧ SqL K G sc (ns.map V.int) ∧ 0 ≤ i ∧ 0 ≤ x
theorem sqL_ex {K : PySem.W.Frag} {H H' : Hp} {a : Addr} {xs : List V} (e : Ex H H') (h : SqL K H a xs) : SqL K H' a xs := h.imp (fun r => r.imp (fun q => e _ _ q) fun ⟨o, q⟩ => ⟨o, e _ _ q⟩) id
theorem RowIs.ex {K : PySem.W.Frag} {G G' H H' : Hp} {a : Addr} (h : RowIs K G H a) (e : Ex G G') (e2 : H' a = H a) : RowIs K G' H' a := by
  obtain ⟨sc, i, x, c, ns, h1, h2, h3⟩ := h
  exact ⟨sc, i, x, c, ns, by rw [e2]; exact h1, sqL_ex e h2, h3⟩
theorem RpTab.exX {H H' : Hp} {od : Obj} {fs : List (List Key × V)} (e : ∀ b o, o ≠ HO.frz od (.dT fs) → H b = some o → H' b = some o) : ∀ {es : List (List Key × V)} {kvs : List (List Int × PyData)}, RpTab H es kvs → RpTab H' es kvs
  | _, _, .nil => .nil
  | _, _, .cons r t => .cons (Rp.exX e _ r) (RpTab.exX e t)
theorem sqL_exX {K : PySem.W.Frag} {H H' : Hp} {a : Addr} {xs : List V} {od : Obj} {fs : List (List Key × V)} (e : ∀ b o, o ≠ HO.frz od (.dT fs) → H b = some o → H' b = some o) (h : SqL K H a xs) : SqL K H' a xs :=
  h.imp (fun r => r.imp (fun q => e _ _ (fun z => nomatch z) q) fun ⟨o, q⟩ => ⟨o, e _ _ (fun z => by cases z) q⟩) id
def SlotOk (G H : Hp) (O : ASet) (ov : Option V) : Slot → Prop
  | .non => True
  | .dat d => ∃ v, ov = some v ∧ Rp G v d
  | .own a xs => ov = some (.ref a) ∧ O a ∧ ∃ vs, H a = some (.lst vs) ∧ RpAll G vs xs
  | .tab a kvs => ov = some (.ref a) ∧ O a ∧ ∃ es, H a = some (.dT es) ∧ RpTab G es kvs
  | .ftab a od es kvs => ov = some (.ref a) ∧ G a = some (.frz od (.dT es)) ∧ RpTab G es kvs
  | .row K a => ov = some (.ref a) ∧ O a ∧ RowIs K G H a
structure Hs (F O : ASet) (H : Hp) (σ : L2.St) (ds : Sl) : Prop where
  dj : ∀ a, F a → ¬ O a
  len : σ.length = ds.length
  at_ : ∀ (i : Nat) (s : Slot), ds[i]? = some s → ∃ ov, σ[i]? = some ov ∧ SlotOk (hid (un F O) H) H O ov s
  sep : ∀ (i j : Nat) (s t : Slot) (a : Addr), ds[i]? = some s → ds[j]? = some t → s.addr = some a → t.addr = some a → i = j
theorem SlotOk.ex {G G' H H' : Hp} {O : ASet} (e : Ex G G') (h : ∀ a, O a → H' a = H a) {ov : Option V} : ∀ {s : Slot}, SlotOk G H O ov s → SlotOk G' H' O ov s
  | .non, _ => trivial
  | .dat d, ⟨v, h1, h2⟩ => ⟨v, h1, Rp.ex e d h2⟩
  | .own a xs, ⟨h1, h2, vs, h3, h4⟩ => ⟨h1, h2, vs, by rw [h a h2]; exact h3, RpAll.ex e xs h4⟩
  | .tab a kvs, ⟨h1, h2, es, h3, h4⟩ => ⟨h1, h2, es, by rw [h a h2]; exact h3, RpTab.ex e h4⟩
  | .ftab a od es kvs, ⟨h1, h3, h4⟩ => ⟨h1, e _ _ h3, RpTab.ex e h4⟩
  | .row K a, ⟨h1, h2, h3⟩ => ⟨h1, h2, h3.ex e (h a h2)⟩
/-- the heap grows, nothing owned is touched -/
theorem Hs.ex {F O : ASet} {H H' : Hp} {σ : L2.St} {ds : Sl} (w : Own (un F O) H) (h : Hs F O H σ ds) (e : Ex H H') : Hs F O H' σ ds := by
  refine ⟨h.dj, h.len, fun i s q => ?_, h.sep⟩
  obtain ⟨ov, h1, h2⟩ := h.at_ i s q
  refine ⟨ov, h1, h2.ex (Ext.of_ex e).hid fun a ha => ?_⟩
  obtain ⟨o, e1, _⟩ := w a (.inr ha)
  rw [e a o e1, e1]
theorem Hs.dat {F O : ASet} {H : Hp} {σ : L2.St} {ds : Sl} (h : Hs F O H σ ds) {i : Nat} {d : PyData} (q : ds[i]? = some (.dat d)) : ∃ v, σ[i]? = some (some v) ∧ Rp (hid (un F O) H) v d := by
  obtain ⟨ov, h1, v, rfl, h2⟩ := h.at_ i _ q
  exact ⟨v, h1, h2⟩
theorem Hs.own {F O : ASet} {H : Hp} {σ : L2.St} {ds : Sl} (h : Hs F O H σ ds) {i : Nat} {a : Addr} {xs : List PyData} (q : ds[i]? = some (.own a xs)) : σ[i]? = some (some (.ref a)) ∧ O a ∧ ∃ vs, H a = some (.lst vs) ∧ RpAll (hid (un F O) H) vs xs := by
  obtain ⟨ov, h1, rfl, h2, h3⟩ := h.at_ i _ q
  exact ⟨h1, h2, h3⟩
theorem Hs.tab {F O : ASet} {H : Hp} {σ : L2.St} {ds : Sl} (h : Hs F O H σ ds) {i : Nat} {a : Addr} {xs : List (List Int × PyData)} (q : ds[i]? = some (.tab a xs)) : σ[i]? = some (some (.ref a)) ∧ O a ∧ ∃ es, H a = some (.dT es) ∧ RpTab (hid (un F O) H) es xs := by
  obtain ⟨ov, h1, rfl, h2, h3⟩ := h.at_ i _ q
  exact ⟨h1, h2, h3⟩
theorem Hs.set {F O : ASet} {H : Hp} {σ : L2.St} {ds : Sl} (h : Hs F O H σ ds) {i : Nat} {v : V} {d : PyData} (r : Rp (hid (un F O) H) v d) : Hs F O H (σ.set i (some v)) (ds.set i (.dat d)) := by
  refine ⟨h.dj, by rw [List.length_set, List.length_set]; exact h.len, fun j s q => ?_, fun j k s t a q1 q2 e1 e2 => ?_⟩
  · by_cases e : i = j
    · subst e
      have hl : i < ds.length := by
        have := (List.getElem?_eq_some_iff.mp q).1
        rwa [List.length_set] at this
      rw [List.getElem?_set_self hl] at q
      cases q
      exact ⟨some v, by rw [List.getElem?_set_self (by rw [h.len]; exact hl)], v, rfl, r⟩
    · rw [List.getElem?_set_ne e] at q ⊢
      exact h.at_ j s q
  · have key : ∀ {j : Nat} {s : Slot}, (ds.set i (.dat d))[j]? = some s → s.addr = some a → ds[j]? = some s := fun {j s} q e1 => by
      by_cases e : i = j
      · subst e
        have hl : i < ds.length := by
          have := (List.getElem?_eq_some_iff.mp q).1
          rwa [List.length_set] at this
        rw [List.getElem?_set_self hl] at q
        cases q
        cases e1
      · rwa [List.getElem?_set_ne e] at q
    exact h.sep j k s t a (key q1 e1) (key q2 e2) e1 e2
theorem Hs.forget {F O : ASet} {H : Hp} {σ : L2.St} {ds : Sl} (h : Hs F O H σ ds) {i : Nat} {ov : Option V} : Hs F O H (σ.set i ov) (ds.set i .non) := by
  refine ⟨h.dj, by rw [List.length_set, List.length_set]; exact h.len, fun j s q => ?_, fun j k s t a q1 q2 e1 e2 => ?_⟩
  · by_cases e : i = j
    · subst e
      have hl : i < ds.length := by
        have := (List.getElem?_eq_some_iff.mp q).1
        rwa [List.length_set] at this
      rw [List.getElem?_set_self hl] at q
      cases q
      exact ⟨ov, by rw [List.getElem?_set_self (by rw [h.len]; exact hl)], trivial⟩
    · rw [List.getElem?_set_ne e] at q ⊢
      exact h.at_ j s q
  · have key : ∀ {j : Nat} {s : Slot}, (ds.set i .non)[j]? = some s → s.addr = some a → ds[j]? = some s := fun {j s} q e1 => by
      by_cases e : i = j
      · subst e
        have hl : i < ds.length := by
          have := (List.getElem?_eq_some_iff.mp q).1
          rwa [List.length_set] at this
        rw [List.getElem?_set_self hl] at q
        cases q
        cases e1
      · rwa [List.getElem?_set_ne e] at q
    exact h.sep j k s t a (key q1 e1) (key q2 e2) e1 e2
/-- an owned thing is another -/
theorem Hs.mut {F O : ASet} {H : Hp} {σ : L2.St} {ds : Sl} (h : Hs F O H σ ds) {i : Nat} {s0 s1 : Slot} {a : Addr} {o : HO} (q0 : ds[i]? = some s0) (a0 : s0.addr = some a) (a1 : s1.addr = some a) (ha : O a)
    (ok : ∀ ov, σ[i]? = some ov → SlotOk (hid (un F O) H) (upd H a o) O ov s1) : Hs F O (upd H a o) σ (ds.set i s1) := by
  have hl : i < ds.length := (List.getElem?_eq_some_iff.mp q0).1
  refine ⟨h.dj, by rw [List.length_set]; exact h.len, fun j s q => ?_, fun j k s t b q1 q2 e1 e2 => ?_⟩
  · rw [hid_upd (S := un F O) (.inr ha)]
    by_cases e : i = j
    · subst e
      rw [List.getElem?_set_self hl] at q
      cases q
      obtain ⟨ov, h1, _⟩ := h.at_ i _ q0
      exact ⟨ov, h1, ok ov h1⟩
    · rw [List.getElem?_set_ne e] at q
      obtain ⟨ov, h1, h2⟩ := h.at_ j s q
      refine ⟨ov, h1, ?_⟩
      cases s with
      | non => trivial
      | dat d => exact h2
      | own b xs =>
        have ne : b ≠ a := fun z => e (h.sep i j s0 _ a q0 q a0 (by rw [z]; rfl))
        obtain ⟨z1, z2, vs, z3, z4⟩ := h2
        exact ⟨z1, z2, vs, by rw [upd_ne ne]; exact z3, z4⟩
      | tab b xs =>
        have ne : b ≠ a := fun z => e (h.sep i j s0 _ a q0 q a0 (by rw [z]; rfl))
        obtain ⟨z1, z2, vs, z3, z4⟩ := h2
        exact ⟨z1, z2, vs, by rw [upd_ne ne]; exact z3, z4⟩
      | ftab b od es xs => exact h2
      | row K b =>
        have ne : b ≠ a := fun z => e (h.sep i j s0 _ a q0 q a0 (by rw [z]; rfl))
        obtain ⟨z1, z2, z3⟩ := h2
        exact ⟨z1, z2, z3.ex (Evl.Ex.refl _) (upd_ne ne)⟩
  · have key : ∀ {j : Nat} {s : Slot}, (ds.set i s1)[j]? = some s → s.addr = some b → ∃ s', ds[j]? = some s' ∧ s'.addr = some b := fun {j s} q e1 => by
      by_cases e : i = j
      · subst e
        rw [List.getElem?_set_self hl] at q
        cases q
        exact ⟨s0, q0, by rw [a0, ← a1, e1]⟩
      · rw [List.getElem?_set_ne e] at q
        exact ⟨s, q, e1⟩
    obtain ⟨s', z1, z2⟩ := key q1 e1
    obtain ⟨t', z3, z4⟩ := key q2 e2
    exact h.sep j k s' t' b z1 z3 z2 z4
/-- all stands, p new and hidden -/
theorem hid_new {F O : ASet} {H : Hp} {p : Addr} {o : HO} (w : Own (un F O) H) (hp : H p = none) : hid (un F fun a => O a ∨ a = p) (upd H p o) = hid (un F O) H := by
  funext b
  by_cases q : un F O b
  · rw [hid_out q, hid_out (q.elim .inl fun z => .inr (.inl z))]
  · rw [hid_in q]
    by_cases e : b = p
    · subst e
      rw [hid_out (.inr (.inr rfl)), hp]
    · rw [hid_in fun z => z.elim (fun z => q (.inl z)) fun z => z.elim (fun z => q (.inr z)) e, upd_ne e]
theorem Own.new {F O : ASet} {H : Hp} {p : Addr} {o : HO} (w : Own (un F O) H) (hp : H p = none) (ho : notTup o) : Own (un F fun a => O a ∨ a = p) (upd H p o) := fun a h => by
  by_cases e : a = p
  · subst e
    exact ⟨o, upd_same, ho⟩
  · obtain ⟨u, h1, h2⟩ := w a (h.elim .inl fun z => .inr (z.resolve_right e))
    exact ⟨u, by rw [upd_ne e]; exact h1, h2⟩
theorem Ext.new {O : ASet} {H : Hp} {p : Addr} {o : HO} (hp : H p = none) : Ext O H (fun a => O a ∨ a = p) (upd H p o) :=
  ⟨fun a u _ h => by rw [upd_ne (ne_of_none h hp)]; exact h, fun a h => h.imp id fun (e : a = p) => e ▸ hp⟩
theorem Hs.new {F O : ASet} {H : Hp} {σ : L2.St} {ds : Sl} (w : Own (un F O) H) (h : Hs F O H σ ds) {p : Addr} {o : HO} (hp : H p = none) : Hs F (fun a => O a ∨ a = p) (upd H p o) σ ds := by
  have nS := w.fresh hp
  refine ⟨fun a fa z => z.elim (h.dj a fa) fun e => nS (by rw [← e]; exact .inl fa), h.len, fun j s q => ?_, h.sep⟩
  rw [hid_new w hp]
  obtain ⟨ov, h1, h2⟩ := h.at_ j s q
  refine ⟨ov, h1, ?_⟩
  have ne : ∀ b, O b → b ≠ p := fun b hb z => nS (by rw [← z]; exact .inr hb)
  cases s with
  | non => trivial
  | dat d => exact h2
  | own b xs =>
    obtain ⟨z1, z2, vs, z3, z4⟩ := h2
    exact ⟨z1, .inl z2, vs, by rw [upd_ne (ne b z2)]; exact z3, z4⟩
  | tab b xs =>
    obtain ⟨z1, z2, vs, z3, z4⟩ := h2
    exact ⟨z1, .inl z2, vs, by rw [upd_ne (ne b z2)]; exact z3, z4⟩
  | ftab b od es xs => exact h2
  | row K b =>
    obtain ⟨z1, z2, z3⟩ := h2
    exact ⟨z1, .inl z2, z3.ex (Evl.Ex.refl _) (upd_ne (ne b z2))⟩
/-- no slot knows an address that is not owned -/
theorem Hs.other {F O : ASet} {H : Hp} {σ : L2.St} {ds : Sl} (h : Hs F O H σ ds) {j : Nat} {s : Slot} {b : Addr} (q : ds[j]? = some s) (e : s.addr = some b) : O b := by
  obtain ⟨ov, _, h2⟩ := h.at_ j s q
  cases s with
  | non => cases e
  | dat d => cases e
  | own c xs =>
    cases e
    exact h2.2.1
  | tab c xs =>
    cases e
    exact h2.2.1
  | ftab c od es xs => cases e
  | row K c =>
    cases e
    exact h2.2.1
/-- an owned thing comes to a slot -/
theorem Hs.setOwn {F O : ASet} {H : Hp} {σ : L2.St} {ds : Sl} (h : Hs F O H σ ds) {i : Nat} {s1 : Slot} {p : Addr} (a1 : s1.addr = some p) (np : ∀ (j : Nat) (s : Slot), ds[j]? = some s → s.addr ≠ some p) (ok : SlotOk (hid (un F O) H) H O (some (.ref p)) s1) :
    Hs F O H (σ.set i (some (.ref p))) (ds.set i s1) := by
  refine ⟨h.dj, by rw [List.length_set, List.length_set]; exact h.len, fun j s q => ?_, fun j k s t b q1 q2 e1 e2 => ?_⟩
  · by_cases e : i = j
    · subst e
      have hl : i < ds.length := by
        have := (List.getElem?_eq_some_iff.mp q).1
        rwa [List.length_set] at this
      rw [List.getElem?_set_self hl] at q
      cases q
      exact ⟨some (.ref p), by rw [List.getElem?_set_self (by rw [h.len]; exact hl)], ok⟩
    · rw [List.getElem?_set_ne e] at q ⊢
      exact h.at_ j s q
  · have key : ∀ {j : Nat} {s : Slot}, (ds.set i s1)[j]? = some s → s.addr = some b → (j = i ∧ b = p) ∨ (b ≠ p ∧ ds[j]? = some s) := fun {j s} q e1 => by
      by_cases e : i = j
      · subst e
        have hl : i < ds.length := by
          have := (List.getElem?_eq_some_iff.mp q).1
          rwa [List.length_set] at this
        rw [List.getElem?_set_self hl] at q
        cases q
        rw [a1] at e1
        exact .inl ⟨rfl, (Option.some.inj e1).symm⟩
      · rw [List.getElem?_set_ne e] at q
        exact .inr ⟨fun z => np j s q (by rw [e1, z]), q⟩
    rcases key q1 e1 with ⟨z1, z2⟩ | ⟨z1, z2⟩
    · rcases key q2 e2 with ⟨z3, z4⟩ | ⟨z3, z4⟩
      · rw [z1, z3]
      · exact absurd z2 z3
    · rcases key q2 e2 with ⟨z3, z4⟩ | ⟨z3, z4⟩
      · exact absurd z4 z1
      · exact h.sep j k s t b z2 z4 e1 e2
/-- an owned list is told as data from now on -/
theorem Hs.release {F O : ASet} {H : Hp} {σ : L2.St} {ds : Sl} (h : Hs F O H σ ds) {i : Nat} {p : Addr} {xs : List PyData} (q : ds[i]? = some (.own p xs)) : Hs F (fun a => O a ∧ a ≠ p) H σ (ds.set i (.dat (.list xs))) := by
  have hl : i < ds.length := (List.getElem?_eq_some_iff.mp q).1
  have up : Ex (hid (un F O) H) (hid (un F fun a => O a ∧ a ≠ p) H) := hid_le fun a z => z.imp id And.left
  obtain ⟨g1, g2, vs, g3, g4⟩ := h.own q
  refine ⟨fun a fa z => h.dj a fa z.1, by rw [List.length_set]; exact h.len, fun j s q2 => ?_, fun j k s t b q1 q2 e1 e2 => ?_⟩
  · by_cases e : i = j
    · subst e
      rw [List.getElem?_set_self hl] at q2
      cases q2
      refine ⟨_, g1, .ref p, rfl, .lst ?_ (RpAll.ex up xs g4)⟩
      rw [hid_in fun z => z.elim (fun z => h.dj p z g2) fun z => z.2 rfl]
      exact g3
    · rw [List.getElem?_set_ne e] at q2
      obtain ⟨ov, h1, h2⟩ := h.at_ j s q2
      refine ⟨ov, h1, ?_⟩
      cases s with
      | non => trivial
      | dat d =>
        obtain ⟨v, z1, z2⟩ := h2
        exact ⟨v, z1, Rp.ex up d z2⟩
      | own b ys =>
        obtain ⟨z1, z2, ws, z3, z4⟩ := h2
        exact ⟨z1, ⟨z2, fun z => e (h.sep i j _ _ p q q2 rfl (by rw [← z]; rfl))⟩, ws, z3, RpAll.ex up _ z4⟩
      | tab b ys =>
        obtain ⟨z1, z2, ws, z3, z4⟩ := h2
        exact ⟨z1, ⟨z2, fun z => e (h.sep i j _ _ p q q2 rfl (by rw [← z]; rfl))⟩, ws, z3, RpTab.ex up z4⟩
      | ftab b od es ys =>
        obtain ⟨z1, z3, z4⟩ := h2
        exact ⟨z1, up _ _ z3, RpTab.ex up z4⟩
      | row K b =>
        obtain ⟨z1, z2, z3⟩ := h2
        exact ⟨z1, ⟨z2, fun z => e (h.sep i j _ _ p q q2 rfl (by rw [← z]; rfl))⟩, z3.ex up rfl⟩
  · have key : ∀ {j : Nat} {s : Slot}, (ds.set i (.dat (.list xs)))[j]? = some s → s.addr = some b → ds[j]? = some s := fun {j s} q e1 => by
      by_cases e : i = j
      · subst e
        rw [List.getElem?_set_self hl] at q
        cases q
        cases e1
      · rwa [List.getElem?_set_ne e] at q
    exact h.sep j k s t b (key q1 e1) (key q2 e2) e1 e2
end Hk
set_option Elab.async false
set_option linter.all false
set_option maxRecDepth 100000
set_option maxHeartbeats 4000000
set_option autoImplicit false
/-! HkE: the judgements: an expression evaluates to a datum, a statement leads to slots. -/
namespace Hk
open PySem PySem.Spec PyProof.Rows L2
section
/-- what is handed on: the state behind -/
structure To (F O : ASet) (σ : L2.St) (H : Hp) (O2 : ASet) (H2 : Hp) (ds2 : Sl) : Prop where
  ext : Ext O H O2 H2
  own : Own (un F O2) H2
  hs : Hs F O2 H2 σ ds2
def EvE (te : TE) (ds : Sl) (P : PyData → Sl → Prop) : Prop := ∀ (F O : ASet) (σ : L2.St) (H : Hp) (Q : VK), Own (un F O) H → Hs F O H σ ds →
  (∀ v d ds2 O2 H2, To F O σ H O2 H2 ds2 → Rp (hid (un F O2) H2) v d → P d ds2 → Q v H2) → te σ H Q
abbrev EvS (te : TE) (ds : Sl) (d : PyData) : Prop := EvE te ds fun d' ds' => d' = d ∧ ds' = ds
def EtE (tt : TT) (ds : Sl) (P : Bool → Sl → Prop) : Prop := ∀ (F O : ASet) (σ : L2.St) (H : Hp) (Q : Bool → Hp → Prop), Own (un F O) H → Hs F O H σ ds →
  (∀ b ds2 O2 H2, To F O σ H O2 H2 ds2 → P b ds2 → Q b H2) → tt σ H Q
abbrev EtS (tt : TT) (ds : Sl) (b : Bool) : Prop := EtE tt ds fun b' ds' => b' = b ∧ ds' = ds
def EaE (ta : TA) (ds : Sl) (P : List PyData → Sl → Prop) : Prop := ∀ (F O : ASet) (σ : L2.St) (H : Hp) (Q : List V → Hp → Prop), Own (un F O) H → Hs F O H σ ds →
  (∀ vs xs ds2 O2 H2, To F O σ H O2 H2 ds2 → RpAll (hid (un F O2) H2) vs xs → P xs ds2 → Q vs H2) → ta σ H Q
abbrev EaS (ta : TA) (ds : Sl) (xs : List PyData) : Prop := EaE ta ds fun xs' ds' => xs' = xs ∧ ds' = ds
theorem To.refl {F O : ASet} {σ : L2.St} {H : Hp} {ds : Sl} (w : Own (un F O) H) (h : Hs F O H σ ds) : To F O σ H O H ds := ⟨Ext.refl O H, w, h⟩
theorem To.trans {F O O2 O3 : ASet} {σ : L2.St} {H H2 H3 : Hp} {ds2 ds3 : Sl} (a : To F O σ H O2 H2 ds2) (b : To F O2 σ H2 O3 H3 ds3) : To F O σ H O3 H3 ds3 := ⟨a.ext.trans b.ext, b.own, b.hs⟩
theorem To.ex {F O : ASet} {σ : L2.St} {H H' : Hp} {ds : Sl} (w : Own (un F O) H) (h : Hs F O H σ ds) (e : Ex H H') : To F O σ H O H' ds := ⟨Ext.of_ex e, w.ex e, h.ex w e⟩
theorem To.more {F O O2 : ASet} {σ : L2.St} {H H2 H3 : Hp} {ds2 : Sl} (a : To F O σ H O2 H2 ds2) (e : Ex H2 H3) : To F O σ H O2 H3 ds2 := a.trans (To.ex a.own a.hs e)
theorem To.up {F O O2 : ASet} {σ : L2.St} {H H2 : Hp} {ds2 : Sl} (a : To F O σ H O2 H2 ds2) : Ex (hid (un F O) H) (hid (un F O2) H2) := a.ext.hid
theorem EvE.mono {te : TE} {ds : Sl} {P P' : PyData → Sl → Prop} (h : EvE te ds P) (k : ∀ d ds', P d ds' → P' d ds') : EvE te ds P' := fun F O σ H Q w hs q => h F O σ H Q w hs fun v d ds2 O2 H2 t r p => q v d ds2 O2 H2 t r (k d ds2 p)
theorem EvE.of {te : TE} {ds : Sl} {d : PyData} {P : PyData → Sl → Prop} (h : EvS te ds d) (k : P d ds) : EvE te ds P := h.mono fun _ _ e => by
  rw [e.1, e.2]
  exact k
theorem EtE.mono {tt : TT} {ds : Sl} {P P' : Bool → Sl → Prop} (h : EtE tt ds P) (k : ∀ d ds', P d ds' → P' d ds') : EtE tt ds P' := fun F O σ H Q w hs q => h F O σ H Q w hs fun v ds2 O2 H2 t p => q v ds2 O2 H2 t (k v ds2 p)
theorem EtE.of {tt : TT} {ds : Sl} {b : Bool} {P : Bool → Sl → Prop} (h : EtS tt ds b) (k : P b ds) : EtE tt ds P := h.mono fun _ _ e => by
  rw [e.1, e.2]
  exact k
theorem EaE.mono {ta : TA} {ds : Sl} {P P' : List PyData → Sl → Prop} (h : EaE ta ds P) (k : ∀ d ds', P d ds' → P' d ds') : EaE ta ds P' := fun F O σ H Q w hs q => h F O σ H Q w hs fun v d ds2 O2 H2 t r p => q v d ds2 O2 H2 t r (k d ds2 p)
/-- the value told otherwise -/
theorem EvE.cast {te : TE} {ds : Sl} {d d' : PyData} (h : EvS te ds d) (e : d = d') : EvS te ds d' := by
  rw [← e]
  exact h
theorem EtE.cast {tt : TT} {ds : Sl} {b b' : Bool} (h : EtS tt ds b) (e : b = b') : EtS tt ds b' := by
  rw [← e]
  exact h
/-! ### names, constants -/
theorem ev_var {i : Nat} {ds : Sl} {d : PyData} (q : ds[i]? = some (.dat d)) : EvS (tVar i) ds d := fun F O σ H Q w hs k => by
  obtain ⟨v, h1, h2⟩ := hs.dat q
  exact ⟨v, h1, k v d ds O H (To.refl w hs) h2 ⟨rfl, rfl⟩⟩
theorem ev_int {n : Int} {ds : Sl} : EvS (tC (.int n)) ds (.int n) := fun F O σ H Q w hs k => k _ _ ds O H (To.refl w hs) (.int n) ⟨rfl, rfl⟩
theorem ev_bl {b : Bool} {ds : Sl} : EvS (tC (.bl b)) ds (.bool b) := fun F O σ H Q w hs k => k _ _ ds O H (To.refl w hs) (.bl b) ⟨rfl, rfl⟩
theorem ev_non {ds : Sl} : EvS (tC .non) ds .none := fun F O σ H Q w hs k => k _ _ ds O H (To.refl w hs) .non ⟨rfl, rfl⟩
/-! ### two operands -/
def RD (r : R2) (x y z : PyData) : Prop := ∀ (S : ASet) (H : Hp) (a b : V) (Q : VK), Own S H → Rp (hid S H) a x → Rp (hid S H) b y → (∀ v H2, Ex H H2 → Rp (hid S H2) v z → Q v H2) → r a b H Q
theorem ee_op {r : R2} {ta tb : TE} {ds : Sl} {P1 P : PyData → Sl → Prop} (ha : EvE ta ds P1) (hb : ∀ x ds1, P1 x ds1 → EvE tb ds1 fun y ds2 => ∃ z, RD r x y z ∧ P z ds2) : EvE (tOp r ta tb) ds P := fun F O σ H Q w hs k =>
  ha F O σ H _ w hs fun a x ds1 O1 H1 t1 r1 p1 => hb x ds1 p1 F O1 σ H1 _ t1.own t1.hs fun b y ds2 O2 H2 t2 r2 ⟨z, hr, p2⟩ =>
    hr (un F O2) H2 a b Q t2.own (Rp.ex t2.up x r1) r2 fun v H3 e3 r3 => k v z ds2 O2 H3 ((t1.trans t2).more e3) r3 p2
theorem ev_op {r : R2} {ta tb : TE} {ds : Sl} {x y z : PyData} (ha : EvS ta ds x) (hb : EvS tb ds y) (hr : RD r x y z) : EvS (tOp r ta tb) ds z :=
  ee_op ha fun x' ds1 e => by
    obtain ⟨rfl, rfl⟩ := e
    exact hb.mono fun y' ds2 e2 => by
      obtain ⟨rfl, rfl⟩ := e2
      exact ⟨z, hr, rfl, rfl⟩
def RU (r : V → Hp → VK → Prop) (x z : PyData) : Prop := ∀ (S : ASet) (H : Hp) (a : V) (Q : VK), Own S H → Rp (hid S H) a x → (∀ v H2, Ex H H2 → Rp (hid S H2) v z → Q v H2) → r a H Q
theorem ev_un {r : V → Hp → VK → Prop} {ta : TE} {ds : Sl} {x z : PyData} (ha : EvS ta ds x) (hr : RU r x z) : EvS (tUn r ta) ds z := fun F O σ H Q w hs k =>
  ha F O σ H _ w hs fun a x ds1 O1 H1 t1 r1 ⟨e1, e2⟩ => by
    subst e1 e2
    exact hr (un F O1) H1 a Q t1.own r1 fun v H3 e3 r3 => k v z _ O1 H3 (t1.more e3) r3 ⟨rfl, rfl⟩
theorem rd_of {r : R2} {x y z : PyData} {zv : V} (hz : ∀ G, Rp G zv z) (h : ∀ (S : ASet) (H : Hp) (a b : V) (Q : VK), Own S H → Rp (hid S H) a x → Rp (hid S H) b y → Q zv H → r a b H Q) : RD r x y z :=
  fun S H a b Q w ra rb k => h S H a b Q w ra rb (k zv H (Evl.Ex.refl H) (hz _))
theorem rd_I {C : Int → Int → Prop} {g : Int → Int → Int} {i j : Int} (h : C i j) : RD (rI C fun i j => .int (g i j)) (.int i) (.int j) (.int (g i j)) := rd_of (fun _ => .int _) fun S H a b Q w ra rb q => by
  cases ra
  cases rb
  exact ⟨i, j, rfl, rfl, h, q⟩
theorem rd_I0 {g : Int → Int → Int} {i j : Int} : RD (rI0 fun i j => .int (g i j)) (.int i) (.int j) (.int (g i j)) := rd_of (fun _ => .int _) fun S H a b Q w ra rb q => by
  cases ra
  cases rb
  exact ⟨i, j, rfl, rfl, q⟩
theorem rd_B0 {g : Int → Int → Bool} {i j : Int} : RD (rI0 fun i j => .bl (g i j)) (.int i) (.int j) (.bool (g i j)) := rd_of (fun _ => .bl _) fun S H a b Q w ra rb q => by
  cases ra
  cases rb
  exact ⟨i, j, rfl, rfl, q⟩
theorem ru_I {g : Int → Int} {i : Int} : RU (rU fun i => .int (g i)) (.int i) (.int (g i)) := fun S H a Q w ra k => by
  cases ra
  exact ⟨i, rfl, k _ H (Evl.Ex.refl H) (.int _)⟩
/-- == and != of data -/
theorem shaped_of {d : PyData} (h1 : d.canLay0 = true) (h2 : d.depth ≤ 64) : SeqAt.shaped d = true := by
  show (d.canLay0 && decide (d.depth ≤ 64)) = true
  rw [h1, decide_eq_true h2]
  rfl
theorem rd_eq {K : PySem.W.Frag} {x y : PyData} (px : plain x = true) (py : plain y = true) (sx : SeqAt.shaped x = true) (sy : SeqAt.shaped y = true) : RD (rEqD K) x y (.bool (PyData.eqv x y)) := rd_of (fun _ => .bl _) fun S H a b Q w ra rb q =>
  ⟨x, y, (ra.ex (hid_sub S H)).dp _ px, (rb.ex (hid_sub S H)).dp _ py, sx, sy, q⟩
theorem rd_ne {K : PySem.W.Frag} {x y : PyData} (px : plain x = true) (py : plain y = true) (sx : SeqAt.shaped x = true) (sy : SeqAt.shaped y = true) : RD (rNeD K) x y (.bool (!PyData.eqv x y)) := rd_of (fun _ => .bl _) fun S H a b Q w ra rb q =>
  ⟨x, y, (ra.ex (hid_sub S H)).dp _ px, (rb.ex (hid_sub S H)).dp _ py, sx, sy, q⟩
/-- items -/
theorem at_rp {H : Hp} {vs : List V} {ds : List PyData} (h : RpAll H vs ds) {i : Int} {d : PyData} (q : atI ds i = some d) : ∃ v, atI vs i = some v ∧ Rp H v d := by
  unfold atI at q ⊢
  rw [h.length]
  cases e : ixN ds.length i with
  | none =>
    rw [e] at q
    cases q
  | some j =>
    rw [e] at q
    exact h.get (show ds[j]? = some d from q)
theorem rd_ixL {K : PySem.W.Frag} {xs : List PyData} {i : Int} {d : PyData} (q : atI xs i = some d) : RD (rIx K) (.list xs) (.int i) d := fun S H a b Q w ra rb k => by
  cases rb
  cases ra with
  | lst h1 h2 =>
    obtain ⟨v, e, r⟩ := at_rp h2 q
    exact .inl ⟨_, _, i, v, rfl, rfl, .of ((hid_sub S H) _ _ h1), e, k v H (Evl.Ex.refl H) r⟩
theorem rd_ixT {K : PySem.W.Frag} {xs : List PyData} {i : Int} {d : PyData} (q : atI xs i = some d) : RD (rIx K) (.tuple xs) (.int i) d := fun S H a b Q w ra rb k => by
  cases rb
  cases ra with
  | tup h1 h2 =>
    obtain ⟨v, e, r⟩ := at_rp h2 q
    exact .inr (.inl ⟨_, _, i, v, rfl, rfl, .of ((hid_sub S H) _ _ h1), e, k v H (Evl.Ex.refl H) r⟩)
theorem at_nat {ds : List PyData} {j : Nat} {d : PyData} (h : ds[j]? = some d) : atI ds (j : Int) = some d := atI_nat h
/-- lists and tuples, one behind another -/
theorem rp_newL {S : ASet} {H : Hp} {p : Addr} {vs : List V} {ds : List PyData} (w : Own S H) (hp : H p = none) (h : RpAll (hid S H) vs ds) : Rp (hid S (upd H p (.lst vs))) (.ref p) (.list ds) := by
  have e : Ex H (upd H p (.lst vs)) := Evl.Ex.new hp
  refine .lst (xs := vs) ?_ (RpAll.ex (fun a o q => ?_) ds h)
  · rw [hid_in (w.fresh hp), upd_same]
  · obtain ⟨n, q⟩ := hid_some q
    rw [hid_in n]
    exact e a o q
theorem rp_newT {S : ASet} {H : Hp} {p : Addr} {vs : List V} {ds : List PyData} (w : Own S H) (hp : H p = none) (h : RpAll (hid S H) vs ds) : Rp (hid S (upd H p (.tup vs))) (.ref p) (.tuple ds) := by
  have e : Ex H (upd H p (.tup vs)) := Evl.Ex.new hp
  refine .tup (xs := vs) ?_ (RpAll.ex (fun a o q => ?_) ds h)
  · rw [hid_in (w.fresh hp), upd_same]
  · obtain ⟨n, q⟩ := hid_some q
    rw [hid_in n]
    exact e a o q
theorem rd_cat {xs ys : List PyData} (h : xs.length + ys.length ≤ 100000) : RD rCat (.list xs) (.list ys) (.list (xs ++ ys)) := fun S H a b Q w ra rb k => by
  cases ra with
  | lst h1 h2 =>
    cases rb with
    | lst h3 h4 =>
      refine ⟨_, _, _, _, rfl, rfl, (hid_sub S H) _ _ h1, (hid_sub S H) _ _ h3, Evl.sz_of (by rw [h2.length, h4.length]; exact h), fun p hp => k _ _ (Evl.Ex.new hp) (rp_newL w hp (h2.append h4))⟩
theorem rd_catT {K : PySem.W.Frag} {xs ys : List PyData} (h : xs.length + ys.length ≤ 100000) : RD (rCatA K) (.tuple xs) (.tuple ys) (.tuple (xs ++ ys)) := fun S H a b Q w ra rb k => by
  cases ra with
  | tup h1 h2 =>
    cases rb with
    | tup h3 h4 =>
      refine ⟨_, _, _, _, rfl, rfl, .of ((hid_sub S H) _ _ h1), .of ((hid_sub S H) _ _ h3), Evl.sz_of (by rw [h2.length, h4.length]; exact h), ?_⟩
      have e1 := h2.length
      have e2 := h4.length
      refine ⟨fun z => ?_, fun _ z => ?_, fun _ _ p hp => k _ _ (Evl.Ex.new hp) (rp_newT w hp (h2.append h4))⟩
      · subst z
        have z' : xs = [] := List.length_eq_zero_iff.mp e1.symm
        subst z'
        exact k _ _ (Evl.Ex.refl H) (.tup h3 h4)
      · subst z
        have z' : ys = [] := List.length_eq_zero_iff.mp e2.symm
        subst z'
        rw [List.append_nil] at k
        exact k _ _ (Evl.Ex.refl H) (.tup h1 h2)
/-! ### slices -/
def SlD (r : V → Option Int → Option Int → Hp → VK → Prop) (x : PyData) (lo hi : Option Int) (z : PyData) : Prop := ∀ (S : ASet) (H : Hp) (a : V) (Q : VK), Own S H → Rp (hid S H) a x → (∀ v H2, Ex H H2 → Rp (hid S H2) v z → Q v H2) → r a lo hi H Q
def EoS (to : TO) (ds : Sl) (o : Option Int) : Prop := ∀ (F O : ASet) (σ : L2.St) (H : Hp) (Q : Option Int → Hp → Prop), Own (un F O) H → Hs F O H σ ds → (∀ O2 H2, To F O σ H O2 H2 ds → Q o H2) → to σ H Q
theorem eo_none {ds : Sl} : EoS tNoPart ds none := fun F O σ H Q w hs k => k O H (To.refl w hs)
theorem eo_some {te : TE} {ds : Sl} {i : Int} (h : EvS te ds (.int i)) : EoS (tPart te) ds (some i) := fun F O σ H Q w hs k => h F O σ H _ w hs fun v d ds2 O2 H2 t r ⟨e1, e2⟩ => by
  subst e1 e2
  cases r
  exact ⟨i, rfl, k O2 H2 t⟩
theorem ev_sl {r : V → Option Int → Option Int → Hp → VK → Prop} {te : TE} {tl th : TO} {ds : Sl} {x z : PyData} {lo hi : Option Int} (h : EvS te ds x) (hl : EoS tl ds lo) (hh : EoS th ds hi) (hr : SlD r x lo hi z) : EvS (tSl r te tl th) ds z := fun F O σ H Q w hs k =>
  h F O σ H _ w hs fun v d ds2 O2 H2 t r1 ⟨e1, e2⟩ => by
    subst e1 e2
    exact hl F O2 σ H2 _ t.own t.hs fun O3 H3 t3 => hh F O3 σ H3 _ t3.own t3.hs fun O4 H4 t4 => hr (un F O4) H4 v Q t4.own (Rp.ex (t3.trans t4).up _ r1) fun v5 H5 e5 r5 => k v5 z _ O4 H5 (((t.trans t3).trans t4).more e5) r5 ⟨rfl, rfl⟩
def cutD (xs : List PyData) (lo hi : Option Int) : List PyData := (xs.drop (HT.sIx xs.length 0 lo)).take (HT.sIx xs.length xs.length hi - HT.sIx xs.length 0 lo)
theorem sl_D {K : PySem.W.Frag} {xs : List PyData} {lo hi : Option Int} : SlD (rSlA K) (.tuple xs) lo hi (.tuple (cutD xs lo hi)) := fun S H a Q w ra k => by
  cases ra with
  | tup h1 h2 =>
    refine ⟨_, _, rfl, .of ((hid_sub S H) _ _ h1), fun z => ?_, fun z p hp => k _ _ (Evl.Ex.new hp) (rp_newT w hp ?_)⟩
    · have e : cutD xs lo hi = xs := by
        unfold cutD
        rw [← h2.length, z.1, z.2, h2.length]
        simp
      rw [e] at k
      exact k _ _ (Evl.Ex.refl H) (.tup h1 h2)
    · unfold cutV cutD
      rw [h2.length]
      exact (h2.drop _).take _
/-! ### truth values -/
theorem ee_and {ta tb : TE} {ds : Sl} {P1 P : PyData → Sl → Prop} (ha : EvE ta ds P1) (hc : ∀ d ds1, P1 d ds1 → ∃ c, d = .bool c) (h1 : ∀ ds1, P1 (.bool true) ds1 → EvE tb ds1 P) (h0 : ∀ ds1, P1 (.bool false) ds1 → P (.bool false) ds1) : EvE (tAndV ta tb) ds P := fun F O σ H Q w hs k =>
  ha F O σ H _ w hs fun v d ds1 O1 H1 t1 r1 p1 => by
    obtain ⟨c, rfl⟩ := hc d ds1 p1
    cases r1
    refine ⟨c, rfl, ?_⟩
    cases c with
    | true => exact iteT (h1 ds1 p1 F O1 σ H1 Q t1.own t1.hs fun v d ds2 O2 H2 t2 r2 p2 => k v d ds2 O2 H2 (t1.trans t2) r2 p2)
    | false => exact iteF (k _ _ ds1 O1 H1 t1 (.bl false) (h0 ds1 p1))
theorem ev_and {ta tb : TE} {ds : Sl} {a b : Bool} (ha : EvS ta ds (.bool a)) (hb : a = true → EvS tb ds (.bool b)) : EvS (tAndV ta tb) ds (.bool (a && b)) :=
  ee_and ha (fun d ds1 e => ⟨a, e.1⟩) (fun ds1 e => by
    have e1 := PyData.bool.inj e.1
    have e2 := e.2
    subst e1 e2
    exact (hb rfl).mono fun d ds' z => z) fun ds1 e => by
    have e1 := PyData.bool.inj e.1
    subst e1
    exact ⟨rfl, e.2⟩
theorem ev_or {ta tb : TE} {ds : Sl} {a b : Bool} (ha : EvS ta ds (.bool a)) (hb : a = false → EvS tb ds (.bool b)) : EvS (tOrV ta tb) ds (.bool (a || b)) := fun F O σ H Q w hs k =>
  ha F O σ H _ w hs fun v d ds1 O1 H1 t1 r1 ⟨e1, e2⟩ => by
    subst e1 e2
    cases r1
    refine ⟨a, rfl, ?_⟩
    cases a with
    | true => exact iteT (k _ _ _ O1 H1 t1 (.bl true) ⟨rfl, rfl⟩)
    | false => exact iteF (hb rfl F O1 σ H1 Q t1.own t1.hs fun v d ds2 O2 H2 t2 r2 p2 => k v d ds2 O2 H2 (t1.trans t2) r2 p2)
theorem ev_not {ta : TE} {ds : Sl} {a : Bool} (ha : EvS ta ds (.bool a)) : EvS (tNotV ta) ds (.bool (!a)) := fun F O σ H Q w hs k =>
  ha F O σ H _ w hs fun v d ds1 O1 H1 t1 r1 ⟨e1, e2⟩ => by
    subst e1 e2
    cases r1
    exact ⟨a, rfl, k _ _ _ O1 H1 t1 (.bl _) ⟨rfl, rfl⟩⟩
theorem et_B {te : TE} {ds : Sl} {b : Bool} (h : EvS te ds (.bool b)) : EtS (tB te) ds b := fun F O σ H Q w hs k => h F O σ H _ w hs fun v d ds1 O1 H1 t1 r1 ⟨e1, e2⟩ => by
  subst e1 e2
  cases r1
  exact ⟨b, rfl, k _ _ O1 H1 t1 ⟨rfl, rfl⟩⟩
theorem ete_B {te : TE} {ds : Sl} {P : Bool → Sl → Prop} (h : EvE te ds fun d ds' => ∃ b, d = .bool b ∧ P b ds') : EtE (tB te) ds P := fun F O σ H Q w hs k => h F O σ H _ w hs fun v d ds1 O1 H1 t1 r1 ⟨b, e1, p⟩ => by
  subst e1
  cases r1
  exact ⟨b, rfl, k _ _ O1 H1 t1 p⟩
theorem et_yes {ds : Sl} : EtS tYes ds true := fun F O σ H Q w hs k => k _ _ O H (To.refl w hs) ⟨rfl, rfl⟩
theorem ev_ite {tt : TT} {ta tb : TE} {ds : Sl} {b : Bool} {x : PyData} (h : EtS tt ds b) (ha : b = true → EvS ta ds x) (hb : b = false → EvS tb ds x) : EvS (tIf tt ta tb) ds x := fun F O σ H Q w hs k =>
  h F O σ H _ w hs fun c ds1 O1 H1 t1 ⟨e1, e2⟩ => by
    subst e1 e2
    cases c with
    | true => exact iteT (ha rfl F O1 σ H1 Q t1.own t1.hs fun v d ds2 O2 H2 t2 r2 p2 => k v d ds2 O2 H2 (t1.trans t2) r2 p2)
    | false => exact iteF (hb rfl F O1 σ H1 Q t1.own t1.hs fun v d ds2 O2 H2 t2 r2 p2 => k v d ds2 O2 H2 (t1.trans t2) r2 p2)
/-- a < b < c -/
theorem ev_chain {r r' : R2} {ta tb tc : TE} {ds : Sl} {x y z : PyData} {b c : Bool} (ha : EvS ta ds x) (hb : EvS tb ds y) (h1 : RD r x y (.bool b)) (hc : b = true → EvS tc ds z) (h2 : b = true → RD r' y z (.bool c)) : EvS (tChain r r' ta tb tc) ds (.bool (b && c)) := fun F O σ H Q w hs k =>
  ha F O σ H _ w hs fun va d ds1 O1 H1 t1 r1 ⟨e1, e2⟩ => by
    subst e1 e2
    refine hb F O1 σ H1 _ t1.own t1.hs fun vb d ds2 O2 H2 t2 r2 ⟨e3, e4⟩ => ?_
    subst e3 e4
    refine h1 (un F O2) H2 va vb _ t2.own (Rp.ex t2.up _ r1) r2 fun v H3 e3 r3 => ?_
    cases r3
    refine ⟨b, rfl, ?_⟩
    have t3 := (t1.trans t2).more e3
    have t23 := t2.more e3
    cases b with
    | true =>
      refine iteT (hc rfl F O2 σ H3 _ t3.own t3.hs fun vc d ds4 O4 H4 t4 r4 ⟨e5, e6⟩ => ?_)
      subst e5 e6
      exact h2 rfl (un F O4) H4 vb vc Q t4.own (Rp.ex t4.up _ (Rp.ex (To.ex t2.own t2.hs e3).up _ r2)) r4 fun v5 H5 e5 r5 => k v5 _ _ O4 H5 ((t3.trans t4).more e5) r5 ⟨rfl, rfl⟩
    | false => exact iteF (k _ _ _ O2 H3 t3 (.bl false) ⟨rfl, rfl⟩)
/-! ### arguments, displays -/
theorem ea_nil {ds : Sl} : EaS tNil ds [] := fun F O σ H Q w hs k => k _ _ _ O H (To.refl w hs) .nil ⟨rfl, rfl⟩
theorem eae_cons {te : TE} {ta : TA} {ds : Sl} {P1 : PyData → Sl → Prop} {P : List PyData → Sl → Prop} (h : EvE te ds P1) (hr : ∀ x ds1, P1 x ds1 → EaE ta ds1 fun xs ds2 => P (x :: xs) ds2) : EaE (tCons te ta) ds P := fun F O σ H Q w hs k =>
  h F O σ H _ w hs fun v x ds1 O1 H1 t1 r1 p1 => hr x ds1 p1 F O1 σ H1 _ t1.own t1.hs fun vs xs ds2 O2 H2 t2 r2 p2 => k _ _ ds2 O2 H2 (t1.trans t2) (.cons (Rp.ex t2.up _ r1) r2) p2
theorem ea_cons {te : TE} {ta : TA} {ds : Sl} {x : PyData} {xs : List PyData} (h : EvS te ds x) (hr : EaS ta ds xs) : EaS (tCons te ta) ds (x :: xs) := eae_cons h fun x' ds1 e => by
  obtain ⟨rfl, rfl⟩ := e
  exact hr.mono fun ys ds2 z => by
    obtain ⟨rfl, rfl⟩ := z
    exact ⟨rfl, rfl⟩
theorem ee_tup {ta : TA} {ds : Sl} {P : PyData → Sl → Prop} (h : EaE ta ds fun xs ds' => xs.length ≤ 1000 ∧ P (.tuple xs) ds') : EvE (tTup ta) ds P := fun F O σ H Q w hs k =>
  h F O σ H _ w hs fun vs xs ds1 O1 H1 t1 r1 ⟨hl, p⟩ => ⟨Evl.sz_of (by rw [r1.length]; omega), fun p' hp => k _ _ ds1 O1 _ (t1.more (Evl.Ex.new hp)) (rp_newT t1.own hp r1) p⟩
theorem ev_tup {ta : TA} {ds : Sl} {xs : List PyData} (h : EaS ta ds xs) (hl : xs.length ≤ 1000) : EvS (tTup ta) ds (.tuple xs) := ee_tup (h.mono fun ys ds' e => by
  obtain ⟨rfl, rfl⟩ := e
  exact ⟨hl, rfl, rfl⟩)
theorem ee_lst {ta : TA} {ds : Sl} {P : PyData → Sl → Prop} (h : EaE ta ds fun xs ds' => xs.length ≤ 1000 ∧ P (.list xs) ds') : EvE (tLst ta) ds P := fun F O σ H Q w hs k =>
  h F O σ H _ w hs fun vs xs ds1 O1 H1 t1 r1 ⟨hl, p⟩ => ⟨Evl.sz_of (by rw [r1.length]; omega), fun p' hp => k _ _ ds1 O1 _ (t1.more (Evl.Ex.new hp)) (rp_newL t1.own hp r1) p⟩
theorem ev_lst {ta : TA} {ds : Sl} {xs : List PyData} (h : EaS ta ds xs) (hl : xs.length ≤ 1000) : EvS (tLst ta) ds (.list xs) := ee_lst (h.mono fun ys ds' e => by
  obtain ⟨rfl, rfl⟩ := e
  exact ⟨hl, rfl, rfl⟩)
/-! ### calls -/
def RCD (r : List V → Hp → VK → Prop) (xs : List PyData) (z : PyData) : Prop := ∀ (S : ASet) (H : Hp) (vs : List V) (Q : VK), Own S H → RpAll (hid S H) vs xs → (∀ v H2, Ex H H2 → Rp (hid S H2) v z → Q v H2) → r vs H Q
theorem ee_cb {r : List V → Hp → VK → Prop} {ta : TA} {ds : Sl} {P : PyData → Sl → Prop} (h : EaE ta ds fun xs ds' => ∃ z, RCD r xs z ∧ P z ds') : EvE (tCB r ta) ds P := fun F O σ H Q w hs k =>
  h F O σ H _ w hs fun vs xs ds1 O1 H1 t1 r1 ⟨z, hr, p⟩ => hr (un F O1) H1 vs Q t1.own r1 fun v H2 e2 r2 => k v z ds1 O1 H2 (t1.more e2) r2 p
theorem ev_cb {r : List V → Hp → VK → Prop} {ta : TA} {ds : Sl} {xs : List PyData} {z : PyData} (h : EaS ta ds xs) (hr : RCD r xs z) : EvS (tCB r ta) ds z := ee_cb (h.mono fun ys ds' e => by
  obtain ⟨rfl, rfl⟩ := e
  exact ⟨z, hr, rfl, rfl⟩)
/-- a def that changes nothing: from data to a datum -/
def PureSp (rel : List PyData → PyData → Prop) : Sp := fun vs H Q _ => ∃ (S : ASet) (xs : List PyData) (z : PyData), Own S H ∧ RpAll (hid S H) vs xs ∧ rel xs z ∧ ∀ v H2, Ex H H2 → Rp (hid S H2) v z → Q v H2
theorem ee_call {rel : List PyData → PyData → Prop} {E : XK} {ta : TA} {ds : Sl} {P : PyData → Sl → Prop} (h : EaE ta ds fun xs ds' => ∃ z, rel xs z ∧ P z ds') : EvE (tCall (PureSp rel) [] E ta) ds P := fun F O σ H Q w hs k =>
  h F O σ H _ w hs fun vs xs ds1 O1 H1 t1 r1 ⟨z, hr, p⟩ => by
    show PureSp rel (vs ++ []) H1 Q E
    rw [List.append_nil]
    exact ⟨un F O1, xs, z, t1.own, r1, hr, fun v H2 e2 r2 => k v z ds1 O1 H2 (t1.more e2) r2 p⟩
theorem ev_call {rel : List PyData → PyData → Prop} {E : XK} {ta : TA} {ds : Sl} {xs : List PyData} {z : PyData} (h : EaS ta ds xs) (hr : rel xs z) : EvS (tCall (PureSp rel) [] E ta) ds z := ee_call (h.mono fun ys ds' e => by
  obtain ⟨rfl, rfl⟩ := e
  exact ⟨z, hr, rfl, rfl⟩)
/-! ### what is walked -/
def WalkD (J : It) (S : ASet) (H0 : Hp) (xs : List PyData) : Prop := Walk J xs.length (fun H => Ex (hid S H0) H) fun i H x H' => Ex H H' ∧ ∀ S' : ASet, Own S' H → Ex (hid S H0) (hid S' H) → ∃ d, xs[i]? = some d ∧ Rp (hid S' H') x d
def IterE (wi : TI) (ds : Sl) (P : List PyData → Sl → Prop) : Prop := ∀ (F O : ASet) (σ : L2.St) (H : Hp) (R : It → Hp → Prop), Own (un F O) H → Hs F O H σ ds →
  (∀ J xs ds2 O2 H2, To F O σ H O2 H2 ds2 → WalkD J (un F O2) H2 xs → P xs ds2 → R J H2) → wi σ H R
abbrev IterS (wi : TI) (ds : Sl) (xs : List PyData) : Prop := IterE wi ds fun xs' ds' => xs' = xs ∧ ds' = ds
theorem walkD_seq {J : It} {S : ASet} {H0 : Hp} {vs : List V} {xs : List PyData} {G : Hp → Prop} (w : Walk J vs.length G (YAt vs)) (hG : ∀ H, Ex (hid S H0) H → G H) (r : RpAll (hid S H0) vs xs) : WalkD J S H0 xs := by
  unfold WalkD
  rw [← r.length]
  refine w.mono hG fun i H x H' hi hg y => ?_
  obtain ⟨rfl, hx⟩ := y
  refine ⟨Evl.Ex.refl _, fun S' _ e => ?_⟩
  obtain ⟨d, h1, h2⟩ := r.getV hx
  exact ⟨d, h1, Rp.ex e d h2⟩
theorem it_list {K : PySem.W.Frag} {tl : TE} {ds : Sl} {xs : List PyData} (h : EvS tl ds (.list xs)) : IterS (iList K tl) ds xs := fun F O σ H R w hs k =>
  h F O σ H _ w hs fun v d ds1 O1 H1 t1 r1 ⟨e1, e2⟩ => by
    subst e1 e2
    cases r1 with
    | lst h1 h2 => exact ⟨_, rfl, ⟨_, .of ((hid_sub _ _) _ _ h1)⟩, k _ _ _ O1 H1 t1 (walkD_seq walk_list (fun H e => .of (e _ _ h1)) h2) ⟨rfl, rfl⟩⟩
theorem it_tup {K : PySem.W.Frag} {tl : TE} {ds : Sl} {xs : List PyData} (h : EvS tl ds (.tuple xs)) : IterS (iTup K tl) ds xs := fun F O σ H R w hs k =>
  h F O σ H _ w hs fun v d ds1 O1 H1 t1 r1 ⟨e1, e2⟩ => by
    subst e1 e2
    cases r1 with
    | tup h1 h2 => exact ⟨_, rfl, ⟨_, .of ((hid_sub _ _) _ _ h1)⟩, k _ _ _ O1 H1 t1 (walkD_seq walk_tup (fun H e => .of (e _ _ h1)) h2) ⟨rfl, rfl⟩⟩
def rgD (lo : Int) (n : Nat) : List PyData := (List.range n).map fun (i : Nat) => PyData.int (lo + i)
theorem rgD_len (lo : Int) (n : Nat) : (rgD lo n).length = n := by
  unfold rgD
  rw [List.length_map, List.length_range]
theorem walkD_range {S : ASet} {H0 : Hp} (lo : Int) (n : Nat) : WalkD (Itr lo n) S H0 (rgD lo n) := by
  unfold WalkD
  rw [rgD_len]
  refine (walk_range (lo := lo) (n := n)).mono (fun _ _ => trivial) fun i H x H' hi hg y => ?_
  obtain ⟨rfl, rfl⟩ := y
  refine ⟨Evl.Ex.refl _, fun S' _ e => ⟨.int (lo + (i : Nat)), ?_, .int _⟩⟩
  unfold rgD
  rw [List.getElem?_map, List.getElem?_range hi]
  rfl
theorem ite_rng1 {ta : TA} {ds : Sl} {P : List PyData → Sl → Prop} (h : EaE ta ds fun xs ds' => ∃ n : Int, xs = [.int n] ∧ -1000 ≤ n ∧ n ≤ 40000 ∧ P (rgD 0 n.toNat) ds') : IterE (iRng1 ta) ds P := fun F O σ H R w hs k =>
  h F O σ H _ w hs fun vs xs ds1 O1 H1 t1 r1 ⟨n, e, h1, h2, p⟩ => by
    subst e
    cases r1 with
    | cons r rr =>
      cases r
      cases rr
      exact ⟨n, rfl, by omega, by omega, k _ _ ds1 O1 H1 t1 (walkD_range 0 n.toNat) p⟩
theorem it_rng1 {ta : TA} {ds : Sl} {n : Int} (h : EaS ta ds [.int n]) (h1 : -1000 ≤ n) (h2 : n ≤ 40000) : IterS (iRng1 ta) ds (rgD 0 n.toNat) := ite_rng1 (h.mono fun xs ds' e => by
  obtain ⟨rfl, rfl⟩ := e
  exact ⟨n, rfl, h1, h2, rfl, rfl⟩)
theorem it_rng2 {ta : TA} {ds : Sl} {lo n : Int} (h : EaS ta ds [.int lo, .int n]) (h0 : -1000 ≤ lo) (h3 : lo ≤ 40000) (h1 : -1000 ≤ n) (h2 : n ≤ 40000) : IterS (iRng2 ta) ds (rgD lo (n - lo).toNat) := fun F O σ H R w hs k =>
  h F O σ H _ w hs fun vs xs ds1 O1 H1 t1 r1 ⟨e, e2⟩ => by
    subst e e2
    cases r1 with
    | cons r rr =>
      cases r
      cases rr with
      | cons r rr =>
        cases r
        cases rr
        exact ⟨lo, n, rfl, ⟨by omega, by omega, by omega, by omega⟩, k _ _ _ O1 H1 t1 (walkD_range lo (n - lo).toNat) ⟨rfl, rfl⟩⟩
theorem IterE.mono' {wi : TI} {ds : Sl} {P P' : List PyData → Sl → Prop} (h : IterE wi ds P) (k : ∀ d ds', P d ds' → P' d ds') : IterE wi ds P' := fun F O σ H R w hs q => h F O σ H R w hs fun J xs ds2 O2 H2 t wd p => q J xs ds2 O2 H2 t wd (k _ _ p)
/-! ### targets -/
def TgS (g : TG) (x : PyData) (js : List Nat) (ds ds' : Sl) : Prop := ds'.length = ds.length ∧ (∀ i, i ∉ js → ds'[i]? = ds[i]?) ∧ ∀ (F O : ASet) (σ : L2.St) (H : Hp) (v : V) (Q : L2.St → Hp → Prop), Own (un F O) H → Hs F O H σ ds → Rp (hid (un F O) H) v x →
  (∀ σ', σ'.length = σ.length → (∀ i, i ∉ js → σ'[i]? = σ[i]?) → Hs F O H σ' ds' → Q σ' H) → g v σ H Q
theorem tg_name {j : Nat} {x : PyData} {ds : Sl} : TgS (gName j) x [j] ds (ds.set j (.dat x)) := ⟨by simp, fun i hi => by
  rw [List.getElem?_set_ne fun e => hi (by simp [e])], fun F O σ H v Q w hs r k => k _ (by simp) (fun i hi => by rw [List.getElem?_set_ne fun e => hi (by simp [e])]) (hs.set r)⟩
theorem tg_tup2 {K : PySem.W.Frag} {i j : Nat} {x y : PyData} {ds : Sl} : TgS (gTup K 2 (gCons (gName i) (gCons (gName j) gNil))) (.tuple [x, y]) [i, j] ds ((ds.set i (.dat x)).set j (.dat y)) := ⟨by simp, fun l hl => by
  rw [List.getElem?_set_ne fun e => hl (by simp [e]), List.getElem?_set_ne fun e => hl (by simp [e])], fun F O σ H v Q w hs r k => by
  cases r with
  | tup h1 h2 =>
    cases h2 with
    | cons r1 h2 =>
      cases h2 with
      | cons r2 h2 =>
        cases h2
        refine ⟨_, _, rfl, .of ((hid_sub _ _) _ _ h1), rfl, _, _, rfl, _, _, rfl, rfl, k _ (by simp) (fun l hl => ?_) ((hs.set r1).set r2)⟩
        rw [List.getElem?_set_ne fun e => hl (by simp [e]), List.getElem?_set_ne fun e => hl (by simp [e])]⟩
/-! ### comprehensions -/
def wipeD (ds : Sl) : List Nat → Sl
  | [] => ds
  | v :: vs => (wipeD ds vs).set v .non
theorem wipeD_len (ds : Sl) : ∀ vs : List Nat, (wipeD ds vs).length = ds.length
  | [] => rfl
  | v :: vs => by
    unfold wipeD
    rw [List.length_set, wipeD_len ds vs]
theorem wipeD_at (ds : Sl) : ∀ (vs : List Nat) {i : Nat}, i ∉ vs → (wipeD ds vs)[i]? = ds[i]?
  | [], _, _ => rfl
  | v :: vs, i, h => by
    unfold wipeD
    rw [List.getElem?_set_ne fun e => h (by simp [e])]
    exact wipeD_at ds vs fun z => h (List.mem_cons_of_mem _ z)
theorem wipe_at (σ : L2.St) : ∀ (vs : List Nat) (i : Nat), (wipe σ vs)[i]? = if i ∈ vs ∧ i < σ.length then some none else σ[i]?
  | [], i => by
    rw [if_neg (by simp)]
    rfl
  | v :: vs, i => by
    unfold wipe
    by_cases e : v = i
    · subst e
      by_cases h : v < σ.length
      · rw [List.getElem?_set_self (by rw [wipe_length]; exact h), if_pos ⟨by simp, h⟩]
      · rw [if_neg fun z => h z.2, List.getElem?_eq_none (by rw [List.length_set, wipe_length]; omega), List.getElem?_eq_none (by omega)]
    · rw [List.getElem?_set_ne e, wipe_at σ vs i]
      have e' : ¬ i = v := fun z => e z.symm
      simp [e']
theorem wipe_back {σ σ2 : L2.St} {vs js : List Nat} (hl : σ2.length = σ.length) (hj : ∀ j ∈ js, j ∈ vs) (h : ∀ i, i ∉ js → σ2[i]? = (wipe σ vs)[i]?) : wipe σ2 vs = wipe σ vs := by
  apply List.ext_getElem?
  intro i
  rw [wipe_at, wipe_at, hl]
  by_cases e : i ∈ vs ∧ i < σ.length
  · rw [if_pos e, if_pos e]
  · rw [if_neg e, if_neg e]
    by_cases q : i ∈ js
    · have h2 : ¬ i < σ.length := fun z => e ⟨hj i q, z⟩
      rw [List.getElem?_eq_none (by omega), List.getElem?_eq_none (by omega)]
    · rw [h i q, wipe_at, if_neg e]
theorem Hs.wipe {F O : ASet} {H : Hp} {σ : L2.St} {ds : Sl} (h : Hs F O H σ ds) : ∀ vs : List Nat, Hs F O H (L2.wipe σ vs) (wipeD ds vs)
  | [] => h
  | v :: vs => (h.wipe vs).forget
/-- the slots behind a turn: those of the block, its own ones as they were or forgotten -/
structure Back (ds ds3 : Sl) (vs : List Nat) (ds4 : Sl) : Prop where
  len : ds4.length = ds.length
  at_ : ∀ (i : Nat) (s : Slot), ds4[i]? = some s → (i ∉ vs ∧ ds3[i]? = some s) ∨ (s.addr = none ∧ (ds[i]? = some s ∨ s = .non))
theorem Hs.back {F O F' O' : ASet} {H H' : Hp} {σ σ2 : L2.St} {ds ds3 ds4 : Sl} {vs : List Nat} (h0 : Hs F O H σ ds) (h : Hs F' O' H' σ2 ds3) (b : Back ds ds3 vs ds4) (e : Ex (hid (un F O) H) (hid (un F' O') H')) (hl : σ2.length = σ.length)
    (hv : ∀ i, i ∉ vs → σ2[i]? = σ[i]?) : Hs F' O' H' σ ds4 := by
  refine ⟨h.dj, by rw [b.len]; exact h0.len, fun i s q => ?_, fun i j s t a q1 q2 e1 e2 => ?_⟩
  · rcases b.at_ i s q with ⟨n, q3⟩ | ⟨n, q3⟩
    · obtain ⟨ov, h1, h2⟩ := h.at_ i s q3
      rw [hv i n] at h1
      exact ⟨ov, h1, h2⟩
    · rcases q3 with q3 | q3
      · obtain ⟨ov, h1, h2⟩ := h0.at_ i s q3
        refine ⟨ov, h1, ?_⟩
        cases s with
        | non => trivial
        | dat d =>
          obtain ⟨v, z1, z2⟩ := h2
          exact ⟨v, z1, Rp.ex e d z2⟩
        | own b xs => cases n
        | tab b xs => cases n
        | ftab b od es xs =>
          obtain ⟨z1, z3, z4⟩ := h2
          exact ⟨z1, e _ _ z3, RpTab.ex e z4⟩
        | row K b => cases n
      · subst q3
        have hi : i < σ.length := by
          rw [h0.len, ← b.len]
          exact (List.getElem?_eq_some_iff.mp q).1
        exact ⟨σ[i], List.getElem?_eq_getElem hi, trivial⟩
  · have key : ∀ {i : Nat} {s : Slot}, ds4[i]? = some s → s.addr = some a → ds3[i]? = some s := fun {i s} q e1 => by
      rcases b.at_ i s q with ⟨_, q3⟩ | ⟨n, _⟩
      · exact q3
      · rw [n] at e1
        cases e1
    exact h.sep i j s t a (key q1 e1) (key q2 e2) e1 e2
theorem ee_lc {wi : TI} {g : TG} {tt : TT} {te : TE} {vs js : List Nat} {ds : Sl} {P : PyData → Sl → Prop} (xs : List PyData) (I : Nat → Sl → List PyData → Prop) (hi : IterE wi ds fun xs' ds' => xs' = xs ∧ I 0 ds' []) (hz : xs.length ≤ 40000) (hj : ∀ j ∈ js, j ∈ vs)
    (hs : ∀ i x ds' acc, xs[i]? = some x → I i ds' acc → ∃ tgt, TgS g x js (wipeD ds' vs) tgt ∧ EtE tt tgt fun b ds2 => if b = true then EvE te ds2 fun d ds3 => ∃ ds4, Back ds' ds3 vs ds4 ∧ I (i + 1) ds4 (acc ++ [d]) else ∃ ds4, Back ds' ds2 vs ds4 ∧ I (i + 1) ds4 acc)
    (hd : ∀ ds' acc, I xs.length ds' acc → P (.list acc) ds') : EvE (tLc wi g tt te vs) ds P := fun F O σ H Q w h0 k =>
  hi F O σ H _ w h0 fun J xs' ds1 O1 H1 t1 wd ⟨e1, i0⟩ => by
    subst e1
    intro Dl hD
    have nD := t1.own.fresh hD
    let F' : ASet := fun a => F a ∨ a = Dl
    have eun : ∀ O' : ASet, ¬ O' Dl → ∀ H' : Hp, Ex (hid (un F' O') H') (hid (un F O') H') := fun O' _ H' => hid_le fun a z => z.elim (fun z => .inl (.inl z)) .inr
    refine lc_it wd (Pv := fun i H' => ∃ O' ds' ws acc, Ext O1 H1 O' H' ∧ ¬ O' Dl ∧ Own (un F' O') H' ∧ Hs F' O' H' σ ds' ∧ H' Dl = some (.lst ws) ∧ ws.length ≤ i ∧ RpAll (hid (un F' O') H') ws acc ∧ Ex (hid (un F O1) H1) (hid (un F' O') H') ∧ I i ds' acc) ?_ ?_ ?_ ?_
    · have eG : hid (un F' O1) (upd H1 Dl (.lst [])) = hid (un F O1) H1 := by
        have e2 : un F' O1 = un F fun a => O1 a ∨ a = Dl := by
          funext a
          exact propext ⟨fun z => z.elim (fun z => z.elim .inl fun z => .inr (.inr z)) fun z => .inr (.inl z), fun z => z.elim (fun z => .inl (.inl z)) fun z => z.elim .inr fun z => .inl (.inr z)⟩
        rw [e2]
        exact hid_new t1.own hD
      have hs1 : Hs F' O1 (upd H1 Dl (.lst [])) σ ds1 := by
        have q := t1.hs
        refine ⟨fun a z za => z.elim (fun z => q.dj a z za) fun z => nD (by rw [← z]; exact .inr za), q.len, fun i s q1 => ?_, q.sep⟩
        obtain ⟨ov, h1, h2⟩ := q.at_ i s q1
        refine ⟨ov, h1, h2.ex (by rw [eG]; exact Evl.Ex.refl _) fun a ha => upd_ne fun z => nD (by rw [← z]; exact .inr ha)⟩
      refine ⟨O1, ds1, [], [], ?_, fun z => nD (.inr z), ?_, hs1, upd_same, Nat.le_refl _, .nil, by rw [eG]; exact Evl.Ex.refl _, i0⟩
      · exact Ext.of_ex (Evl.Ex.new hD)
      · intro a z
        by_cases e : a = Dl
        · subst e
          exact ⟨_, upd_same, trivial⟩
        · obtain ⟨o, h1, h2⟩ := t1.own a (z.elim (fun z => .inl (z.resolve_right e)) .inr)
          exact ⟨o, by rw [upd_ne e]; exact h1, h2⟩
    · rintro i H' hi' ⟨O', ds', ws, acc, _, _, _, _, _, _, _, e, _⟩
      exact e.trans (hid_sub _ _)
    · rintro i x H' H'' hi' ⟨O', ds', ws, acc, ext, nO, own, hsd, hDl, hlen, rws, eG, inv⟩ ⟨e2, y⟩
      obtain ⟨d, hx, rx⟩ := y (un F' O') own eG
      obtain ⟨tgt, ⟨tl, tk, tg⟩, tst⟩ := hs i d ds' acc hx inv
      have own2 := own.ex e2
      have hsd2 := hsd.ex own e2
      have up2 : Ex (hid (un F' O') H') (hid (un F' O') H'') := (Ext.of_ex e2).hid
      refine tg F' O' (L2.wipe σ vs) H'' x _ own2 (hsd2.wipe vs) rx fun σ2 l2 k2 hs2 => ?_
      rw [wipe_length] at l2
      refine ⟨wipe_back l2 hj k2, ?_⟩
      have hv : ∀ i, i ∉ vs → σ2[i]? = σ[i]? := fun i n => by
        rw [k2 i fun z => n (hj i z), wipe_at, if_neg fun z => n z.1]
      refine tst F' O' σ2 H'' _ own2 hs2 fun b ds2 O3 H3 t3 p3 => ?_
      have nO3 : ¬ O3 Dl := fun z => (t3.ext.fr Dl z).elim nO fun q => by
        rw [e2 _ _ hDl] at q
        cases q
      have hDl3 : H3 Dl = some (.lst ws) := t3.ext.kp _ _ nO (e2 _ _ hDl)
      have ext3 : Ext O1 H1 O3 H3 := (ext.trans (Ext.of_ex e2)).trans t3.ext
      cases b with
      | true =>
        refine iteT ?_
        have p3' : EvE te ds2 fun d ds3 => ∃ ds4, Back ds' ds3 vs ds4 ∧ I (i + 1) ds4 (acc ++ [d]) := by
          have z := p3
          rw [if_pos rfl] at z
          exact z
        refine p3' F' O3 σ2 H3 _ t3.own t3.hs fun yv yd ds3 O4 H4 t4 r4 ⟨ds4, bk, inv4⟩ => ?_
        have nO4 : ¬ O4 Dl := fun z => (t4.ext.fr Dl z).elim nO3 fun q => by
          rw [hDl3] at q
          cases q
        have hDl4 : H4 Dl = some (.lst ws) := t4.ext.kp _ _ nO3 hDl3
        have up4 : Ex (hid (un F' O') H') (hid (un F' O4) H4) := up2.trans (t3.up.trans t4.up)
        have hsb : Hs F' O4 H4 σ ds4 := hsd.back t4.hs bk up4 l2 hv
        have eH : hid (un F' O4) (upd H4 Dl (.lst (ws ++ [yv]))) = hid (un F' O4) H4 := hid_upd (.inl (.inr rfl))
        refine ⟨ws, hDl4, Evl.sz_lt (by omega), O4, ds4, ws ++ [yv], acc ++ [yd], ?_, nO4, ?_, ?_, upd_same, by rw [List.length_append]; simp; omega, ?_, ?_, inv4⟩
        · have z := ext3.trans t4.ext
          refine ⟨fun a o n q => ?_, z.fr⟩
          rw [upd_ne (ne_of_none q hD)]
          exact z.kp a o n q
        · intro a z
          by_cases e : a = Dl
          · subst e
            exact ⟨_, upd_same, trivial⟩
          · obtain ⟨o, h1, h2⟩ := t4.own a z
            exact ⟨o, by rw [upd_ne e]; exact h1, h2⟩
        · refine ⟨hsb.dj, hsb.len, fun j s q => ?_, hsb.sep⟩
          rw [eH]
          obtain ⟨ov, h1, h2⟩ := hsb.at_ j s q
          exact ⟨ov, h1, h2.ex (Evl.Ex.refl _) fun a ha => upd_ne fun z => nO4 (by rw [← z]; exact ha)⟩
        · rw [eH]
          exact (RpAll.ex up4 _ rws).append (.cons r4 .nil)
        · rw [eH]
          exact eG.trans up4
      | false =>
        refine iteF ?_
        have p3' : ∃ ds4, Back ds' ds2 vs ds4 ∧ I (i + 1) ds4 acc := by
          have z := p3
          rw [if_neg Bool.false_ne_true] at z
          exact z
        obtain ⟨ds4, bk, inv4⟩ := p3'
        have up3 : Ex (hid (un F' O') H') (hid (un F' O3) H3) := up2.trans t3.up
        exact ⟨O3, ds4, ws, acc, ext3, nO3, t3.own, hsd.back t3.hs bk up3 l2 hv, hDl3, by omega, RpAll.ex up3 _ rws, eG.trans up3, inv4⟩
    · rintro H' ⟨O', ds', ws, acc, ext, nO, own, hsd, hDl, hlen, rws, eG, inv⟩
      have up := eun O' nO H'
      refine k _ _ ds' O' H' ⟨t1.ext.trans ext, fun a z => own a (z.elim (fun z => .inl (.inl z)) .inr), ⟨fun a z => hsd.dj a (.inl z), hsd.len, fun j s q => ?_, hsd.sep⟩⟩ (.lst (xs := ws) ?_ (RpAll.ex up _ rws)) (hd ds' acc inv)
      · obtain ⟨ov, h1, h2⟩ := hsd.at_ j s q
        exact ⟨ov, h1, h2.ex up fun _ _ => rfl⟩
      · rw [hid_in fun z => z.elim (fun z => nD (.inl z)) nO]
        exact hDl
/-- a comprehension that changes nothing: typed items -/
theorem ev_lc {α : Type} {wi : TI} {g : TG} {tt : TT} {te : TE} {vs js : List Nat} {ds : Sl} (L : List α) (enc : α → PyData) (tg : α → Sl) (f : α → Bool) (e : α → PyData) (hi : IterS wi ds (L.map enc)) (hz : L.length ≤ 40000) (hj : ∀ j ∈ js, j ∈ vs) (hno : ∀ j ∈ vs, ∀ s, ds[j]? = some s → s.addr = none)
    (hg : ∀ x ∈ L, TgS g (enc x) js (wipeD ds vs) (tg x)) (ht : ∀ x ∈ L, EtS tt (tg x) (f x)) (he : ∀ x ∈ L, f x = true → EvS te (tg x) (e x)) : EvS (tLc wi g tt te vs) ds (.list ((L.filter f).map e)) := by
  refine ee_lc (js := js) (L.map enc) (fun i ds' acc => ds' = ds ∧ acc = ((L.take i).filter f).map e) (hi.mono' fun xs ds' q => ⟨q.1, q.2, rfl⟩) (by rw [List.length_map]; exact hz) hj (fun i x ds' acc hx ⟨e1, e2⟩ => ?_) fun ds' acc ⟨e1, e2⟩ => ?_
  · subst e1 e2
    rw [List.getElem?_map] at hx
    cases q : L[i]? with
    | none =>
      rw [q] at hx
      cases hx
    | some a =>
      rw [q] at hx
      cases hx
      have ha : a ∈ L := List.mem_of_getElem? q
      have bk : Back ds' (tg a) vs ds' := ⟨rfl, fun j s q => by
        by_cases n : j ∈ vs
        · exact .inr ⟨hno j n s q, .inl q⟩
        · exact .inl ⟨n, by rw [(hg a ha).2.1 j fun z => n (hj j z), wipeD_at ds' vs n]; exact q⟩⟩
      refine ⟨tg a, hg a ha, (ht a ha).mono fun b ds2 z => ?_⟩
      obtain ⟨rfl, rfl⟩ := z
      cases hf : f a with
      | true =>
        rw [if_pos rfl]
        refine (he a ha hf).mono fun d ds3 z => ?_
        obtain ⟨rfl, rfl⟩ := z
        refine ⟨ds', bk, rfl, ?_⟩
        rw [List.take_add_one, q, List.filter_append, List.map_append]
        show _ = _ ++ List.map e (List.filter f [a])
        rw [List.filter_cons_of_pos hf] <;> rfl
      | false =>
        rw [if_neg Bool.false_ne_true]
        refine ⟨ds', bk, rfl, ?_⟩
        rw [List.take_add_one, q, List.filter_append, List.map_append]
        show _ = _ ++ List.map e (List.filter f [a])
        rw [List.filter_cons_of_neg (by rw [hf]; decide)]
        simp
  · subst e1 e2
    rw [List.length_map, List.take_length]
    exact ⟨rfl, rfl⟩
end
end Hk
set_option Elab.async false
set_option linter.all false
set_option maxRecDepth 100000
set_option maxHeartbeats 4000000
set_option autoImplicit false
/-! HkS: statements by slots; a def by its body. -/
namespace Hk
open PySem PySem.Spec PyProof.Rows L2
section
/-- what a def's own value never shows: what its caller hides, and the drawing row -/
def unR (F : ASet) (ds : Sl) : ASet := fun b => F b ∨ ∃ (i : Nat) (K : PySem.W.Frag), ds[i]? = some (.row K b)
theorem unR_le {F O : ASet} {H : Hp} {σ : L2.St} {ds : Sl} (h : Hs F O H σ ds) : ∀ a, unR F ds a → un F O a := fun a z => z.imp id fun ⟨i, K, q⟩ => h.other q rfl
/-- a statement from slots: N of what follows, R of what is handed back (the datum told with all that the def owns given up) -/
def RunE (t : TS) (ds : Sl) (N : Sl → Prop) (R : PyData → Sl → Prop) : Prop := ∀ (F O : ASet) (σ : L2.St) (H : Hp) (D : Ends), Own (un F O) H → Hs F O H σ ds →
  (∀ O2 σ2 H2 ds2, Ext O H O2 H2 → Own (un F O2) H2 → Hs F O2 H2 σ2 ds2 → N ds2 → D.nx σ2 H2) →
  (∀ v d O2 σ2 H2 ds2, Ext O H O2 H2 → Own (un F O2) H2 → Hs F O2 H2 σ2 ds2 → Rp (hid (unR F ds2) H2) v d → R d ds2 → D.rt v H2) → t D σ H
theorem RunE.mono {t : TS} {ds : Sl} {N N' : Sl → Prop} {R R' : PyData → Sl → Prop} (h : RunE t ds N R) (hn : ∀ ds', N ds' → N' ds') (hr : ∀ d ds', R d ds' → R' d ds') : RunE t ds N' R' := fun F O σ H D w hs k r =>
  h F O σ H D w hs (fun O2 σ2 H2 ds2 e w2 h2 n => k O2 σ2 H2 ds2 e w2 h2 (hn _ n)) fun v d O2 σ2 H2 ds2 e w2 h2 rp q => r v d O2 σ2 H2 ds2 e w2 h2 rp (hr _ _ q)
theorem rn_seq {t u : TS} {ds : Sl} {N : Sl → Prop} {R : PyData → Sl → Prop} (h : RunE t ds (fun ds' => RunE u ds' N R) R) : RunE (tSeq t u) ds N R := fun F O σ H D w hs k r =>
  h F O σ H { D with nx := u D } w hs (fun O2 σ2 H2 ds2 e w2 h2 n => n F O2 σ2 H2 D w2 h2 (fun O3 σ3 H3 ds3 e3 w3 h3 n3 => k O3 σ3 H3 ds3 (e.trans e3) w3 h3 n3) fun v d O3 σ3 H3 ds3 e3 w3 h3 rp q => r v d O3 σ3 H3 ds3 (e.trans e3) w3 h3 rp q) r
theorem rn_next {ds : Sl} {N : Sl → Prop} {R : PyData → Sl → Prop} (h : N ds) : RunE tNext ds N R := fun F O σ H D w hs k r => k O σ H ds (Ext.refl O H) w hs h
theorem rn_never {ds : Sl} {N : Sl → Prop} {R : PyData → Sl → Prop} (h : False) : RunE tNever ds N R := h.elim
theorem rne_set {te : TE} {i : Nat} {ds : Sl} {N : Sl → Prop} {R : PyData → Sl → Prop} (h : EvE te ds fun d ds' => N (ds'.set i (.dat d))) : RunE (tAsg te (gName i)) ds N R := fun F O σ H D w hs k r =>
  h F O σ H _ w hs fun v d ds2 O2 H2 t rp n => k O2 _ H2 _ t.ext t.own (t.hs.set rp) n
theorem rn_set {te : TE} {i : Nat} {ds : Sl} {d : PyData} {N : Sl → Prop} {R : PyData → Sl → Prop} (h : EvS te ds d) (k : N (ds.set i (.dat d))) : RunE (tAsg te (gName i)) ds N R := rne_set (EvE.of h k)
/-- any target -/
theorem rne_asg {te : TE} {g : TG} {ds : Sl} {N : Sl → Prop} {R : PyData → Sl → Prop} (h : EvE te ds fun d ds' => ∃ js tgt, TgS g d js ds' tgt ∧ N tgt) : RunE (tAsg te g) ds N R := fun F O σ H D w hs k r =>
  h F O σ H _ w hs fun v d ds2 O2 H2 t rp ⟨js, tgt, ⟨_, _, tg⟩, n⟩ => tg F O2 σ H2 v _ t.own t.hs rp fun σ2 _ _ hs2 => k O2 σ2 H2 tgt t.ext t.own hs2 n
theorem rn_asg {te : TE} {g : TG} {js : List Nat} {tgt : Sl} {ds : Sl} {d : PyData} {N : Sl → Prop} {R : PyData → Sl → Prop} (h : EvS te ds d) (hg : TgS g d js ds tgt) (k : N tgt) : RunE (tAsg te g) ds N R := rne_asg (EvE.of h ⟨js, tgt, hg, k⟩)
theorem rn_drop {te : TE} {ds : Sl} {d : PyData} {N : Sl → Prop} {R : PyData → Sl → Prop} (h : EvS te ds d) (k : N ds) : RunE (tDrop te) ds N R := fun F O σ H D w hs kn r =>
  h F O σ H _ w hs fun v d' ds2 O2 H2 t rp ⟨e1, e2⟩ => by
    subst e1 e2
    exact kn O2 σ H2 _ t.ext t.own t.hs k
theorem rne_ret {te : TE} {ds : Sl} {N : Sl → Prop} {R : PyData → Sl → Prop} (h : EvE te ds R) : RunE (tRet te) ds N R := fun F O σ H D w hs k r =>
  h F O σ H _ w hs fun v d ds2 O2 H2 t rp q => r v d O2 σ H2 ds2 t.ext t.own t.hs (Rp.ex (hid_le (unR_le t.hs)) d rp) q
theorem rn_ret {te : TE} {ds : Sl} {d : PyData} {N : Sl → Prop} {R : PyData → Sl → Prop} (h : EvS te ds d) (k : R d ds) : RunE (tRet te) ds N R := rne_ret (EvE.of h k)
/-- an owned list is handed back -/
theorem rn_retOwn {i : Nat} {a : Addr} {xs : List PyData} {ds : Sl} {N : Sl → Prop} {R : PyData → Sl → Prop} (q : ds[i]? = some (.own a xs)) (k : R (.list xs) ds) : RunE (tRet (tVar i)) ds N R := fun F O σ H D w hs kn r => by
  obtain ⟨h1, h2, vs, h3, h4⟩ := hs.own q
  refine ⟨_, h1, r _ (.list xs) O σ H ds (Ext.refl O H) w hs (.lst (xs := vs) ?_ (RpAll.ex (hid_le (unR_le hs)) _ h4)) k⟩
  have nz : ¬ ∃ (j : Nat) (K : PySem.W.Frag), ds[j]? = some (.row K a) := fun ⟨j, K, z⟩ => by
    have e := hs.sep i j _ _ a q z rfl rfl
    subst e
    rw [q] at z
    cases z
  rw [hid_in fun z => z.elim (fun z => hs.dj a z h2) nz]
  exact h3
theorem rne_if {tt : TT} {t u : TS} {ds : Sl} {N : Sl → Prop} {R : PyData → Sl → Prop} (h : EtE tt ds fun b ds' => (b = true → RunE t ds' N R) ∧ (b = false → RunE u ds' N R)) : RunE (tIfS tt t u) ds N R := fun F O σ H D w hs k r =>
  h F O σ H _ w hs fun b ds2 O2 H2 t2 ⟨h1, h0⟩ => by
    have k' : ∀ O3 σ3 H3 ds3, Ext O2 H2 O3 H3 → Own (un F O3) H3 → Hs F O3 H3 σ3 ds3 → N ds3 → D.nx σ3 H3 := fun O3 σ3 H3 ds3 e => k O3 σ3 H3 ds3 (t2.ext.trans e)
    have r' : ∀ v d O3 σ3 H3 ds3, Ext O2 H2 O3 H3 → Own (un F O3) H3 → Hs F O3 H3 σ3 ds3 → Rp (hid (unR F ds3) H3) v d → R d ds3 → D.rt v H3 := fun v d O3 σ3 H3 ds3 e => r v d O3 σ3 H3 ds3 (t2.ext.trans e)
    cases b with
    | true => exact iteT (h1 rfl F O2 σ H2 D t2.own t2.hs k' r')
    | false => exact iteF (h0 rfl F O2 σ H2 D t2.own t2.hs k' r')
theorem rn_if {tt : TT} {t u : TS} {b : Bool} {ds : Sl} {N : Sl → Prop} {R : PyData → Sl → Prop} (h : EtS tt ds b) (h1 : b = true → RunE t ds N R) (h0 : b = false → RunE u ds N R) : RunE (tIfS tt t u) ds N R := rne_if (EtE.of h ⟨h1, h0⟩)
/-- for: the slots' word by the turn -/
theorem rne_for {wi : TI} {g : TG} {tb : TS} {ds : Sl} {N : Sl → Prop} {R : PyData → Sl → Prop} (I : List PyData → Nat → Sl → Prop) (hi : IterE wi ds fun xs ds' => I xs 0 ds')
    (hs : ∀ xs i x ds', xs[i]? = some x → I xs i ds' → ∃ js tgt, TgS g x js ds' tgt ∧ RunE tb tgt (I xs (i + 1)) R) (hd : ∀ xs ds', I xs xs.length ds' → N ds') : RunE (tFor wi g tb) ds N R := fun F O σ H D w h0 k r =>
  hi F O σ H _ w h0 fun J xs ds1 O1 H1 t1 wd i0 => by
    refine for_it wd (D := D) (Pv := fun i σ' H' => ∃ O' ds', Ext O1 H1 O' H' ∧ Own (un F O') H' ∧ Hs F O' H' σ' ds' ∧ I xs i ds') ⟨O1, ds1, Ext.refl _ _, t1.own, t1.hs, i0⟩ ?_ ?_ ?_
    · rintro i σ' H' hi' ⟨O', ds', ext, own, hsd, inv⟩
      exact ext.hid.trans (hid_sub _ _)
    · rintro i x σ' H' H'' hi' ⟨O', ds', ext, own, hsd, inv⟩ ⟨e2, y⟩
      obtain ⟨d, hx, rx⟩ := y (un F O') own ext.hid
      obtain ⟨js, tgt, ⟨_, _, tg⟩, rb⟩ := hs xs i d ds' hx inv
      refine tg F O' σ' H'' x _ (own.ex e2) (hsd.ex own e2) rx fun σ2 _ _ hs2 => ?_
      refine rb F O' σ2 H'' _ (own.ex e2) hs2 (fun O3 σ3 H3 ds3 e w3 h3 n => ⟨O3, ds3, (ext.trans (Ext.of_ex e2)).trans e, w3, h3, n⟩) fun v d O3 σ3 H3 ds3 e w3 h3 rp q => r v d O3 σ3 H3 ds3 (((t1.ext.trans ext).trans (Ext.of_ex e2)).trans e) w3 h3 rp q
    · rintro σ' H' ⟨O', ds', ext, own, hsd, inv⟩
      exact k O' σ' H' ds' (t1.ext.trans ext) own hsd (hd xs ds' inv)
theorem rn_for {wi : TI} {g : TG} {tb : TS} {ds : Sl} {N : Sl → Prop} {R : PyData → Sl → Prop} (xs : List PyData) (I : Nat → Sl → Prop) (hi : IterS wi ds xs) (h0 : I 0 ds)
    (hs : ∀ i x ds', xs[i]? = some x → I i ds' → ∃ js tgt, TgS g x js ds' tgt ∧ RunE tb tgt (I (i + 1)) R) (hd : ∀ ds', I xs.length ds' → N ds') : RunE (tFor wi g tb) ds N R :=
  rne_for (fun ys i ds' => ys = xs ∧ I i ds') (hi.mono' fun ys ds' e => by
    obtain ⟨rfl, rfl⟩ := e
    exact ⟨rfl, h0⟩) (fun ys i x ds' hx ⟨e, inv⟩ => by
    subst e
    obtain ⟨js, tgt, a, b⟩ := hs i x ds' hx inv
    exact ⟨js, tgt, a, b.mono (fun _ n => ⟨rfl, n⟩) fun _ _ q => q⟩) fun ys ds' ⟨e, inv⟩ => by
    subst e
    exact hd ds' inv
/-- while: the slots' word and a measure -/
theorem rn_while {tt : TT} {tb : TS} {ds : Sl} {N : Sl → Prop} {R : PyData → Sl → Prop} (I : Nat → Sl → Prop) (m0 : Nat) (h0 : I m0 ds)
    (hs : ∀ m ds', I m ds' → ∃ b, EtS tt ds' b ∧ (b = true → RunE tb ds' (fun ds2 => ∃ m', m' < m ∧ I m' ds2) R) ∧ (b = false → N ds')) : RunE (tWhile tt tb) ds N R := fun F O σ H D w hs0 k r => by
  refine ⟨fun m σ' H' => ∃ O' ds', Ext O H O' H' ∧ Own (un F O') H' ∧ Hs F O' H' σ' ds' ∧ I m ds', ⟨m0, O, ds, Ext.refl _ _, w, hs0, h0⟩, ?_⟩
  rintro m σ' H' ⟨O', ds', ext, own, hsd, inv⟩
  obtain ⟨b, ht, h1, h2⟩ := hs m ds' inv
  refine ht F O' σ' H' _ own hsd fun c ds2 O2 H2 t2 ⟨e1, e2⟩ => ?_
  subst e1 e2
  cases c with
  | true =>
    refine ⟨fun σ3 H3 => ∃ O3 ds3 m', m' < m ∧ Ext O H O3 H3 ∧ Own (un F O3) H3 ∧ Hs F O3 H3 σ3 ds3 ∧ I m' ds3, fun σ3 H3 ⟨O3, ds3, m', hm, a, b, c, d⟩ => ⟨m', hm, O3, ds3, a, b, c, d⟩, ?_⟩
    exact h1 rfl F O2 σ' H2 _ t2.own t2.hs (fun O3 σ3 H3 ds3 e w3 h3 ⟨m', hm, n⟩ => ⟨O3, ds3, m', hm, (ext.trans t2.ext).trans e, w3, h3, n⟩) fun v d O3 σ3 H3 ds3 e w3 h3 rp q => r v d O3 σ3 H3 ds3 ((ext.trans t2.ext).trans e) w3 h3 rp q
  | false => exact k O2 σ' H2 _ (ext.trans t2.ext) t2.own t2.hs (h2 rfl)
/-! ### several names at once -/
theorem rne_par {i j : Nat} {ta : TA} {ds : Sl} {N : Sl → Prop} {R : PyData → Sl → Prop} (h : EaE ta ds fun xs ds' => ∃ x y, xs = [x, y] ∧ N ((ds'.set i (.dat x)).set j (.dat y))) : RunE (tPar i j ta) ds N R := fun F O σ H D w hs k r =>
  h F O σ H _ w hs fun vs xs ds2 O2 H2 t rp ⟨x, y, e, n⟩ => by
    subst e
    cases rp with
    | cons r1 rp =>
      cases rp with
      | cons r2 rp =>
        cases rp
        exact ⟨_, _, rfl, k O2 _ H2 _ t.ext t.own ((t.hs.set r1).set r2) n⟩
theorem rne_par3 {i j l : Nat} {ta : TA} {ds : Sl} {N : Sl → Prop} {R : PyData → Sl → Prop} (h : EaE ta ds fun xs ds' => ∃ x y z, xs = [x, y, z] ∧ N (((ds'.set i (.dat x)).set j (.dat y)).set l (.dat z))) : RunE (tPar3 i j l ta) ds N R := fun F O σ H D w hs k r =>
  h F O σ H _ w hs fun vs xs ds2 O2 H2 t rp ⟨x, y, z, e, n⟩ => by
    subst e
    cases rp with
    | cons r1 rp =>
      cases rp with
      | cons r2 rp =>
        cases rp with
        | cons r3 rp =>
          cases rp
          exact ⟨_, _, _, rfl, k O2 _ H2 _ t.ext t.own (((t.hs.set r1).set r2).set r3) n⟩
theorem rn_par {i j : Nat} {ta : TA} {ds : Sl} {x y : PyData} {N : Sl → Prop} {R : PyData → Sl → Prop} (h : EaS ta ds [x, y]) (k : N ((ds.set i (.dat x)).set j (.dat y))) : RunE (tPar i j ta) ds N R := rne_par (h.mono fun xs ds' e => by
  obtain ⟨rfl, rfl⟩ := e
  exact ⟨x, y, rfl, k⟩)
/-! ### owned lists -/
/-- the expression makes a new list -/
def EvN (te : TE) (ds : Sl) (xs : List PyData) : Prop := ∀ (F O : ASet) (σ : L2.St) (H : Hp) (Q : VK), Own (un F O) H → Hs F O H σ ds →
  (∀ p vs O2 H2, To F O σ H O2 H2 ds → O2 p → (∀ (j : Nat) (s : Slot), ds[j]? = some s → s.addr ≠ some p) → H2 p = some (.lst vs) → RpAll (hid (un F O2) H2) vs xs → Q (.ref p) H2) → te σ H Q
theorem To.new {F O O2 : ASet} {σ : L2.St} {H H2 : Hp} {ds : Sl} (t : To F O σ H O2 H2 ds) {p : Addr} {o : HO} (hp : H2 p = none) (ho : notTup o) : To F O σ H (fun a => O2 a ∨ a = p) (upd H2 p o) ds :=
  ⟨t.ext.trans (Ext.new hp), t.own.new hp ho, t.hs.new t.own hp⟩
theorem Hs.noaddr {F O : ASet} {H : Hp} {σ : L2.St} {ds : Sl} (w : Own (un F O) H) (h : Hs F O H σ ds) {p : Addr} (hp : H p = none) (j : Nat) (s : Slot) (q : ds[j]? = some s) : s.addr ≠ some p := fun e => w.fresh hp (.inr (h.other q e))
theorem en_lst {ta : TA} {ds : Sl} {xs : List PyData} (h : EaS ta ds xs) (hl : xs.length ≤ 1000) : EvN (tLst ta) ds xs := fun F O σ H Q w hs k =>
  h F O σ H _ w hs fun vs xs' ds1 O1 H1 t1 r1 ⟨e1, e2⟩ => by
    subst e1 e2
    exact ⟨Evl.sz_of (by rw [r1.length]; omega), fun p hp => k p vs _ _ (t1.new hp trivial) (.inr rfl) (t1.hs.noaddr t1.own hp) upd_same (by rw [hid_new t1.own hp]; exact r1)⟩
theorem en_cat {ta tb : TE} {ds : Sl} {xs ys : List PyData} (ha : EvS ta ds (.list xs)) (hb : EvS tb ds (.list ys)) (hl : xs.length + ys.length ≤ 100000) : EvN (tOp rCat ta tb) ds (xs ++ ys) := fun F O σ H Q w hs k =>
  ha F O σ H _ w hs fun a d ds1 O1 H1 t1 r1 ⟨e1, e2⟩ => by
    subst e1 e2
    refine hb F O1 σ H1 _ t1.own t1.hs fun b d ds2 O2 H2 t2 r2 ⟨e3, e4⟩ => ?_
    subst e3 e4
    have r1' := Rp.ex t2.up _ r1
    cases r1' with
    | lst h1 h2 =>
      cases r2 with
      | lst h3 h4 =>
        have t := t1.trans t2
        exact ⟨_, _, _, _, rfl, rfl, (hid_sub _ _) _ _ h1, (hid_sub _ _) _ _ h3, Evl.sz_of (by rw [h2.length, h4.length]; exact hl), fun p hp => k p _ _ _ (t.new hp trivial) (.inr rfl) (t.hs.noaddr t.own hp) upd_same (by rw [hid_new t.own hp]; exact h2.append h4)⟩
theorem rn_setN {te : TE} {i : Nat} {ds : Sl} {xs : List PyData} {N : Sl → Prop} {R : PyData → Sl → Prop} (h : EvN te ds xs) (k : ∀ p, N (ds.set i (.own p xs))) : RunE (tAsg te (gName i)) ds N R := fun F O σ H D w hs kn r =>
  h F O σ H _ w hs fun p vs O2 H2 t ho na hp rp => kn O2 _ H2 _ t.ext t.own (t.hs.setOwn (s1 := .own p xs) rfl na ⟨rfl, ho, vs, hp, rp⟩) (k p)
theorem rn_release {t : TS} {i : Nat} {a : Addr} {xs : List PyData} {ds : Sl} {N : Sl → Prop} {R : PyData → Sl → Prop} (q : ds[i]? = some (.own a xs)) (h : RunE t (ds.set i (.dat (.list xs))) N R) : RunE t ds N R := fun F O σ H D w hs k r => by
  refine h F (fun b => O b ∧ b ≠ a) σ H D (fun b z => w b (z.imp id And.left)) (hs.release q) (fun O2 σ2 H2 ds2 e => k O2 σ2 H2 ds2 ?_) fun v d O2 σ2 H2 ds2 e => r v d O2 σ2 H2 ds2 ?_
  all_goals
    refine ⟨fun b o n q2 => e.kp b o (fun z => n z.1) q2, fun b z => (e.fr b z).imp And.left id⟩
/-- xs.append(e) -/
theorem rne_app {K : PySem.W.Frag} {te : TE} {i : Nat} {ds : Sl} {N : Sl → Prop} {R : PyData → Sl → Prop} (q0 : ∃ a xs, ds[i]? = some (.own a xs)) (h : EvE te ds fun d ds' => ∃ a xs, ds'[i]? = some (.own a xs) ∧ (∃ ys, ds[i]? = some (.own a ys)) ∧ xs.length < 50000 ∧ N (ds'.set i (.own a (xs ++ [d])))) :
    RunE (tDrop (tBM K "list" rAppend (tVar i) (tCons te tNil))) ds N R := fun F O σ H D w hs k r => by
  obtain ⟨a0, xs0, q0⟩ := q0
  obtain ⟨h1, h2, vs0, h3, _⟩ := hs.own q0
  refine ⟨.ref a0, h1, .inl ⟨rfl, _, .of h3⟩, h F O σ H _ w hs fun v d ds2 O2 H2 t rp ⟨a, xs, q, ⟨ys, q2⟩, hl, n⟩ => ?_⟩
  rw [q0] at q2
  cases q2
  obtain ⟨g1, g2, vs, g3, g4⟩ := t.hs.own q
  refine ⟨a0, vs, v, rfl, rfl, g3, Evl.sz_lt (by rw [g4.length]; omega), ?_⟩
  refine k O2 σ _ _ ⟨fun b o nb hb => ?_, t.ext.fr⟩ ?_ (t.hs.mut (s1 := .own a0 (xs ++ [d])) q rfl rfl g2 fun ov hov => ?_) n
  · rw [upd_ne fun z => nb (by rw [z]; exact h2)]
    exact t.ext.kp b o nb hb
  · intro b z
    by_cases e : b = a0
    · subst e
      exact ⟨_, upd_same, trivial⟩
    · obtain ⟨o, z1, z2⟩ := t.own b z
      exact ⟨o, by rw [upd_ne e]; exact z1, z2⟩
  · rw [g1] at hov
    cases hov
    exact ⟨rfl, g2, _, upd_same, g4.append (.cons rp .nil)⟩
theorem rn_app {K : PySem.W.Frag} {te : TE} {i : Nat} {a : Addr} {xs : List PyData} {ds : Sl} {d : PyData} {N : Sl → Prop} {R : PyData → Sl → Prop} (q : ds[i]? = some (.own a xs)) (h : EvS te ds d) (hl : xs.length < 50000) (k : N (ds.set i (.own a (xs ++ [d])))) :
    RunE (tDrop (tBM K "list" rAppend (tVar i) (tCons te tNil))) ds N R := rne_app ⟨a, xs, q⟩ (EvE.of h ⟨a, xs, q, ⟨xs, q⟩, hl, k⟩)
/-- xs[k] = e -/
theorem rn_setI {te tk : TE} {i : Nat} {a : Addr} {xs : List PyData} {j : Nat} {ds : Sl} {d : PyData} {N : Sl → Prop} {R : PyData → Sl → Prop} (q : ds[i]? = some (.own a xs)) (h : EvS te ds d) (hk : EvS tk ds (.int (j : Int))) (hj : j < xs.length) (k : N (ds.set i (.own a (xs.set j d)))) :
    RunE (tAsg te (gSub (tVar i) tk rSetL)) ds N R := fun F O σ H D w hs kn r =>
  h F O σ H _ w hs fun v d' ds2 O2 H2 t rp ⟨e1, e2⟩ => by
    subst e1 e2
    obtain ⟨h1, h2, vs0, h3, _⟩ := t.hs.own q
    refine ⟨_, h1, hk F O2 σ H2 _ t.own t.hs fun u d2 ds3 O3 H3 t3 rp3 ⟨e3, e4⟩ => ?_⟩
    subst e3 e4
    cases rp3
    have tt := t.trans t3
    obtain ⟨g1, g2, vs, g3, g4⟩ := tt.hs.own q
    refine ⟨a, vs, (j : Int), j, rfl, rfl, g3, Evl.ixN_nat (by rw [g4.length]; exact hj), ?_⟩
    refine kn O3 σ _ _ ⟨fun b o nb hb => ?_, tt.ext.fr⟩ ?_ (tt.hs.mut (s1 := .own a (xs.set j d')) q rfl rfl g2 fun ov hov => ?_) k
    · rw [upd_ne fun z => nb (by rw [z]; exact ((hs.own q).2.1))]
      exact tt.ext.kp b o nb hb
    · intro b z
      by_cases e : b = a
      · subst e
        exact ⟨_, upd_same, trivial⟩
      · obtain ⟨o, z1, z2⟩ := tt.own b z
        exact ⟨o, by rw [upd_ne e]; exact z1, z2⟩
    · rw [g1] at hov
      cases hov
      exact ⟨rfl, g2, _, upd_same, RpAll.set (Rp.ex t3.up _ rp) j g4⟩
/-- an owned list read by place; its length -/
theorem ev_ixOwn {K : PySem.W.Frag} {tk : TE} {i : Nat} {a : Addr} {xs : List PyData} {n : Int} {ds : Sl} {d : PyData} (q : ds[i]? = some (.own a xs)) (hk : EvS tk ds (.int n)) (hd : atI xs n = some d) : EvS (tOp (rIx K) (tVar i) tk) ds d := fun F O σ H Q w hs k => by
  obtain ⟨h1, h2, vs0, h3, _⟩ := hs.own q
  refine ⟨_, h1, hk F O σ H _ w hs fun u d2 ds3 O3 H3 t3 rp3 ⟨e3, e4⟩ => ?_⟩
  subst e3 e4
  cases rp3
  obtain ⟨g1, g2, vs, g3, g4⟩ := t3.hs.own q
  obtain ⟨v, e, r⟩ := at_rp g4 hd
  exact .inl ⟨a, vs, n, v, rfl, rfl, .of g3, e, k v d _ O3 H3 t3 r ⟨rfl, rfl⟩⟩
end
/-! ### defs -/
section
variable {P : Program} {w : World} {K : PySem.W.Frag} {mg : Str → Option Value} {base : Heap}
abbrev FnP (K : PySem.W.Frag) (x : Str) (st : Stmt) (f : Addr) (fd : FuncData) : Prop := FunD K x x (defArgs st) (defBody st) (defScope st) [] [] f fd
theorem start_hs {S : ASet} {H : Hp} {vs : List V} {xs : List PyData} {N : List Str} (r : RpAll (hid S H) vs xs) : Hs S no H (L2.start N vs) (xs.map Slot.dat ++ List.replicate (N.length - xs.length) .non) := by
  have e : un S no = S := by
    funext a
    exact propext ⟨fun z => z.elim id False.elim, .inl⟩
  refine ⟨fun _ _ z => z, ?_, fun i s q => ?_, fun i j s t a q1 q2 e1 e2 => ?_⟩
  · unfold L2.start
    rw [List.length_append, List.length_append, List.length_map, List.length_map, List.length_replicate, List.length_replicate, r.length]
  · rw [e]
    unfold L2.start
    by_cases hi : i < xs.length
    · rw [List.getElem?_append_left (by rw [List.length_map]; exact hi), List.getElem?_map] at q
      rw [List.getElem?_append_left (by rw [List.length_map, r.length]; exact hi), List.getElem?_map]
      cases q3 : xs[i]? with
      | none =>
        rw [q3] at q
        cases q
      | some d =>
        rw [q3] at q
        cases q
        obtain ⟨v, h1, h2⟩ := r.get q3
        rw [h1]
        exact ⟨_, rfl, v, rfl, h2⟩
    · rw [List.getElem?_append_right (by rw [List.length_map]; omega), List.length_map, List.getElem?_replicate] at q
      rw [List.getElem?_append_right (by rw [List.length_map, r.length]; omega), List.length_map, r.length, List.getElem?_replicate]
      split at q
      · rename_i z
        cases q
        exact ⟨none, by rw [if_pos z], trivial⟩
      · cases q
  · have key : ∀ {i : Nat} {s : Slot}, (xs.map Slot.dat ++ List.replicate (N.length - xs.length) Slot.non)[i]? = some s → s.addr = none := fun {i s} q => by
      rcases List.mem_append.mp (List.mem_of_getElem? q) with m | m
      · obtain ⟨d, _, rfl⟩ := List.mem_map.mp m
        rfl
      · rw [(List.mem_replicate.mp m).2]
        rfl
    rw [key q1] at e1
    cases e1
/-- a def that changes nothing, by its body -/
theorem ok_pure {x : Str} {st : Stmt} {f : Addr} {fd : FuncData} {N ps : List Str} {k : Nat} {rel : List PyData → PyData → Prop} (F : FnP K x st f fd) (S : FnScope N ps (defScope st)) (len : ∀ xs z, rel xs z → xs.length = ps.length)
    (body : ∀ (cdv : Value) (A : Around) (outer : List Env) (s : Shared) (H : Hp) (E : XK), Room k (A.deeper (envOfC x (defScope st) s.heap.objs.size f cdv)) →
      ∃ t, PSs (cxOf CX0 P w K mg base N x (defScope st) f cdv A outer s H E).nox (defBody st) t ∧ ∀ xs z, rel xs z → RunE t (xs.map Slot.dat ++ List.replicate (N.length - xs.length) .non) (fun _ => z = .none) fun d _ => d = z) : FnOk P w K mg base CX0 (k + 1) f fd ps (PureSp rel) := by
  refine F.ok S (fun vs H Q E h => ?_) (fun cdv A outer s H vs Q E hr h => ?_)
  · obtain ⟨T, xs, z, w, r, hrel, _⟩ := h
    rw [r.length]
    exact len xs z hrel
  · obtain ⟨T, xs, z, w, r, hrel, q⟩ := h
    obtain ⟨t, h1, h2⟩ := body cdv A outer s H E hr
    refine ⟨t, h1.nox, ?_⟩
    have e : un T no = T := by
      funext a
      exact propext ⟨fun z => z.elim id False.elim, .inl⟩
    refine h2 xs z hrel T no _ H _ (by rw [e]; exact w) (start_hs r) (fun O2 σ2 H2 ds2 ex w2 hs2 n => ?_) fun v d O2 σ2 H2 ds2 ex w2 hs2 rp n => ?_
    · subst n
      exact q _ _ ex.ex .non
    · subst n
      exact q _ _ ex.ex (Rp.ex (hid_le fun a => .inl) _ rp)
/-- a def that draws from the row: the row is held, the value one of those -/
def RowSp (K : PySem.W.Frag) (pre : List PyData → Prop) (rel : List PyData → PyData → Prop) : Sp := fun vs H Q _ => ∃ (S : ASet) (a : Addr) (ws : List V) (xs : List PyData), vs = .ref a :: ws ∧ ¬ S a ∧ Own (un S (· = a)) H ∧ RowIs K (hid (un S (· = a)) H) H a ∧ RpAll (hid (un S (· = a)) H) ws xs ∧ pre xs ∧
  ∀ v z H2, (∀ b o, b ≠ a → H b = some o → H2 b = some o) → Own (un S (· = a)) H2 → RowIs K (hid (un S (· = a)) H2) H2 a → Rp (hid (un S (· = a)) H2) v z → rel xs z → Q v H2
theorem ok_row {x : Str} {st : Stmt} {f : Addr} {fd : FuncData} {N ps : List Str} {k : Nat} {pre : List PyData → Prop} {rel : List PyData → PyData → Prop} (F : FnP K x st f fd) (S : FnScope N ps (defScope st)) (len : ∀ xs, pre xs → xs.length + 1 = ps.length)
    (body : ∀ (cdv : Value) (A : Around) (outer : List Env) (s : Shared) (H : Hp) (E : XK), Room k (A.deeper (envOfC x (defScope st) s.heap.objs.size f cdv)) →
      ∃ t, PSs (cxOf CX0 P w K mg base N x (defScope st) f cdv A outer s H E).nox (defBody st) t ∧ ∀ a xs, pre xs → RunE t (.row K a :: (xs.map Slot.dat ++ List.replicate (N.length - (xs.length + 1)) .non)) (fun _ => False) fun d ds' => rel xs d ∧ ds'[0]? = some (.row K a)) : FnOk P w K mg base CX0 (k + 1) f fd ps (RowSp K pre rel) := by
  refine F.ok S (fun vs H Q E h => ?_) (fun cdv A outer s H vs Q E hr h => ?_)
  · obtain ⟨T, a, ws, xs, rfl, _, _, _, r, hp, _⟩ := h
    rw [List.length_cons, r.length]
    exact len xs hp
  · obtain ⟨T, a, ws, xs, rfl, na, w, hrow, r, hp, q⟩ := h
    obtain ⟨t, h1, h2⟩ := body cdv A outer s H E hr
    refine ⟨t, h1.nox, ?_⟩
    have h0 : Hs T (· = a) H (L2.start N (.ref a :: ws)) (.row K a :: (xs.map Slot.dat ++ List.replicate (N.length - (xs.length + 1)) .non)) := by
      have e1 : L2.start N (.ref a :: ws) = some (.ref a) :: (ws.map some ++ List.replicate (N.length - (ws.length + 1)) none) := rfl
      rw [e1]
      refine ⟨fun b z e => na (by rw [← e]; exact z), ?_, fun i s q => ?_, fun i j s t b q1 q2 e1 e2 => ?_⟩
      · rw [List.length_cons, List.length_cons, List.length_append, List.length_append, List.length_map, List.length_map, List.length_replicate, List.length_replicate, r.length]
      · cases i with
        | zero =>
          cases q
          exact ⟨_, rfl, rfl, rfl, hrow⟩
        | succ i =>
          rw [List.getElem?_cons_succ] at q ⊢
          by_cases hi : i < xs.length
          · rw [List.getElem?_append_left (by rw [List.length_map]; exact hi), List.getElem?_map] at q
            rw [List.getElem?_append_left (by rw [List.length_map, r.length]; exact hi), List.getElem?_map]
            cases q3 : xs[i]? with
            | none =>
              rw [q3] at q
              cases q
            | some d =>
              rw [q3] at q
              cases q
              obtain ⟨v, h1, h2⟩ := r.get q3
              rw [h1]
              exact ⟨_, rfl, v, rfl, h2⟩
          · rw [List.getElem?_append_right (by rw [List.length_map]; omega), List.length_map, List.getElem?_replicate] at q
            rw [List.getElem?_append_right (by rw [List.length_map, r.length]; omega), List.length_map, r.length, List.getElem?_replicate]
            split at q
            · rename_i z
              cases q
              exact ⟨none, by rw [if_pos z], trivial⟩
            · cases q
      · have key : ∀ {i : Nat} {s : Slot}, (Slot.row K a :: (xs.map Slot.dat ++ List.replicate (N.length - (xs.length + 1)) Slot.non))[i]? = some s → s.addr = some b → i = 0 := fun {i s} q e => by
          cases i with
          | zero => rfl
          | succ i =>
            rw [List.getElem?_cons_succ] at q
            rcases List.mem_append.mp (List.mem_of_getElem? q) with m | m
            · obtain ⟨d, _, rfl⟩ := List.mem_map.mp m
              cases e
            · rw [(List.mem_replicate.mp m).2] at e
              cases e
        rw [key q1 e1, key q2 e2]
    refine h2 a xs hp T (· = a) _ H _ w h0 (fun O2 σ2 H2 ds2 ex w2 hs2 n => n.elim) fun v d O2 σ2 H2 ds2 ex w2 hs2 rp ⟨hz, h0'⟩ => ?_
    obtain ⟨ov, g1, g2, g3, g4⟩ := hs2.at_ 0 _ h0'
    have le1 : ∀ b, un T (· = a) b → unR T ds2 b := fun b z => z.elim .inl fun e => .inr ⟨0, K, by rw [h0']; exact congrArg some (congrArg (Slot.row K) e.symm)⟩
    have le2 : ∀ b, un T (· = a) b → un T O2 b := fun b z => z.imp id fun e => by rw [e]; exact g3
    refine q v d H2 (fun b o nb hb => ex.kp b o nb hb) (fun b z => w2 b (le2 b z)) (g4.ex (hid_le le2) rfl) (Rp.ex (hid_le le1) _ rp) hz
theorem ee_callR {pre : List PyData → Prop} {rel : List PyData → PyData → Prop} {E : XK} {ta : TA} {i : Nat} {a : Addr} {ds : Sl} {P : PyData → Sl → Prop} (q : ds[i]? = some (.row K a)) (h : EaE ta ds fun xs ds' => ds'[i]? = some (.row K a) ∧ pre xs ∧ ∀ z, rel xs z → P z ds') : EvE (tCall (RowSp K pre rel) [] E (tCons (tVar i) ta)) ds P := fun F O σ H Q w hs k => by
  obtain ⟨ov, g1, g2, g3, g4⟩ := hs.at_ i _ q
  subst g2
  refine ⟨_, g1, h F O σ H _ w hs fun vs xs ds1 O1 H1 t1 r1 ⟨q1, hp, hz⟩ => ?_⟩
  obtain ⟨ov, g1, g2, g3, g4⟩ := t1.hs.at_ i _ q1
  show RowSp K pre rel ((.ref a :: vs) ++ []) H1 Q E
  rw [List.append_nil]
  -- all that is owned but the row is hidden from the callee
  let S : ASet := fun b => un F O1 b ∧ b ≠ a
  have eS : un S (· = a) = un F O1 := by
    funext b
    refine propext ⟨fun z => z.elim And.left fun e => by rw [e]; exact .inr g3, fun z => ?_⟩
    by_cases e : b = a
    · exact .inr e
    · exact .inl ⟨z, e⟩
  refine ⟨S, a, vs, xs, rfl, fun z => z.2 rfl, by rw [eS]; exact t1.own, by rw [eS]; exact g4, by rw [eS]; exact r1, hp, fun v z H2 kp w2 row2 rp hr => ?_⟩
  rw [eS] at w2 row2 rp
  have na : ¬ F a := fun z => t1.hs.dj a z g3
  have up : Ex (hid (un F O1) H1) (hid (un F O1) H2) := fun b o hb => by
    obtain ⟨n, hb⟩ := hid_some hb
    rw [hid_in n]
    exact kp b o (fun e => n (by rw [e]; exact .inr g3)) hb
  have ne : ∀ (j : Nat) (s : Slot) (b : Addr), ds1[j]? = some s → s.addr = some b → (∀ K', s ≠ .row K' a) → b ≠ a := fun j s b q2 e h e2 => by
    subst e2
    have e3 := t1.hs.sep i j _ _ b q1 q2 rfl e
    subst e3
    rw [q1] at q2
    cases q2
    exact h K rfl
  refine k v z ds1 O1 H2 ⟨t1.ext.trans ⟨fun b o n hb => kp b o (fun e => n (by rw [e]; exact g3)) hb, fun b z => .inl z⟩, w2, ⟨t1.hs.dj, t1.hs.len, fun j s q2 => ?_, t1.hs.sep⟩⟩ rp (hz z hr)
  obtain ⟨ov, h1, h2⟩ := t1.hs.at_ j s q2
  refine ⟨ov, h1, ?_⟩
  cases s with
  | non => trivial
  | dat d =>
    obtain ⟨v, z1, z2⟩ := h2
    exact ⟨v, z1, Rp.ex up d z2⟩
  | own b ys =>
    obtain ⟨z1, z2, vs, z3, z4⟩ := h2
    exact ⟨z1, z2, vs, kp b _ (ne j _ b q2 rfl fun _ z => nomatch z) z3, RpAll.ex up _ z4⟩
  | tab b ys =>
    obtain ⟨z1, z2, vs, z3, z4⟩ := h2
    exact ⟨z1, z2, vs, kp b _ (ne j _ b q2 rfl fun _ z => nomatch z) z3, RpTab.ex up z4⟩
  | ftab b od es ys =>
    obtain ⟨z1, z3, z4⟩ := h2
    exact ⟨z1, up _ _ z3, RpTab.ex up z4⟩
  | row K' b =>
    obtain ⟨z1, z2, z3⟩ := h2
    by_cases e : b = a
    · subst e
      have e3 := t1.hs.sep i j _ _ b q1 q2 rfl rfl
      subst e3
      rw [q1] at q2
      cases q2
      exact ⟨z1, z2, row2⟩
    · obtain ⟨sc, i', x, c, ns, z4, z5⟩ := id z3
      exact ⟨z1, z2, z3.ex up (by rw [z4, kp b _ e z4])⟩
end
end Hk
set_option Elab.async false
set_option linter.all false
set_option maxRecDepth 100000
set_option maxHeartbeats 4000000
set_option autoImplicit false
/-! HkR1: enumerate(tuple), zip(list, tuple), walked by a target of several names. -/
namespace Hk
open PySem PySem.Spec PyProof.Rows L2
section
variable {P : Program} {w : World} {K : PySem.W.Frag}
/-- a turn that gives a new pair, out of the library's GoesN -/
theorem turn_pair {elts : List Expr} {kk : Nat} {tpos : Pos} {J : It} {fp : List Addr} {it : Addr} {tn : Nat → Heap → Prop} (mem : it ∈ fp)
    (obj : ∀ i h, tn i h → ∀ b ∈ fp, ∃ o, h.get? b = some o ∧ ∀ v, o.data ≠ .cell v) (keep : ∀ i h h', tn i h → (∀ b ∈ fp, ∀ o, h.get? b = some o → h'.get? b = some o) → tn i h')
    (self : ∀ (A : Around) (i : Nat) (s : Shared) (Q : Value → Shared → Prop) (E : Value → Shared → Prop), tn i s.heap → Q (.ref it) s → wpAny (model P w) A (pyIter (.ref it)) Q E s)
    (go : ∀ (X : Cx), X.prog = P → X.w = w → X.K = K → X.A.handled = none → ∀ (i : Nat) (pins : List (Addr × Obj)) (s : Shared) (σ : L2.St) (H : Hp), Inv X pins σ H s → tn i s.heap → J.go i H →
      ∃ (fp2 wr : List Addr) (n : Nat) (Y : Nat → Heap → Value → Heap → Prop) (St : Nat → Heap → Prop), GoesN P w X.A (.Tuple elts kk tpos) it fp2 wr n Y St ∧ i < n ∧ St i s.heap ∧ (∀ h, St (i + 1) h → tn (i + 1) h) ∧ (∀ b ∈ wr, b ∈ fp) ∧
        ∀ v h', Y i s.heap v h' → ∃ (T : Addr) (x y : V) (u u' : Value), v = .ref T ∧ s.heap.objs.size ≤ T ∧ IsTup h' T #[u, u'] ∧ RelV x u ∧ RelV y u' ∧ J.yld i H (.ref T) (upd H T (.tup [x, y])))
    (stop : ∀ (X : Cx), X.prog = P → X.w = w → X.K = K → X.A.handled = none → ∀ (i : Nat) (pins : List (Addr × Obj)) (s : Shared) (σ : L2.St) (H : Hp), Inv X pins σ H s → tn i s.heap → J.stop i H →
      ∃ (fp2 wr : List Addr) (Y : Nat → Heap → Value → Heap → Prop) (St : Nat → Heap → Prop), GoesN P w X.A (.Tuple elts kk tpos) it fp2 wr i Y St ∧ St i s.heap ∧ ∀ b ∈ wr, b ∈ fp) : Turn P w K (.Tuple elts kk tpos) J fp it tn where
  mem := mem
  obj := obj
  keep := keep
  self := self
  item := by
    intro X hP hW hK hc i pins s σ H E I hf st hg
    obtain ⟨fp2, wr, n, Y, St, W, hi, h0, hn, hw, hy⟩ := go X hP hW hK (I.ok.hd hc) i pins s σ H I st hg
    refine W.goes i s (fun u s2 => ∃ x H', Inv X pins σ H' s2 ∧ RelV x u ∧ J.yld i H x H' ∧ tn (i + 1) s2.heap ∧ ∀ b ∈ fp, H' b = none) E hi h0 fun v h' tk y1 st1 kp htk => ?_
    obtain ⟨T, x, y, u, u', rfl, hT, ht, rx, ry, yl⟩ := hy v h' y1
    subst hP hW hK
    have new : ObjOk X.prog X.w (upd H T (.tup [x, y])) h' T (.tup [x, y]) := ⟨by show 2 ≤ sizeLine; decide, [u, u'], .cons rx (.cons ry .nil), ht⟩
    have I1 : Inv X pins σ (upd H T (.tup [x, y])) { s with heap := h', toks := tk } := I.turnedNew (ch := wr) (fun b o hb q => kp b o hb q) (fun b hb => hf b (hw b hb)) hT new
    refine ⟨.ref T, _, I1, rfl, yl, hn _ st1, fun b hb => ?_⟩
    obtain ⟨o, ho, _⟩ := obj _ _ st b hb
    have hlt : b < s.heap.objs.size := Heap.lt_size ho
    have ne : b ≠ T := fun e => absurd (Nat.lt_of_lt_of_le hlt hT) (by rw [e]; exact Nat.lt_irrefl _)
    rw [upd_ne ne]
    exact (hf b hb).1
  done := by
    intro X hP hW hK hc i pins s σ H E I hf st hg
    obtain ⟨fp2, wr, Y, St, W, h0, hw⟩ := stop X hP hW hK (I.ok.hd hc) i pins s σ H I st hg
    exact W.stops s (fun s2 => Inv X pins σ H s2) E h0 fun h' tk kp htk => I.turnedL (ch := wr) (fun b o hb q => kp b o hb q) fun b hb => hf b (hw b hb)
/-! ### enumerate(tuple) -/
theorem enum_newT (l : Addr) (items : Array Value) (n : Nat) (dct : Option Addr) (sl : Array (Option Value)) :
    Meets (Builtin.«enumerate.__new__» ⟨[.type "enumerate", .ref l], []⟩) (fun _ R s => s.heap.get? l = some { cls := .type "tuple", dict := dct, data := .seq items n, slots := sl } ∧
      R (.ok (.ret (.ref (s.heap.push { cls := .type "tuple_iterator", data := .fields #[.ref l, .int 0 0] }).objs.size)))
        { s with heap := (s.heap.push { cls := .type "tuple_iterator", data := .fields #[.ref l, .int 0 0] }).push { cls := .type "enumerate", data := .fields #[.none, .bool false, .ref s.heap.objs.size, rawInt 0, .none, .none] } }) :=
  .of_wp fun prog w A R s h => by
    obtain ⟨hp, gs, dr, tk, os⟩ := s
    obtain ⟨hl, h⟩ := h
    have hsub := sub_enumerate
    have hT : Heap.IsTuple (Shared.heap ⟨hp, gs, dr, tk, os⟩) l items := ⟨_, hl, rfl, n, rfl⟩
    wp_walk using AutoSeq1.wpAny_loadPart' hl
    refine wpAny_stack_any fun st => wpAny_pure ?_
    split
    · rename_i c _ _ _ _ _
      cases (c == Value.type "enumerate") <;> (wp_walk using AutoSeq1.wpAny_loadPart' hl, wpAny_pyIter_tuple hT; exact ⟨_, rfl, h⟩)
    · wp_walk using AutoSeq1.wpAny_loadPart' hl, wpAny_pyIter_tuple hT
      exact ⟨_, rfl, h⟩
theorem call_enumT {prog : Program} {w : World} {A : Around} {E : Value → Shared → Prop} {s : Shared} {l : Addr} {items : Array Value} {Q : Value → Shared → Prop} (hT : s.heap.IsTuple l items)
    (h : ∀ h', IsEnum h' (s.heap.objs.size + 1) s.heap.objs.size 0 .none → h'.IsTupleIter s.heap.objs.size l 0 → (∀ b o, s.heap.get? b = some o → h'.get? b = some o) → Q (.ref (s.heap.objs.size + 1)) { s with heap := h' }) :
    wpAny (model prog w) A (call (.type "enumerate") [.ref l]) Q E s := by
  obtain ⟨⟨c, dct, dt, sl⟩, hl, hc, n, hd⟩ := hT
  replace hc : c = .type "tuple" := hc
  replace hd : dt = .seq items n := hd
  subst hc hd
  refine callType_new F.called_enumerate (by decide) (F.typeCall_enumerate_1 _) (F.newCall_enumerate_1 _) (fun obj => F.args_object_init_2 obj _) F.entry_enumerate_new (enum_newT l items n dct sl) ⟨hl, ?_⟩
  have hz : (s.heap.push { cls := .type "tuple_iterator", data := .fields #[.ref l, .int 0 0] }).objs.size = s.heap.objs.size + 1 := Heap.size_push ..
  show _ ∧ _
  rw [hz]
  have he : IsEnum ((s.heap.push { cls := .type "tuple_iterator", data := .fields #[.ref l, .int 0 0] }).push { cls := .type "enumerate", data := .fields #[.none, .bool false, .ref s.heap.objs.size, rawInt 0, .none, .none] }) (s.heap.objs.size + 1) s.heap.objs.size 0 .none := by
    have := Heap.get?_push_size (s.heap.push { cls := .type "tuple_iterator", data := .fields #[.ref l, .int 0 0] }) (o := { cls := .type "enumerate", data := .fields #[.none, .bool false, .ref s.heap.objs.size, rawInt 0, .none, .none] }) rfl
    rw [hz] at this
    exact this
  exact ⟨⟨_, he, rfl⟩, h _ he ⟨_, Heap.get?_push_of_some _ (Heap.get?_push_size _ rfl), rfl, rfl⟩ fun b o x => Heap.get?_push_of_some _ (Heap.get?_push_of_some _ x)⟩
/-- the tuple at a, each item with its place in a new pair -/
def IteT (K : PySem.W.Frag) (a : Addr) : It :=
  ⟨fun i H => ∃ (xs : List V) (x : V), SqT K H a xs ∧ xs[i]? = some x, fun i H v H' => ∃ T x, v = .ref T ∧ H T = none ∧ H' = upd H T (.tup [.int (i : Nat), x]) ∧ ∀ xs, SqT K H a xs → xs[i]? = some x, fun i H => ∃ xs : List V, SqT K H a xs ∧ xs.length = i⟩
theorem turn_enumT {elts : List Expr} {kk : Nat} {tpos : Pos} (a e it : Addr) : Turn P w K (.Tuple elts kk tpos) (IteT K a) [e, it] e (fun i h => (∃ old, IsEnum h e it (0 + (i : Int)) old) ∧ h.IsTupleIter it a i ∧ e ≠ it ∧ e ≠ a ∧ a ≠ it) := by
  have W : ∀ (A : Around) (items : Array Value), A.handled = none → e ≠ it → e ≠ a → a ≠ it → _ := fun A items hh h1 h2 h3 => GoesN.enumFrom (prog := P) (w := w) (A := A) (elts := elts) (x1 := kk) (pos := tpos) 0 (Draws.tuple (A := A.in1) hh it a h3 items) e h1 (by simp [h1, h2]) (by simp)
  refine turn_pair (by simp) (fun i h st b hb => ?_) (fun i h h' st k => ?_) (fun A i s Q E st h => ?_) ?_ ?_
  · obtain ⟨⟨old, he⟩, ⟨o, ho, hc, hd⟩, _⟩ := st
    rcases (by simpa using hb : b = e ∨ b = it) with z | z
    · rw [z]
      exact ⟨_, he, fun v q => nomatch q⟩
    · rw [z]
      exact ⟨o, ho, fun v q => by rw [hd] at q; cases q⟩
  · obtain ⟨⟨old, he⟩, hi, r⟩ := st
    exact ⟨⟨old, k e (by simp) _ he⟩, hi.at fun o q => k it (by simp) o q, r⟩
  · obtain ⟨⟨_, he⟩, _⟩ := st
    exact wpAny_pyIter_enum he h
  · intro X hP hW hK hh i pins s σ H I st hg
    subst hP hW hK
    obtain ⟨he, hit, n1, n2, n3⟩ := st
    obtain ⟨xs, x, hq, hx⟩ := hg
    obtain ⟨its, rv, p, hz⟩ := I.tuple hq
    obtain ⟨u, hu, ru⟩ := rv.get hx
    have hlen := rv.length
    have hi : i < its.toArray.size := by
      have := (List.getElem?_eq_some_iff.mp hx).1
      simp
      omega
    refine ⟨_, _, _, _, _, W X.A its.toArray hh n1 n2 n3, hi, ⟨he, hit, p⟩, fun h q => ⟨q.1, q.2.1, n1, n2, n3⟩, fun b hb => by simpa using hb, fun v h' q => ?_⟩
    obtain ⟨T, t, u2, rfl, hT, hu2, ht⟩ := q
    have e2 : u2 = u := by
      have : its.toArray[i]? = some u2 := hu2
      rw [List.getElem?_toArray, hu] at this
      exact (Option.some.inj this).symm
    subst e2
    refine ⟨T, .int (i : Nat), x, _, u2, rfl, hT, ht, ⟨t, by rw [Int.zero_add]⟩, ru, T, x, rfl, I.hok.fresh hT, rfl, fun ys hy => ?_⟩
    rw [I.tuple_inj hy hq]
    exact hx
  · intro X hP hW hK hh i pins s σ H I st hg
    subst hP hW hK
    obtain ⟨he, hit, n1, n2, n3⟩ := st
    obtain ⟨xs, hq, hx⟩ := hg
    obtain ⟨its, rv, p, hz⟩ := I.tuple hq
    have hlen := rv.length
    have hi : its.toArray.size = i := by
      simp
      omega
    have G := W X.A its.toArray hh n1 n2 n3
    rw [hi] at G
    exact ⟨_, _, _, _, G, ⟨he, hit, p⟩, fun b hb => by simpa using hb⟩
def iEnumT (K : PySem.W.Frag) (ta : TA) : TI := fun σ H R => ta σ H fun vs H1 => ∃ a xs, vs = [.ref a] ∧ SqT K H1 a xs ∧ R (IteT K a) H1
theorem pi_enumT {X : Cx} {e : Expr} {ta : TA} {p pos tpos : Pos} {elts : List Expr} {kk : Nat} (hg : Gl X "enumerate") (hm : X.mg "enumerate" = none) (ha : PA X [e] ta) (hs : starEach [e] X.env = [(false, eval e X.env)] := by rfl) :
    PI X (.Tuple elts kk tpos) (.Call (.Name "enumerate" p) [e] [] pos) (iEnumT X.K ta) := by
  refine ⟨fun pins s σ H R I h => Call_ (ld_blt I hg hm boot_enumerate (PyProof.Rows.callWith_type1 (thn (ha.run pos pins s σ H _ I h) fun us s1 ⟨vs, H1, I1, r1, q1⟩ => ?_) hs rfl))⟩
  obtain ⟨a, xs, ex, hq, q⟩ := q1
  subst ex
  cases r1 with
  | cons r rr =>
    cases rr
    cases r
    obtain ⟨its, rv, p', hz⟩ := I1.tuple hq
    obtain ⟨oa, hoa, _⟩ := id p'
    have la : a < s1.heap.objs.size := Heap.lt_size hoa
    refine call_enumT p' fun h' he hit hk => wpAny_pyIter_enum he ?_
    have I2 : Inv X pins σ H1 { s1 with heap := h' } := I1.kept (t' := s1.toks) hk
    refine ⟨s1.heap.objs.size + 1, [s1.heap.objs.size + 1, s1.heap.objs.size], _, _, H1, rfl, I2, turn_enumT a (s1.heap.objs.size + 1) s1.heap.objs.size, ⟨⟨.none, by simpa using he⟩, hit, Nat.succ_ne_self _, Nat.ne_of_gt (Nat.lt_succ_of_lt la), Nat.ne_of_lt la⟩, fun b hb => ?_, q⟩
    have hle : s1.heap.objs.size ≤ b := by
      rcases (by simpa using hb : b = s1.heap.objs.size + 1 ∨ b = s1.heap.objs.size) with z | z
      · rw [z]
        exact Nat.le_add_right _ _
      · rw [z]
        exact Nat.le_refl _
    exact I1.fpOk hle (I1.hok.fresh hle)
/-! ### zip(list, tuple) -/
/-- the list at a and the tuple at b, item by item in new pairs -/
def ItzM (K : PySem.W.Frag) (a b : Addr) : It :=
  ⟨fun i H => ∃ (xs ys : List V) (x y : V), SqL K H a xs ∧ SqT K H b ys ∧ xs[i]? = some x ∧ ys[i]? = some y,
    fun i H v H' => ∃ T x y, v = .ref T ∧ H T = none ∧ H' = upd H T (.tup [x, y]) ∧ (∀ xs, SqL K H a xs → xs[i]? = some x) ∧ ∀ ys, SqT K H b ys → ys[i]? = some y,
    fun i H => ∃ xs ys : List V, SqL K H a xs ∧ SqT K H b ys ∧ min xs.length ys.length = i⟩
theorem turn_zipM {elts : List Expr} {kk : Nat} {tpos : Pos} {a b N : Nat} (la : a < N) (lb : b < N) : Turn P w K (.Tuple elts kk tpos) (ItzM K a b) [N + 4, N + 2, N + 3, N, N + 1] (N + 4)
    (fun i h => IsZip h (N + 4) (N + 2) (N + 3) .none ∧ IsTupOf2 h (N + 2) (.ref N) (.ref (N + 1)) ∧ (∃ x y, IsTupOf2 h (N + 3) x y) ∧ h.IsListIter N a i ∧ h.IsTupleIter (N + 1) b i) := by
  have W : ∀ (A : Around) (i1 i2 : Array Value), A.handled = none → _ := fun A i1 i2 hh => GoesN.zip2 (prog := P) (w := w) (A := A) (elts := elts) (x1 := kk) (pos := tpos)
    (zip_sep2 (N := N) (fp1 := [a]) (fp2 := [b]) (by simpa using la) (by simpa using lb)) (Draws.list (A := A.in1) hh N a (Nat.ne_of_lt la) i1) (Draws.tuple (A := A.in1) hh (N + 1) b (Nat.ne_of_lt (Nat.lt_succ_of_lt lb)) i2)
  refine turn_pair (by simp) (fun i h st c hc => ?_) (fun i h h' st k => ?_) (fun A i s Q E st h => ?_) ?_ ?_
  · obtain ⟨hz, hT, ⟨x, y, hO⟩, ⟨o1, e1, _, d1⟩, ⟨o2, e2, _, d2⟩⟩ := st
    rcases (by simpa using hc : c = N + 4 ∨ c = N + 2 ∨ c = N + 3 ∨ c = N ∨ c = N + 1) with q | q | q | q | q <;> rw [q]
    · exact ⟨_, hz, fun v q => nomatch q⟩
    · exact ⟨_, hT, fun v q => nomatch q⟩
    · exact ⟨_, hO, fun v q => nomatch q⟩
    · exact ⟨o1, e1, fun v q => by rw [d1] at q; cases q⟩
    · exact ⟨o2, e2, fun v q => by rw [d2] at q; cases q⟩
  · obtain ⟨hz, hT, ⟨x, y, hO⟩, h1, h2⟩ := st
    exact ⟨k _ (by simp) _ hz, k _ (by simp) _ hT, ⟨x, y, k _ (by simp) _ hO⟩, h1.at fun o q => k _ (by simp) o q, h2.at fun o q => k _ (by simp) o q⟩
  · exact wpAny_pyIter_zip st.1 h
  · intro X hP hW hK hh i pins s σ H I st hg
    subst hP hW hK
    obtain ⟨hz, hT, hO, h1, h2⟩ := st
    obtain ⟨xs, ys, x, y, hqx, hqy, hx, hy⟩ := hg
    obtain ⟨its, rv, p, _⟩ := I.list hqx
    obtain ⟨its2, rv2, p2, _⟩ := I.tuple hqy
    obtain ⟨u, hu, ru⟩ := rv.get hx
    obtain ⟨u2, hu2, ru2⟩ := rv2.get hy
    have l1 := rv.length
    have l2 := rv2.length
    have hi : i < min its.toArray.size its2.toArray.size := by
      have a1 := (List.getElem?_eq_some_iff.mp hx).1
      have a2 := (List.getElem?_eq_some_iff.mp hy).1
      simp
      omega
    refine ⟨_, _, _, _, _, W X.A its.toArray its2.toArray hh, hi, ⟨hz, hT, hO, ⟨h1, p.isList⟩, ⟨h2, p2⟩⟩, fun h q => ⟨q.1, q.2.1, q.2.2.1, q.2.2.2.1.1, q.2.2.2.2.1⟩, fun c hc => ?_, fun v h' q => ?_⟩
    · rcases (by simpa using hc : c = N + 4 ∨ c = N + 3 ∨ c = N ∨ c = N + 1) with z | z | z | z <;> simp [z]
    · obtain ⟨T, v1, v2, rfl, hT', hv1, hv2, ht⟩ := q
      have e1 : v1 = u := by
        have : its.toArray[i]? = some v1 := hv1
        rw [List.getElem?_toArray, hu] at this
        exact (Option.some.inj this).symm
      have e2 : v2 = u2 := by
        have : its2.toArray[i]? = some v2 := hv2
        rw [List.getElem?_toArray, hu2] at this
        exact (Option.some.inj this).symm
      subst e1 e2
      exact ⟨T, x, y, v1, v2, rfl, hT', ht, ru, ru2, T, x, y, rfl, I.hok.fresh hT', rfl, fun l hl => by rw [I.list_inj hl hqx]; exact hx, fun l hl => by rw [I.tuple_inj hl hqy]; exact hy⟩
  · intro X hP hW hK hh i pins s σ H I st hg
    subst hP hW hK
    obtain ⟨hz, hT, hO, h1, h2⟩ := st
    obtain ⟨xs, ys, hqx, hqy, hx⟩ := hg
    obtain ⟨its, rv, p, _⟩ := I.list hqx
    obtain ⟨its2, rv2, p2, _⟩ := I.tuple hqy
    have l1 := rv.length
    have l2 := rv2.length
    have hi : min its.toArray.size its2.toArray.size = i := by
      simp
      omega
    have G := W X.A its.toArray its2.toArray hh
    rw [hi] at G
    refine ⟨_, _, _, _, G, ⟨hz, hT, hO, ⟨h1, p.isList⟩, ⟨h2, p2⟩⟩, fun c hc => ?_⟩
    rcases (by simpa using hc : c = N + 4 ∨ c = N + 3 ∨ c = N ∨ c = N + 1) with z | z | z | z <;> simp [z]
def iZipM (K : PySem.W.Frag) (ta : TA) : TI := fun σ H R => ta σ H fun vs H1 => ∃ a b xs ys, vs = [.ref a, .ref b] ∧ SqL K H1 a xs ∧ SqT K H1 b ys ∧ R (ItzM K a b) H1
theorem pi_zipM {X : Cx} {e e2 : Expr} {ta : TA} {p pos tpos : Pos} {elts : List Expr} {kk : Nat} (hg : Gl X "zip") (hm : X.mg "zip" = none) (ha : PA X [e, e2] ta)
    (hs : starEach [e, e2] X.env = (false, eval e X.env) :: starEach [e2] X.env := by rfl) (hpl : (backTo pos (starEach [e2] X.env)).any (·.1) = false := by rfl) :
    PI X (.Tuple elts kk tpos) (.Call (.Name "zip" p) [e, e2] [] pos) (iZipM X.K ta) := by
  refine ⟨fun pins s σ H R I h => Call_ (ld_blt I hg hm PyProof.Rows.boot_zip (PyProof.Rows.callWith_type1 (thn (ha.run pos pins s σ H _ I h) fun us s1 ⟨vs, H1, I1, r1, q1⟩ => ?_) hs hpl))⟩
  obtain ⟨a, b, xs, ys, ex, hqx, hqy, q⟩ := q1
  subst ex
  cases r1 with
  | cons r rr =>
    cases rr with
    | cons r' rr =>
      cases rr
      cases r
      cases r'
      obtain ⟨its, rv, p1, _⟩ := I1.list hqx
      obtain ⟨its2, rv2, p2, _⟩ := I1.tuple hqy
      obtain ⟨ob, hob, _⟩ := id p2
      refine zip_begins2 (begins_list a its.toArray) (begins_tuple b its2.toArray) p1.isList p2 fun h' hz hT hO g1 g2 hsz hk => wpAny_pyIter_zip hz ?_
      have I2 : Inv X pins σ H1 { s1 with heap := h' } := I1.kept (t' := s1.toks) hk
      refine ⟨s1.heap.objs.size + 4, [s1.heap.objs.size + 4, s1.heap.objs.size + 2, s1.heap.objs.size + 3, s1.heap.objs.size, s1.heap.objs.size + 1], _, _, H1, rfl, I2, turn_zipM (N := s1.heap.objs.size) p1.lt (Heap.lt_size hob), ⟨hz, hT, ⟨_, _, hO⟩, ⟨_, g1, rfl, rfl⟩, ⟨_, g2, rfl, rfl⟩⟩, fun c hc => ?_, q⟩
      have hle : s1.heap.objs.size ≤ c := by
        rcases (by simpa using hc : c = s1.heap.objs.size + 4 ∨ c = s1.heap.objs.size + 2 ∨ c = s1.heap.objs.size + 3 ∨ c = s1.heap.objs.size ∨ c = s1.heap.objs.size + 1) with z | z | z | z | z <;> rw [z]
        · exact Nat.le_add_right _ _
        · exact Nat.le_add_right _ _
        · exact Nat.le_add_right _ _
        · exact Nat.le_refl _
        · exact Nat.le_add_right _ _
      exact I1.fpOk hle (I1.hok.fresh hle)
end
end Hk
set_option Elab.async false
set_option linter.all false
set_option maxRecDepth 100000
set_option maxHeartbeats 4000000
set_option autoImplicit false
/-! HkR2: x in tuple of data; tuple[::-1]; () * 2; set(list of ints); min of data. -/
namespace Hk
open PySem PySem.Spec PyProof.Rows L2
section
variable {X : Cx}
/-! ### x in t, t a tuple of data -/
def rInDT (K : PySem.W.Frag) : R2 := fun x y H Q => ∃ d ds, Dp K H x d ∧ Dp K H y (.tuple ds) ∧ SeqAt.shaped d = true ∧ SeqAt.shaped (.tuple ds) = true ∧ Q (.bl (ds.any fun z => PyData.eqv z d)) H
theorem op_inDT (hu : X.A.units + 65 < cLine) : OpR X (compareOp .In) (rInDT X.K) := fun pins s σ H x y v u Q I rx ry ⟨d, ds, hd, he, sd, se, q⟩ => by
  obtain ⟨as, r1⟩ := Dp.reads I d x v hd rx
  obtain ⟨bs, r2⟩ := Dp.reads I (.tuple ds) y u he ry
  have d1 := SeqAt.depth_of_shaped sd
  exact SeqAt.in_tuple_reads r2 r1 (SeqAt.canLay_of_shaped se) (SeqAt.canLay_of_shaped sd) (Nat.lt_of_le_of_lt (Nat.add_le_add_left (Nat.min_le_right _ _) _) (by omega)) ⟨.bl _, H, I, rfl, q⟩
/-! ### t[::-1] -/
theorem applied_back {prog : Program} {w : World} {A : Around} {E : Value → Shared → Prop} {s : Shared} {sl : Addr} {vs : Value} {n : Nat} {Q : Int × Int × Nat → Shared → Prop} (hs : s.heap.IsSliceOf sl .none .none vs) (ps : IsPart vs (some (-1)))
    (h : Q ((n : Int) - 1, -1, n) s) : wpAny (model prog w) A (Builtin.Slice.sliceApplied (.ref sl) (pure (n : Int))) Q E s := by
  obtain ⟨os, hos, hcs, hds⟩ := id hs
  unfold Builtin.Slice.sliceApplied Builtin.Slice.sliceFields
  refine wpAny_bind (wpAny_bind (wpAny_field hos hds (x := .none) rfl (wpAny_bind (wpAny_field hos hds (x := .none) rfl (wpAny_bind (wpAny_field hos hds (x := vs) rfl (wpAny_pure ?_)))))))
  refine wpAny_bind (HT.slicePart_ ps ?_)
  show wpAny _ _ (if ((-1 : Int) == 0) = true then _ else _) _ _ s
  rw [if_neg (by decide)]
  refine wpAny_bind (HT.slicePart_ .none (wpAny_bind (HT.slicePart_ .none (wpAny_bind (wpAny_pure ?_)))))
  have e : Builtin.Slice.sliceAdjust none none (-1) (n : Int) = ((n : Int) - 1, -1) := by
    unfold Builtin.Slice.sliceAdjust
    rfl
  have e2 : Builtin.Slice.slicePlaces ((n : Int) - 1) (-1) (-1) = n := by
    unfold Builtin.Slice.slicePlaces
    rw [if_neg (by decide)]
    by_cases q : (n : Int) - 1 > -1
    · rw [if_pos q, show (-(-1) : Int) = 1 by decide, Int.ediv_one]
      omega
    · rw [if_neg q]
      omega
  show wpAny _ _ (match Builtin.Slice.sliceAdjust none none (-1) (n : Int) with | (lo, hi) => pure (lo, (-1 : Int), Builtin.Slice.slicePlaces lo hi (-1))) _ _ s
  rw [e]
  show wpAny _ _ (pure ((n : Int) - 1, (-1 : Int), Builtin.Slice.slicePlaces ((n : Int) - 1) (-1) (-1))) _ _ s
  rw [e2]
  exact wpAny_pure h
theorem fm_congr {α β : Type} {f g : α → Option β} : ∀ {l : List α}, (∀ x ∈ l, f x = g x) → l.filterMap f = l.filterMap g
  | [], _ => rfl
  | x :: l, h => by
    rw [List.filterMap_cons, List.filterMap_cons, h x List.mem_cons_self, fm_congr fun y hy => h y (List.mem_cons_of_mem _ hy)]
theorem pick_back (xs : Array Value) : ((List.range xs.size).filterMap fun (k : Nat) => xs[((xs.size : Int) - 1 + (k : Int) * (-1)).toNat]?).toArray = xs.toList.reverse.toArray := by
  have e : (List.range xs.size).filterMap (fun (k : Nat) => xs[((xs.size : Int) - 1 + (k : Int) * (-1)).toNat]?) = ((List.range xs.size).map fun k => xs.size - 1 - k).filterMap fun k => xs[k]? := by
    rw [List.filterMap_map]
    refine fm_congr fun k hk => ?_
    have hk := List.mem_range.mp hk
    show xs[((xs.size : Int) - 1 + (k : Int) * (-1)).toNat]? = xs[xs.size - 1 - k]?
    congr 1
    omega
  rw [e, PySem.W.krv_range, List.filterMap_reverse, PySem.W.krv_all]
theorem getItem_back {prog : Program} {w : World} {A : Around} {E : Value → Shared → Prop} {s : Shared} {t sl : Addr} {items : Array Value} {vs : Value} {Q : Value → Shared → Prop} (ht : IsTup s.heap t items) (hs : s.heap.IsSliceOf sl .none .none vs) (ps : IsPart vs (some (-1))) (hz : items.size ≤ sizeLine)
    (h : Q (.ref s.heap.objs.size) { s with heap := s.heap.push { cls := .type "tuple", data := .seq items.toList.reverse.toArray } }) : wpAny (model prog w) A (getItem (.ref t) (.ref sl)) Q E s := by
  have hsz : sizeOk (.seq items.toList.reverse.toArray) := by
    show items.toList.reverse.toArray.size ≤ sizeLine
    rw [List.size_toArray, List.length_reverse, Array.length_toList]
    exact hz
  obtain ⟨os, hos, hcs, hds⟩ := id hs
  have hT : s.TypeIs (.ref sl) "slice" := ⟨os, hos, hcs⟩
  unfold getItem
  try with_reducible refine wpAny_holding ?_
  first | refine wpAny_bind (wpAny_pure ?_) | skip
  refine wpAny_bind (wpAny_sequenceKey ht.typeIs (by decide) (wpAny_bind (wpAny_callSpecial?_slot (name := Str.ofString "__getitem__") ht.typeIs PyProof.Rows.slot_tuple_getitem (wpAny_call_entry PyProof.Rows.slot_tuple_getitem ht.typeIs entry_tuple_getitem ?_ (args_tuple_getitem _ _)))))
  show wpAny _ _ (Builtin.Tuple.tupleItemsOf (.ref t) >>= _) _ _ s
  refine wpAny_bind (tupleItemsOf_ ht (wpAny_bind (wpAny_typeOf hT ?_)))
  rw [if_pos (by decide)]
  refine wpAny_bind (applied_back hs ps ?_)
  have hno : ¬ ((((items.size : Int) - 1) == 0 && (-1 : Int) == 1 && items.size == items.size) = true) := by
    rw [show ((-1 : Int) == 1) = false by decide, Bool.and_false, Bool.false_and]
    exact Bool.false_ne_true
  show wpAny _ _ (if (((items.size : Int) - 1) == 0 && (-1 : Int) == 1 && items.size == items.size) = true then _ else _) _ _ s
  rw [if_neg hno, pick_back]
  first
    | exact wpAny_bind (m := Builtin.Tuple.tupleExact _) (wpAny_newObj_type (wpAny_pure ⟨_, rfl, wpAny_pure h⟩) hsz)
    | exact wpAny_bind (m := Builtin.Tuple.tupleExact _) (wpAny_newObj_type (wpAny_bind (wpAny_pure (wpAny_pure ⟨_, rfl, wpAny_pure h⟩))) hsz)
    | exact wpAny_bind (wpAny_bind (m := Builtin.Tuple.tupleExact _) (wpAny_newObj_type (wpAny_pure (wpAny_pure ⟨_, rfl, wpAny_pure h⟩)) hsz))
    | exact wpAny_bind (wpAny_bind (m := Builtin.Tuple.tupleExact _) (wpAny_newObj_type (wpAny_pure ⟨_, rfl, wpAny_pure h⟩) hsz))
def tRevT (K : PySem.W.Frag) (te : TE) : TE := fun σ H Q => te σ H fun x H1 => ∃ a xs, x = .ref a ∧ SqT K H1 a xs ∧ ∀ p, H1 p = none → Q (.ref p) (upd H1 p (.tup xs.reverse))
theorem pe_revT {e : Expr} {te : TE} {k : Nat} {p1 p2 p3 pos : Pos} (he : PE X e te) : PE X (.Subscript e (.Slice none none (some (.UnaryOp .USub (.Constant (.int 1) k p1) p2)) p3) pos) (tRevT X.K te) := by
  refine ⟨fun pins s σ H Q I h => Subscript_ (thn (he.run pins s σ H _ I h) fun v s1 ⟨x, H1, I1, r1, a, xs, ex, hx, q⟩ => ?_)⟩
  subst ex
  cases r1
  have hst : PO X (some (.UnaryOp .USub (.Constant (.int 1) k p1) p2)) (tPart (tUn (rU fun i => .int (-i)) (tC (.int 1)))) := po_some (pe_un un_neg pe_int)
  refine wpAny_Slice (thn (po_none.run pins s1 σ H1 (fun o H2 => o = none ∧ H2 = H1) I1 ⟨rfl, rfl⟩) fun vl s2 ⟨l, H2, I2, pl, el, e2⟩ => ?_)
  subst el e2
  cases pl
  refine thn (po_none.run pins s2 σ H2 (fun o H3 => o = none ∧ H3 = H2) I2 ⟨rfl, rfl⟩) fun vu s3 ⟨u, H3, I3, pu, eu, e3⟩ => ?_
  subst eu e3
  cases pu
  refine thn (hst.run pins s3 σ H3 (fun o H4 => o = some (-1) ∧ H4 = H3) I3 ⟨1, rfl, -1, rfl, rfl, rfl⟩) fun vs s4 ⟨o, H4, I4, ps, eo, e4⟩ => ?_
  subst eo e4
  have I5 : Inv X pins σ H4 { s4 with heap := s4.heap.push { cls := .type "slice", data := .fields #[.none, .none, vs] } } := I4.kept (t' := s4.toks) fun b ob q => Heap.get?_push_of_some _ q
  obtain ⟨its, r, ht, hz⟩ := I5.tuple hx
  have hlen := r.length
  refine tail_any (ops := [.ref a, .ref s4.heap.objs.size]) ht.typeIs PyProof.Rows.slot_tuple_getitem.lookup (getItem_back ht (Heap.IsSliceOf.new _ .none .none vs) ps (by rw [List.size_toArray]; omega) ?_) (by with_unfolding_all rfl)
  refine ⟨.ref _, _, I5.laid (t' := s4.toks) (o := .tup xs.reverse) (fun b ob q => Heap.get?_push_of_some _ q) (Nat.le_refl _) ?_, rfl, q _ (I5.hok.fresh (Nat.le_refl _))⟩
  exact ⟨by rw [List.length_reverse]; exact hz, _, r.reverse, IsTup.new _ _⟩
/-! ### () * k -/
theorem tuple_mulE (l : Addr) (n : Nat) (dd : Option Addr) (sl : Array (Option Value)) (u : Tok) :
    Meets (Builtin.«tuple.__mul__» ⟨[.ref l, .int 2 u], []⟩) (fun _ R s => s.heap.get? l = some { cls := .type "tuple", dict := dd, data := .seq #[] n, slots := sl } ∧ R (.ok (.ret (Value.ref l))) s) :=
  .of_wp fun prog w A R s h => by
    obtain ⟨hp, g, d, tk, os⟩ := s
    obtain ⟨hl, h⟩ := h
    have f1 := AutoSeq1.idx_int
    wp_walk using wpAny_loadPart' hl
    repeat (first
      | (refine wpAny_ite_false (decide_eq_false (by decide)) ?_; wp_walk using wpAny_loadPart' hl)
      | (refine wpAny_ite_true (decide_eq_true (by decide)) ?_; wp_walk using wpAny_loadPart' hl))
    all_goals first | exact ⟨_, rfl, h⟩ | skip
/-- t * 2 -/
def rTwice (K : PySem.W.Frag) : R2 := fun x y H Q => ∃ l xs, x = .ref l ∧ y = .int 2 ∧ SqT K H l xs ∧ xs.length ≤ 1000 ∧ (xs = [] → Q (.ref l) H) ∧ (xs ≠ [] → ∀ p, H p = none → Q (.ref p) (upd H p (.tup (xs ++ xs))))
theorem op_twice : OpR X (binaryOp .Mult) (rTwice X.K) := fun pins s σ H x y v u Q I rx ry ⟨l, xs, e1, e2, hT, hz, q0, q1⟩ => by
  subst e1 e2
  by_cases hx : xs = []
  · subst hx
    cases rx
    obtain ⟨t, rfl⟩ := ry
    obtain ⟨its, r, ⟨⟨cls, dd, data, sl⟩, ho, hc, n, hd⟩, hs⟩ := I.tuple hT
    simp only at hc hd
    subst hc hd
    cases r
    exact wpAny_binaryOp_repeat_ref (T := "tuple") (U := "int") (by decide) ⟨_, ho, rfl⟩ (fun s' => typeIs_int s' 2 t) noFill_tuple_mul F.fills_int_mul F.slot_int_rmul repeat_tuple F.slot_int_index.lookup
      (call_meets F.slot_int_rmul (typeIs_int s 2 t) F.entry_int_rmul (F.args_int_rmul_2 _ _) (int_rmul_tuple 2 t l #[] n dd sl) ⟨ho, rfl, ⟨_, ho, rfl⟩, call_meets F.slot_tuple_mul ⟨_, ho, rfl⟩ F.entry_tuple_mul (F.args_tuple_mul_2 _ _) (tuple_mulE l n dd sl t) ⟨ho, .ref l, H, I, rfl, q0 rfl⟩⟩)
  · refine op_repT pins s σ H _ _ v u Q I rx ry ⟨l, 2, xs, rfl, rfl, hT, hx, by decide, by decide, hz, fun p hp => ?_⟩
    have e : (List.replicate (2 : Int).toNat xs).flatten = xs ++ xs := by
      show (List.replicate 2 xs).flatten = _
      simp [List.replicate]
    rw [e]
    exact q1 hx p hp
end
end Hk
set_option Elab.async false
set_option linter.all false
set_option maxRecDepth 100000
set_option maxHeartbeats 4000000
set_option autoImplicit false
/-! HkR3: set(list of ints). -/
namespace Hk
open PySem PySem.Spec PyProof.Rows L2
section
variable {X : Cx}
/-! ### set(l), l a list of ints -/
theorem call_setL {P : Program} {w : World} {A : Around} {E : Value → Shared → Prop} {s : Shared} {l : Addr} {items : Array Value} (ns : List Int) {Q : Value → Shared → Prop} (hh : A.handled = none) (hl : s.heap.IsList l items) (hit : IntsAre items.toList ns) (hb : ns.length + 1 < scanBound)
    (h : ∀ (h' : Heap) (tk c : Nat), SetR w h' s.heap.objs.size (fun j => decide (j ∈ ns)) c → c ≤ ns.length → (∀ b o, s.heap.get? b = some o → h'.get? b = some o) → Q (.ref s.heap.objs.size) { s with heap := h', toks := tk }) :
    wpAny (model P w) A (call (.type "set") [.ref l]) Q E s := by
  have hisz : items.size = ns.length := by rw [← Array.length_toList]; exact IntsAre.length hit
  let eo : Obj := { cls := .type "set", dict := none, data := .set #[] 0 (.fresh 0 0 (!w.params.followText "set-order")) }
  let h1 := s.heap.push eo
  obtain ⟨c, tl, hmro⟩ := F.called_set.mro
  have hmade := F.called_set.made
  have hsub := F.called_set.sub
  refine wpAny_call (codeAny_of_tree ?_)
  show wpAny _ _ (callAny (.type "set") _) _ _ _
  refine wpAny_pure ⟨Code.quiet_builtin _ (by decide +kernel), codeAny_builtin F.entry_type_call ?_⟩
  rw [Around.under_plain (weight_type_call_type "set" [.ref l] []) rfl]
  have n1 := F.called_set.notType
  have n2 := F.called_set.canCreate
  have hct := F.typeCall_set_1 (.ref l)
  repeat (any_goals (first | assumption | wp_step))
  refine codeAny_mono (code_set_led1 (.ref l) (E := E) (Q₁ := fun obj s1 => obj = .ref s.heap.objs.size ∧ s1 = { s with heap := h1 }) ⟨rfl, rfl⟩) fun r s1 hr => ?_
  cases r with
  | error e => exact hr
  | ok fl =>
    cases fl with
    | ret obj =>
      obtain ⟨rfl, rfl⟩ := hr
      have hS : h1.get? s.heap.objs.size = some eo := Heap.get?_push_size _ rfl
      have hT : Shared.TypeIs { s with heap := h1 } (.ref s.heap.objs.size) "set" := ⟨_, hS, rfl⟩
      have hli := F.called_set.init.lookup
      have hbi := F.called_set.init.bind (.ref s.heap.objs.size)
      repeat (any_goals (first | assumption | wp_step))
      refine codeAny_mono (codeAny_call_builtin (R := wants (fun r s2 => r = .none ∧ ∃ h' tk c, s2 = { s with heap := h', toks := tk } ∧ SetR w h' s.heap.objs.size (fun j => decide (j ∈ ns)) c ∧ c ≤ ns.length ∧ ∀ b o, s.heap.get? b = some o → h'.get? b = some o) E)
        F.called_set.init.plain F.entry_set_init (check_set_init_1 hT ?_)) fun r2 s2 hr2 => ?_
      · obtain ⟨⟨ocls, odict, odata, oslots⟩, hol, hcl, nl, hdl⟩ := hl
        simp only at hcl hdl
        subst hcl hdl
        have hol1 : h1.get? l = some { cls := .type "list", dict := odict, data := .seq items nl, slots := oslots } := Heap.get?_push_of_some _ hol
        have hsls := F.sub_list_set
        have hslf := F.sub_list_frozenset
        have hne : (Value.type "list" == Value.type "dict") = false := by decide
        have hl1 : h1.IsList l items := ⟨_, hol1, rfl, nl, rfl⟩
        unfold Builtin.«set.__init__» noKeywords Builtin.Frozenset.updateFrom
        generalize hPI : pyIter = PI
        wp_walk
        subst hPI
        refine wpAny_pyIter_list hl1 (wpAny_bind (wpAny_runValue ?_))
        have hlS : l < s.heap.objs.size := Heap.lt_size hol
        have hh3 : A.in1.in1.in1.handled = none := by simp [hh]
        have hz1 : h1.objs.size = s.heap.objs.size + 1 := Heap.size_push ..
        have hneI : l ≠ h1.objs.size := by rw [hz1]; exact Nat.ne_of_lt (Nat.lt_succ_of_lt hlS)
        have hSf : s.heap.objs.size ∉ [h1.objs.size, l] := by
          rw [hz1]
          simp only [List.mem_cons, List.not_mem_nil, or_false, not_or]
          exact ⟨Nat.ne_of_lt (Nat.lt_succ_self _), Nat.ne_of_gt hlS⟩
        have hval : ∀ (i : Nat) (v : Value), items[i]? = some v → ∃ k t, ns[i]? = some k ∧ v = .int k t := fun i v hv => by
          have hi : i < ns.length := by rw [← hisz]; exact (Array.getElem?_eq_some_iff.mp hv).1
          obtain ⟨t, e⟩ := PyProof.Rows.IntsAre.int_at hit i v (by rw [Array.getElem?_toList]; exact hv)
          refine ⟨ns[i], t, List.getElem?_eq_getElem hi, ?_⟩
          rw [e, List.getD_eq_getElem?_getD, List.getElem?_eq_getElem hi] <;> rfl
        refine set_update_ints ((Walks.list hh3 _ l hneI items).toS) s.heap.objs.size hSf ns hisz hb hval (items.size - 0) 0 _ (by omega) (Nat.zero_le _) ⟨⟨_, Heap.get?_push_size _ rfl, rfl, rfl⟩, (hl1.push _)⟩ ?hS0 ?hR
        case hS0 => exact ⟨0, Nat.le_refl 0, setR_new_at (Heap.get?_push_of_some _ hS)⟩
        case hR =>
          intro s' c' hm hc' hS'
          obtain ⟨h', g2, d', tk', os'⟩ := s'
          have eg : g2 = s.gens := hm.gens
          have ed : d' = s.drawn := hm.drawn
          have eo' : os' = s.os := hm.os
          subst eg ed eo'
          show wpAny _ _ _ _ _ _
          refine wpAny_pure ?_
          show wpAny _ _ (ret Value.none) _ _ _
          rw [hisz] at hc'
          refine wpAny_pure ⟨rfl, h', tk', c', rfl, hS', hc', fun b o e => ?_⟩
          have hb0 : b < s.heap.objs.size := Heap.lt_size e
          have hb2 : b ≠ h1.objs.size := by rw [hz1]; exact Nat.ne_of_lt (Nat.lt_succ_of_lt hb0)
          exact hm.heap b o (by simp only [List.mem_cons, List.not_mem_nil, or_false, not_or]; exact ⟨Nat.ne_of_lt hb0, hb2⟩) (Heap.get?_push_of_some _ (Heap.get?_push_of_some _ e))
      · cases r2 with
        | error e => exact hr2
        | ok fl2 =>
          cases fl2 with
          | ret r =>
            obtain ⟨rfl, h', tk, c', rfl, hS', hc', hk'⟩ := hr2
            repeat (any_goals (first | assumption | wp_step))
            exact h _ _ _ hS' hc' hk'
          | _ => exact hr2.elim
    | _ => exact hr.elim
/-- set(l): some size n, the members those of l -/
def rSetL (K : PySem.W.Frag) (w : World) : List V → Hp → VK → Prop := fun vs H Q => ∃ (a : Addr) (ns : List Int), vs = [V.ref a] ∧ SqL K H a (ns.map V.int) ∧ ns.length ≤ 1000 ∧ ∀ p c, H p = none → c ≤ ns.length → Q (.ref p) (upd H p (SetO w p (fun k => decide (k ∈ ns)) c))
theorem cr_setL (hc : X.calm = true) : CallR X (.type "set") (rSetL X.K X.w) := fun pins s σ H vs us Q I r ⟨a, ns, e, hs, hn, q⟩ => by
  subst e
  rw [Vals.ref1 r]
  obtain ⟨its, rv, p, hz⟩ := I.list hs
  refine call_setL ns (I.ok.hd hc) p.isList (by simpa using Vals.ints rv) (Nat.lt_of_le_of_lt (Nat.add_le_add_right hn 1) (by decide)) fun h' tk c R hcl k => ?_
  exact ⟨.ref _, _, I.laid (t' := tk) k (Nat.le_refl _) (setO_new R), rfl, q _ c (I.hok.fresh (Nat.le_refl _)) hcl⟩
end
end Hk
set_option Elab.async false
set_option linter.all false
set_option maxRecDepth 100000
set_option maxHeartbeats 4000000
set_option autoImplicit false
/-! HkR4: min and sorted of data. -/
namespace Hk
open PySem PySem.Spec PyProof.Rows L2
section
variable {X : Cx}
/-! ### min(l), l a list of alike data -/
theorem dpAll_get {K : PySem.W.Frag} {H : Hp} : ∀ {vs : List V} {ds : List PyData} {i : Nat} {v : V}, DpAll K H vs ds → vs[i]? = some v → ∃ d, ds[i]? = some d ∧ Dp K H v d
  | _, _, i, _, .nil, h => by simp at h
  | _, _, 0, _, .cons r _, h => by
    simp at h
    subst h
    exact ⟨_, rfl, r⟩
  | _, _, i + 1, _, .cons _ t, h => by
    obtain ⟨d, h1, h2⟩ := dpAll_get (i := i) t (by simpa using h)
    exact ⟨d, by simpa using h1, h2⟩
def rMinD (K : PySem.W.Frag) : List V → Hp → VK → Prop := fun vs H Q => ∃ (a : Addr) (xs : List V) (d : PyData) (ds : List PyData), vs = [V.ref a] ∧ SqL K H a xs ∧ DpAll K H xs (d :: ds) ∧ PySem.W.AlikeAll (d :: ds) ∧ PyData.depthAll (d :: ds) ≤ 60 ∧
  ∀ (i : Nat) x, xs[i]? = some x → (d :: ds)[i]? = some (PySem.W.minD d ds) → Q x H
theorem cr_minD (hc : X.calm = true) (hu : X.A.units + 64 < cLine) : CallR X (.builtin "min") (rMinD X.K) := fun pins s σ H vs us Q I r ⟨a, xs, d, ds, e, hs, hd, hal, hdep, q⟩ => by
  subst e
  rw [Vals.ref1 r]
  obtain ⟨its, rv, p, hz⟩ := I.list hs
  obtain ⟨as, hr⟩ := Dp.readsAll I (d :: ds) xs its hd rv
  refine PySem.W.min_list_data (I.ok.hd hc) p.isList (x := d) (xs := ds) (as := as) (by simpa using hr) hal (by omega) fun i v h' tk bs hv hm k => ?_
  have hv' : its[i]? = some v := by simpa using hv
  have hx : i < xs.length := by
    rw [rv.length]
    exact (List.getElem?_eq_some_iff.mp hv').1
  obtain ⟨u, hu2, ru⟩ := rv.get (List.getElem?_eq_getElem hx)
  rw [hv'] at hu2
  cases hu2
  obtain ⟨e, he, de⟩ := dpAll_get hd (List.getElem?_eq_getElem hx)
  obtain ⟨bs2, r2⟩ := Dp.reads I e _ v de ru
  have r2' := PyProof.Rows.Reads.keeps (fun b o e => k b o e) r2
  have hem : e ∈ d :: ds := List.mem_of_getElem? he
  have hmm : PySem.W.minD d ds ∈ d :: ds := by
    have : ∀ (l : List PyData) (x : PyData), l.foldl (fun a y => if PySem.W.dataLt y a then y else a) x ∈ x :: l := fun l => by
      induction l with
      | nil => exact fun x => List.mem_cons_self
      | cons y l ih =>
        intro x
        rw [List.foldl_cons]
        have := ih (if PySem.W.dataLt y x then y else x)
        rcases List.mem_cons.mp this with z | z
        · rw [z]
          split
          · exact List.mem_cons_of_mem _ List.mem_cons_self
          · exact List.mem_cons_self
        · exact List.mem_cons_of_mem _ (List.mem_cons_of_mem _ z)
    exact this ds d
  have ee := PySem.W.alike_unique _ _ _ _ _ (hal.1 _ hem _ hmm) r2' hm
  exact ⟨xs[i], H, I.kept (t' := tk) k, ru, q i _ (List.getElem?_eq_getElem hx) (by rw [he, ee])⟩
/-! ### lists of ints by < -/
theorem lx_irr : ∀ a : List Int, HT.lexLt a a = false
  | [] => rfl
  | x :: a => by
    rw [HT.lexLt_cons, if_pos rfl]
    exact lx_irr a
theorem lx_asym : ∀ a b : List Int, HT.lexLt a b = true → HT.lexLt b a = false
  | [], [], _ => rfl
  | [], _ :: _, _ => rfl
  | _ :: _, [], h => by cases h
  | x :: a, y :: b, h => by
    rw [HT.lexLt_cons] at h ⊢
    by_cases e : x = y
    · rw [if_pos e] at h
      rw [if_pos e.symm]
      exact lx_asym a b h
    · rw [if_neg e] at h
      rw [if_neg fun z => e z.symm]
      have := of_decide_eq_true h
      exact decide_eq_false (by omega)
theorem lx_tot : ∀ a b : List Int, HT.lexLt a b = false → HT.lexLt b a = false → a = b
  | [], [], _, _ => rfl
  | [], _ :: _, h, _ => by cases h
  | _ :: _, [], _, h => by cases h
  | x :: a, y :: b, h, h' => by
    rw [HT.lexLt_cons] at h h'
    by_cases e : x = y
    · rw [if_pos e] at h
      rw [if_pos e.symm] at h'
      rw [e, lx_tot a b h h']
    · rw [if_neg e] at h
      rw [if_neg fun z => e z.symm] at h'
      have h1 := of_decide_eq_false h
      have h2 := of_decide_eq_false h'
      exact absurd (show x = y by omega) e
theorem lx_trn : ∀ a b c : List Int, HT.lexLt a b = true → HT.lexLt b c = true → HT.lexLt a c = true
  | [], [], [], h, _ => by cases h
  | [], _ :: _, [], _, h => by cases h
  | [], _, _ :: _, _, _ => rfl
  | _ :: _, [], _, h, _ => by cases h
  | _ :: _, _ :: _, [], _, h => by cases h
  | x :: a, y :: b, z :: c, h, h' => by
    rw [HT.lexLt_cons] at h h' ⊢
    by_cases e : x = y
    · rw [if_pos e] at h
      by_cases e2 : y = z
      · rw [if_pos e2] at h'
        rw [if_pos (e.trans e2)]
        exact lx_trn a b c h h'
      · rw [if_neg e2] at h'
        rw [if_neg fun q => e2 (e.symm.trans q), e]
        exact h'
    · rw [if_neg e] at h
      have h1 := of_decide_eq_true h
      by_cases e2 : y = z
      · rw [if_neg fun q => e (q.trans e2.symm), ← e2]
        exact h
      · rw [if_neg e2] at h'
        have h2 := of_decide_eq_true h'
        rw [if_neg (by omega)]
        exact decide_eq_true (by omega)
theorem lx_swo {α : Type} (f : α → List Int) : SrtO.Swo fun x y => HT.lexLt (f x) (f y) := by
  refine ⟨fun x y h => lx_asym _ _ h, fun x y z h1 h2 => ?_⟩
  rcases SrtO.bcase (HT.lexLt (f z) (f x)) with h | h
  · rcases SrtO.bcase (HT.lexLt (f y) (f z)) with q | q
    · have := lx_trn _ _ _ q h
      rw [h1] at this
      cases this
    · have e := lx_tot _ _ q h2
      rw [← e, h1] at h
      cases h
  · exact h
section
variable {prog : Program} {w : World} {A : Around} {E : Value → Shared → Prop} {s : Shared}
theorem lex_any {b : Bool} {Q : Bool → Shared → Prop} : ∀ {ns ms : List Int} {xs ys : List Value} (i : Nat), IntsAre xs ns → IntsAre ys ms → Q (HT.lexLt ns ms) s → PySem.W.KatLex prog w A b (decide (ns.length < ms.length)) Q (xs.zip ys) i s
  | [], [], _, _, i, hx, hy, h => by
    cases hx
    cases hy
    exact PySem.W.kat_nil h
  | [], m :: ms, _, _, i, hx, hy, h => by
    cases hx
    rw [List.zip_nil_left]
    have e : decide (([] : List Int).length < (m :: ms).length) = true := decide_eq_true (by simp)
    rw [e]
    exact PySem.W.kat_nil h
  | n :: ns, [], _, _, i, hx, hy, h => by
    cases hy
    rw [List.zip_nil_right]
    have e : decide ((n :: ns).length < ([] : List Int).length) = false := decide_eq_false (by simp)
    rw [e]
    exact PySem.W.kat_nil h
  | n :: ns, m :: ms, _, _, i, hx, hy, h => by
    cases hx with
    | cons p t hx =>
      cases hy with
      | cons q u hy =>
        rw [HT.lexLt_cons] at h
        refine PySem.W.kat_cons (wpAny_eqBool_int ?_)
        by_cases e : n = m
        · subst e
          rw [if_pos rfl] at h
          rw [beq_self_eq_true]
          have ed : decide ((n :: ns).length < (n :: ms).length) = decide (ns.length < ms.length) := decide_eq_decide.mpr (by simp)
          rw [ed]
          exact PySem.W.kat_yes (lex_any (i + 1) hx hy h)
        · rw [if_neg e] at h
          rw [show (n == m) = false from beq_eq_false_iff_ne.mpr e]
          exact PySem.W.kat_no (_root_.TS.oneLt_ints _ h)
/-- two tuples of ints, whatever kind of test the sort has chosen -/
theorem cmp_tups {κ : SortKind} (hk : κ = tuples' true ∨ κ = oneType' ∨ κ = general') (hu : A.units + 2 < cLine) {v u : Value} {ns ms : List Int} (hv : _root_.TS.TupInts s.heap v ns) (hw : _root_.TS.TupInts s.heap u ms) :
    wpAny (model prog w) A (keyLt' κ v u) (fun r s' => s' = s ∧ r = HT.lexLt ns ms) (fun _ _ => False) s := by
  obtain ⟨a, xs, rfl, ha, ia⟩ := hv
  obtain ⟨b, ys, rfl, hb, ib⟩ := hw
  obtain ⟨⟨c1, d1, t1, s1⟩, ho, hc, n, hd⟩ := id ha
  obtain ⟨⟨c2, d2, t2, s2⟩, ho2, hc2, n2, hd2⟩ := id hb
  simp only at hc hd hc2 hd2
  subst hc hd hc2 hd2
  have l1 : xs.size = ns.length := by rw [← Array.length_toList]; exact IntsAre.length ia
  have l2 : ys.size = ms.length := by rw [← Array.length_toList]; exact IntsAre.length ib
  rcases hk with e | e | e <;> subst e
  · refine PySem.W.kat_lt ho rfl ho2 rfl ?_
    rw [l1, l2]
    exact lex_any 0 ia ib ⟨rfl, rfl⟩
  · rw [keyLt'_oneType, oneLt'_eq]
    simp only [if_true]
    refine wpAny_bind (wpAny_cRoomFor (by omega) (wpAny_bind (wpAny_callSpecialIfBound?_slot (T := "tuple") ⟨_, ho, rfl⟩ F.slot_tuple_lt (call_meets F.slot_tuple_lt ⟨_, ho, rfl⟩ F.entry_tuple_lt (F.args_tuple_lt_2 _ _) (HT.tuple_lt_ints a b xs ys n n2 d1 d2 s1 s2 ns ms ia ib) ⟨ho, ho2, ?_⟩))))
    exact wpAny_truthy_bool ⟨rfl, rfl⟩
  · show wpAny (model prog w) A (oneLt' false (.ref a) (.ref b)) _ _ s
    exact PySem.W.kat_one _ _ (HT.lt_tupInts ha hb ia ib (by omega) ⟨rfl, rfl⟩)
/-- the first items, of any tuples of ints -/
theorem firsts_any {M : Model} : ∀ (vs : List Value) {Q : List (Option Value) → Shared → Prop}, (∀ v ∈ vs, ∃ ns, _root_.TS.TupInts s.heap v ns) → (∀ fs : List (Option Value), fs.length = vs.length → (∀ (i : Nat) (v : Value), vs[i]? = some v → ∃ (a : Addr) (o : Obj) (xs : Array Value) (n : Nat), v = Value.ref a ∧ s.heap.get? a = some o ∧ o.cls = .type "tuple" ∧ o.data = .seq xs n ∧ fs[i]? = some xs[0]?) → Q fs s) → wpAny M A (vs.mapM firstOfTuple') Q E s
  | [], Q, _, h => by
    rw [List.mapM_nil]
    exact wpAny_pure (h [] rfl fun i v q => by simp at q)
  | v :: vs, Q, hv, h => by
    obtain ⟨ns, a, xs, rfl, ⟨o, ho, hc, n, hd⟩, _⟩ := hv _ List.mem_cons_self
    rw [List.mapM_cons]
    refine wpAny_bind ?_
    rw [PySem.W.kas_first_eq]
    refine wpAny_bind (PySem.W.Looks.here (show PySem.W.Looks M s.heap (typeOf (.ref a)) o.cls from (PySem.W.Looks.ld ho).andThen .now) ?_)
    rw [hc, if_neg (by first | decide | simp)]
    refine wpAny_bind (listItems_at ho hd (wpAny_pure ?_))
    refine wpAny_bind (firsts_any vs (fun u hu => hv u (List.mem_cons_of_mem _ hu)) fun fs hl hf => wpAny_pure (h _ (by simp [hl]) fun i v q => ?_))
    cases i with
    | zero =>
      simp at q
      subst q
      exact ⟨a, o, xs, n, rfl, ho, hc, hd, rfl⟩
    | succ i => exact hf i v (by simpa using q)
/-- the kind of test that the sort finds for tuples of ints -/
theorem kind_any {M : Model} {vs : List Value} (h2 : 2 ≤ vs.length) (hv : ∀ v ∈ vs, ∃ ns, _root_.TS.TupInts s.heap v ns) : ∃ κ, (κ = tuples' true ∨ κ = oneType' ∨ κ = general') ∧ ∀ (Q : SortKind → Shared → Prop) (E : Value → Shared → Prop), Q κ s → wpAny M A (keyKind' vs.toArray) Q E s := by
  by_cases hall : ∀ v ∈ vs, ∃ n ns, _root_.TS.TupInts s.heap v (n :: ns)
  · refine ⟨tuples' true, .inl rfl, fun Q E hq => ?_⟩
    have key : ∀ us : List Value, (∀ v ∈ us, ∃ n ns, _root_.TS.TupInts s.heap v (n :: ns)) → ∃ fs, PySem.W.KatTups s.heap us fs ∧ fs.length = us.length ∧ ∀ f ∈ fs, ∃ n t, f = Value.int n t := fun us => by
      induction us with
      | nil => exact fun _ => ⟨[], .nil, rfl, by simp⟩
      | cons v us ih =>
        intro h
        obtain ⟨fs, t1, t2, t3⟩ := ih fun u hu => h u (List.mem_cons_of_mem _ hu)
        obtain ⟨n, ns, a, xs, rfl, ⟨o, ho, hc, m, hd⟩, ia⟩ := h v List.mem_cons_self
        cases e : xs.toList with
        | nil =>
          rw [e] at ia
          cases ia
        | cons f fr =>
          rw [e] at ia
          cases ia with
          | cons p t ia =>
            refine ⟨Value.int n t :: fs, .cons ho hc hd ?_ t1, by simp [t2], fun f hf => ?_⟩
            · rw [← Array.getElem?_toList, e]
              rfl
            · rcases List.mem_cons.mp hf with z | z
              · exact ⟨n, t, z⟩
              · exact t3 f z
    obtain ⟨fs, t1, t2, t3⟩ := key vs hall
    refine PySem.W.kat_kind (T := .type "int") t1 (by omega) (fun f hf => ?_) (by rfl) ?_
    · obtain ⟨n, t, rfl⟩ := t3 f hf
      exact PySem.W.Looks.now
    · have e : (Value.type "int" != Value.type "tuple") = true := by first | decide +kernel | rfl | decide
      rw [e]
      exact hq
  · obtain ⟨v0, hv0, hno⟩ : ∃ v ∈ vs, ∀ n ns, ¬ _root_.TS.TupInts s.heap v (n :: ns) := by
      refine Classical.byContradiction fun h => hall fun v hm => Classical.byContradiction fun h' => h ⟨v, hm, fun n ns t => h' ⟨n, ns, t⟩⟩
    -- which of the two kinds hangs on the first tuple alone
    obtain ⟨v1, r, rfl⟩ : ∃ v1 r, vs = v1 :: r := by
      cases vs with
      | nil => simp at h2
      | cons v1 r => exact ⟨v1, r, rfl⟩
    obtain ⟨ns1, h1⟩ := hv v1 List.mem_cons_self
    have common : ∀ {Q : SortKind → Shared → Prop} {E : Value → Shared → Prop}, (∀ fs : List (Option Value), fs.length = (v1 :: r).length → (ns1 = [] ∧ fs[0]? = some none ∨ ns1 ≠ [] ∧ ∃ f, fs[0]? = some (some f)) → wpAny M A (if (fs.toArray[0]?.bind id).isSome then return general' else return if (← oneTypeOnly' (v1 :: r).toArray).isSome then oneType' else general') Q E s) → wpAny M A (keyKind' (v1 :: r).toArray) Q E s := fun {Q E} h => by
      rw [keyKind'_eq, List.mapM_toArray, map_eq_pure_bind]
      refine wpAny_bind (wpAny_bind (firsts_any (v1 :: r) hv fun fs hl hf => wpAny_pure ?_))
      have hn : ¬ (fs.toArray.all fun x => x.isSome) = true := fun z => by
        obtain ⟨j, hj⟩ := List.mem_iff_getElem?.mp hv0
        obtain ⟨a, o, xs, n, e1, ho, hc, hd, hfx⟩ := hf j v0 hj
        have z2 : ∀ x ∈ fs, x.isSome = true := by simpa using z
        have z3 := z2 _ (List.mem_of_getElem? hfx)
        obtain ⟨ns0, a', xs', e1', ⟨o', ho', hc', n', hd'⟩, ia⟩ := hv v0 hv0
        rw [e1] at e1'
        cases e1'
        rw [ho] at ho'
        cases ho'
        rw [hd] at hd'
        cases hd'
        cases e : xs.toList with
        | nil =>
          have : xs = #[] := by simpa using congrArg List.toArray e
          subst this
          simp at z3
        | cons f fr =>
          rw [e] at ia
          cases ia with
          | cons p t ia => exact hno _ _ ⟨a, xs, e1, ⟨o, ho, hc, n, hd⟩, by rw [e]; exact .cons _ _ ia⟩
      rw [if_neg hn]
      refine h fs hl ?_
      obtain ⟨a, o, xs, n, e1, ho, hc, hd, hfx⟩ := hf 0 v1 rfl
      obtain ⟨a', xs', e1', ⟨o', ho', hc', n', hd'⟩, ia⟩ := h1
      rw [e1] at e1'
      cases e1'
      rw [ho] at ho'
      cases ho'
      rw [hd] at hd'
      cases hd'
      rw [hfx]
      cases ns1 with
      | nil =>
        have : xs.toList = [] := by
          cases e : xs.toList with
          | nil => rfl
          | cons f fr =>
            rw [e] at ia
            cases ia
        have : xs = #[] := by simpa using congrArg List.toArray this
        subst this
        exact .inl ⟨rfl, rfl⟩
      | cons n1 ns1 =>
        refine .inr ⟨List.cons_ne_nil _ _, ?_⟩
        cases e : xs.toList with
        | nil =>
          rw [e] at ia
          cases ia
        | cons f fr =>
          exact ⟨f, by rw [← Array.getElem?_toList, e]; rfl⟩
    cases ns1 with
    | nil =>
      refine ⟨oneType', .inr (.inl rfl), fun Q E hq => common fun fs hl h0 => ?_⟩
      have e : (fs.toArray[0]?.bind id).isSome = false := by
        rcases h0 with ⟨_, h0⟩ | ⟨h0, _⟩
        · rw [List.getElem?_toArray, h0]
          rfl
        · exact absurd rfl h0
      rw [if_neg (by rw [e]; exact Bool.false_ne_true), oneTypeOnly'_eq, List.mapM_toArray, map_eq_pure_bind]
      refine wpAny_bind (wpAny_bind (wpAny_bind (PySem.W.kas_mapM (r := Value.type "tuple") _ (fun v hm Q' hq => ?_) (wpAny_pure ?_))))
      · obtain ⟨ns, a, xs, rfl, ⟨o, ho, hc, n, hd⟩, _⟩ := hv v hm
        exact PySem.W.Looks.here (show PySem.W.Looks M s.heap (typeOf (.ref a)) (.type "tuple") from hc ▸ (PySem.W.Looks.ld ho).andThen .now) hq
      · have ha : ((List.map (fun _ => Value.type "tuple") (v1 :: r)).toArray.all fun x => x == Value.type "tuple") = true := by
          rw [List.all_toArray, List.all_map]
          exact List.all_eq_true.mpr fun _ _ => by
            show (Value.type "tuple" == Value.type "tuple") = true
            exact beq_self_eq_true _
        simp only [List.map_cons] at ha
        simp only [List.map_cons, ha, if_true, List.getElem?_toArray, List.getElem?_cons_zero]
        exact wpAny_pure (wpAny_pure hq)
    | cons n1 ns1 =>
      refine ⟨general', .inr (.inr rfl), fun Q E hq => common fun fs hl h0 => ?_⟩
      have e : (fs.toArray[0]?.bind id).isSome = true := by
        rcases h0 with ⟨h0, _⟩ | ⟨_, f, h0⟩
        · exact absurd h0 (List.cons_ne_nil _ _)
        · rw [List.getElem?_toArray, h0]
          rfl
      rw [if_pos e]
      exact wpAny_pure hq
theorem tups_keep {h h' : Heap} {v : Value} {ns : List Int} (k : ∀ b o, o.cls = .type "tuple" → h.get? b = some o → h'.get? b = some o) (t : _root_.TS.TupInts h v ns) : _root_.TS.TupInts h' v ns := by
  obtain ⟨a, xs, e, ⟨o, ho, hc, m, hd⟩, ia⟩ := t
  exact ⟨a, xs, e, ⟨o, k a o hc ho, hc, m, hd⟩, ia⟩
/-- tuples of ints can be sorted -/
theorem tups_sortable {a : Addr} {vs : List Value} {k : Value → List Int} (h2 : 2 ≤ vs.length) (hu : A.units + 2 < cLine) (hp : ∀ v ∈ vs, _root_.TS.TupInts s.heap v (k v)) (ha : ∀ o, s.heap.get? a = some o → o.cls ≠ .type "tuple") : SrtO.SortableO prog w A s a vs fun v u => HT.lexLt (k v) (k u) := by
  intro h' keep
  have hp' : ∀ v ∈ vs, _root_.TS.TupInts h' v (k v) := fun v hm => tups_keep (fun b o c e => keep b o (fun z => by subst z; exact ha o e c) e) (hp v hm)
  obtain ⟨κ, hk, hq⟩ := kind_any (A := A) (M := model prog w) (s := { s with heap := h' }) h2 fun v hm => ⟨_, hp' v hm⟩
  exact ⟨κ, hq, fun p q m1 m2 => cmp_tups hk hu (hp' _ m1) (hp' _ m2)⟩
/-- sorted(v), v anything that is collected -/
theorem sorted_gen {v : Value} {vs : List Value} {ltv : Value → Value → Bool} {Q : Value → Shared → Prop} (O : SrtO.Swo ltv) (hz : vs.length ≤ sizeLine)
    (hcol : ∀ (Q' : List Value → Shared → Prop) (E' : Value → Shared → Prop), (∀ (h' : Heap) (tk : Nat), (∀ b o, s.heap.get? b = some o → h'.get? b = some o) → s.heap.objs.size ≤ h'.objs.size → Q' vs { s with heap := h', toks := tk }) → wpAny (model prog w) A.in1 (collect v) Q' E' s)
    (hS : 2 ≤ vs.length → ∀ (s₁ : Shared) (a : Addr), s₁.heap.get? a = some (seqObj "list" vs.toArray 0) → (∀ b o, s.heap.get? b = some o → s₁.heap.get? b = some o) → SrtO.SortableO prog w A.in1.in1 s₁ a vs ltv)
    (h : ∀ (out : List Value) (h' : Heap) (d : Addr) (tk : Nat), SrtO.Srtd ltv out → SrtO.Stb ltv out vs → (∀ b o, s.heap.get? b = some o → h'.get? b = some o) → s.heap.objs.size ≤ d → (∃ n, h'.get? d = some (seqObj "list" out.toArray n)) → Q (.ref d) { s with heap := h', toks := tk }) :
    wpAny (model prog w) A (call (.builtin "sorted") [v]) Q E s := by
  refine Calls.call_function_entry kind_sorted plain_sorted entry_sorted (args_sorted1 _) ?_
  unfold Builtin.«sorted»
  refine wpAny_bind (m := checkCount "sorted" 1 1 _) (wpAny_pure ?_)
  refine wpAny_bind (hcol _ _ fun h1 tk k1 z1 => ?_)
  refine wpAny_bind (wpAny_newList ?_ hz)
  have hoL : (h1.push (seqObj "list" vs.toArray 0)).get? h1.objs.size = some (seqObj "list" vs.toArray 0) := Heap.get?_push_size _ rfl
  have keep : ∀ b o, s.heap.get? b = some o → (h1.push (seqObj "list" vs.toArray 0)).get? b = some o := fun b o q => Heap.get?_push_of_some _ (k1 b o q)
  refine wpAny_bind (wpAny_holding (wpAny_call_entry (s := { s with heap := h1.push (seqObj "list" vs.toArray 0), toks := tk }) slot_list_sort ⟨_, hoL, rfl⟩ entry_list_sort (SrtO.list_sort_ord O hoL hz (fun h2 => hS h2 _ _ hoL keep) fun out hs hb => ⟨_, rfl, ?_⟩) (args_list_sort _)))
  refine wpAny_pure ⟨_, rfl, h out _ _ tk hs hb (fun b o q => ?_) z1 (sortedHeap_at hoL)⟩
  have hlt : b < s.heap.objs.size := Heap.lt_size q
  rw [sortedHeap_old (Nat.ne_of_lt (Nat.lt_of_lt_of_le hlt z1)) (by rw [size_push']; exact Nat.lt_succ_of_lt (Nat.lt_of_lt_of_le hlt z1))]
  exact keep b o q
end
end
end Hk
set_option Elab.async false
set_option linter.all false
set_option maxRecDepth 100000
set_option maxHeartbeats 4000000
set_option autoImplicit false
/-! HkR5: sorted of tuples of ints; views of keys. -/
namespace Hk
open PySem PySem.Spec PyProof.Rows L2
/-- v names a tuple of these ints -/
def TupI (H : Hp) (x : V) (ns : List Int) : Prop := ∃ t, x = .ref t ∧ H t = some (.tup (ns.map V.int))
abbrev ltU (k : V → List Int) (x y : V) : Bool := HT.lexLt (k x) (k y)
def rSortedU (K : PySem.W.Frag) : List V → Hp → VK → Prop := fun vs H Q => ∃ (a : Addr) (xs : List V) (k : V → List Int), vs = [V.ref a] ∧ SqL K H a xs ∧ (∀ x ∈ xs, TupI H x (k x)) ∧
  ∀ ys p, SrtO.Srtd (ltU k) ys → ys.Perm xs → H p = none → Q (.ref p) (upd H p (.lst ys))
section
variable {X : Cx}
theorem ints_of_vals : ∀ {ns : List Int} {us : List Value}, Vals (ns.map V.int) us → IntsAre us ns
  | [], _, h => by
    cases h
    exact .nil
  | n :: ns, _, h => by
    have h' : Vals (V.int n :: ns.map V.int) _ := h
    cases h' with
    | cons r t =>
      obtain ⟨t', rfl⟩ := r
      exact .cons n t' (ints_of_vals t)
theorem tupI_ok {P : Program} {w : World} {H : Hp} {h : Heap} (ok : HOk P w H h) {x : V} {ns : List Int} (q : TupI H x ns) : ∃ t, x = .ref t ∧ _root_.TS.TupInts h (.ref t) ns := by
  obtain ⟨t, e, ht⟩ := q
  obtain ⟨_, its, r, p⟩ := ok _ _ ht
  exact ⟨t, e, t, its.toArray, rfl, p, by simpa using ints_of_vals r⟩
/-- the part behind the collecting -/
theorem sortedU_core {pins : List (Addr × Obj)} {s : Shared} {σ : L2.St} {H : Hp} {v : Value} {its : List Value} {xs : List V} {k : V → List Int} {Q : VK} (hu : X.A.units + 64 < cLine) (I : Inv X pins σ H s) (rv : Vals xs its) (hz : xs.length ≤ sizeLine) (hx : ∀ x ∈ xs, TupI H x (k x))
    (hcol : ∀ (Q' : List Value → Shared → Prop) (E' : Value → Shared → Prop), (∀ (h' : Heap) (tk : Nat), (∀ b o, s.heap.get? b = some o → h'.get? b = some o) → s.heap.objs.size ≤ h'.objs.size → Q' its { s with heap := h', toks := tk }) → wpAny (model X.prog X.w) X.A.in1 (collect v) Q' E' s)
    (q : ∀ ys p, SrtO.Srtd (ltU k) ys → ys.Perm xs → H p = none → Q (.ref p) (upd H p (.lst ys))) : wpAny (model X.prog X.w) X.A (call (.builtin "sorted") [v]) (EP X pins σ Q) X.xe s := by
  obtain ⟨e1, e2⟩ := refs_back rv fun x m => by
    obtain ⟨t, e, _⟩ := hx x m
    exact ⟨t, e⟩
  have hk : ∀ u ∈ its, _root_.TS.TupInts s.heap u (k (backV u)) := fun u hu => by
    obtain ⟨t, rfl⟩ := e2 u hu
    have hm : V.ref t ∈ xs := by rw [e1]; exact List.mem_map.mpr ⟨_, hu, rfl⟩
    obtain ⟨t', e, q⟩ := tupI_ok I.hok (hx _ hm)
    cases e
    exact q
  refine sorted_gen (ltv := fun u u' => HT.lexLt (k (backV u)) (k (backV u'))) (lx_swo _) (by rw [← rv.length]; exact hz) hcol (fun h2 s₁ a ha kk => ?_) fun out h' d tk h1 h2 kp hd hn => ?_
  · refine tups_sortable h2 (by show X.A.units + 2 + 2 < cLine; omega) (fun u hm => tups_keep (fun b o _ e => kk b o e) (hk u hm)) fun o e => ?_
    have e' : some o = some (seqObj "list" its.toArray 0) := e.symm.trans ha
    cases e'
    intro c
    exact absurd (Value.type.inj c) (by decide)
  · have h3 : ∀ u ∈ out, ∃ a, u = Value.ref a := fun u hu => e2 u (h2.perm.mem_iff.mp hu)
    obtain ⟨n, hn⟩ := hn
    have hb : SrtO.Stb (ltU k) (out.map backV) xs := by
      rw [e1]
      exact SrtO.Stb.map (lx_swo k) backV h2
    refine ⟨.ref d, upd H d (.lst (out.map backV)), I.laid (t' := tk) kp hd ⟨?_, out, n, vals_back h3, hn⟩, rfl, q _ d (SrtO.srtd_map h1) hb.perm (I.hok.fresh hd)⟩
    rw [hb.len]
    exact hz
theorem cr_sortedU (hu : X.A.units + 64 < cLine) : CallR X (.builtin "sorted") (rSortedU X.K) := fun pins s σ H vs us Q I r ⟨a, xs, k, e, hs, hx, q⟩ => by
  subst e
  rw [Vals.ref1 r]
  obtain ⟨its, rv, hl, hz⟩ := I.list hs
  refine sortedU_core hu I rv hz hx (fun Q' E' h => collect_list hl.isList ?_ (by rw [← rv.length]; exact hz)) q
  refine h _ s.toks (fun b o q => ?_) (by rw [Heap.size_update, size_push']; omega)
  rw [Heap.get?_update_ne _ _ _ _ (Nat.ne_of_lt (Heap.lt_size q))]
  exact Heap.get?_push_of_some _ q
/-! ### d.keys() as a value -/
def kvw (r d : Addr) : HO := .ext fun h => PySem.W.KdlKeysView h r d
def tKeysV (td : TE) : TE := fun σ H Q => td σ H fun x H1 => ∃ d kvs, x = .ref d ∧ Rd H1 d (.dT kvs) ∧ ∀ r, H1 r = none → Q (.ref r) (upd H1 r (kvw r d))
theorem dT_raw {P : Program} {w : World} {H : Hp} {h : Heap} {d : Addr} {kvs : List (List Key × V)} (ok : HOk P w H h) (hd : Rd H d (.dT kvs)) : ∃ es ep, h.DictRaw d es ep ∧ (d == sysModules) = false := by
  obtain ⟨z, hs, ks, pr, o, es, ep, ho, hx, hdt, he, hn⟩ := (show ObjOk P w H h d (.dT kvs) from hd.ok ok)
  exact ⟨es, ep, ⟨o, ho, hx, hdt⟩, hs⟩
theorem pe_keysV {e : Expr} {td : TE} {apos cpos : Pos} (he : PE X e td) (hbase : attributeBase e "keys" X.env (eval e X.env) = eval e X.env := by rfl) (hline : (apos.endLine == cpos.line) = true := by rfl) : PE X (.Call (.Attribute e "keys" apos) [] [] cpos) (tKeysV td) := by
  refine ⟨fun pins s σ H Q I h => ?_⟩
  refine wpAny_Call_method (T := "dict") (id := "dict.keys") hbase rfl hline F.plainAttrs_dict F.slot_dict_keys F.type_dict_keys (thn (he.run pins s σ H _ I h) fun u s1 ⟨x, H1, I1, rx, d, kvs, ex, hd, q⟩ => ?_)
  subst ex
  obtain rfl : u = Value.ref d := rx
  obtain ⟨es, ep, hm, hs⟩ := dT_raw I1.hok hd
  refine ⟨hm.typeIs, fun a e => ?_, ?_⟩
  · cases e
    obtain ⟨o, ho, hx, _⟩ := hm
    exact ⟨o, ho, hx.2.1⟩
  · have hv : PySem.W.KdlKeysView (s1.heap.push { cls := .type "dict_keys", data := .fields #[.ref d] }) s1.heap.objs.size d := ⟨_, Heap.get?_push_size _ rfl, rfl, rfl⟩
    have fin : EP X pins σ Q (.ref s1.heap.objs.size) { s1 with heap := s1.heap.push { cls := .type "dict_keys", data := .fields #[.ref d] } } :=
      ⟨.ref s1.heap.objs.size, _, I1.laid (t' := s1.toks) (o := kvw s1.heap.objs.size d) (fun b ob q => Heap.get?_push_of_some _ q) (Nat.le_refl _) ⟨hv, ⟨_, Heap.get?_push_size _ rfl⟩, fun h1 h2 ⟨o, ho, x⟩ k => ⟨o, k _ ho, x⟩⟩, rfl, q _ (I1.hok.fresh (Nat.le_refl _))⟩
    show wpAny _ _ (callWith cpos (.builtin "dict.keys") [.ref d] [] []) _ X.xe s1
    exact method_meetsIn F.slot_dict_keys F.entry_dict_keys rfl (PySem.evalArgs_none ⟨rfl, hm.typeIs, F.args_dict_keys_1 _, _, meets_dict_keys_raw d hs, ⟨es, ep, hm⟩, fin⟩)
/-! ### sorted(d.keys()) -/
theorem collect_src {prog : Program} {w : World} {A : Around} {E : Value → Shared → Prop} {s : Shared} {T : String} {r d : Addr} {n : Nat} {P : Nat → Value → Prop} {OK : Heap → Prop} {Q : List Value → Shared → Prop} (K : PySem.W.KdlSrc prog w T r d n P OK) (hh : A.handled = none) (hok : OK s.heap) (hn : n ≤ sizeLine)
    (hQ : ∀ h' tk (acc' : Array Value), (∀ b o, s.heap.get? b = some o → h'.get? b = some o) → s.heap.objs.size ≤ h'.objs.size → ItemsOf P acc' n → Q acc'.toList { s with heap := h', toks := tk }) : wpAny (model prog w) A (collect (.ref r)) Q E s := by
  have hlt := K.there _ hok
  unfold collect
  refine wpAny_bind (wpAny_runValue (codeAny_builtin F.entry_proto_collect ?_))
  rw [Around.under_plainId F.plain_proto_collect _]
  show wpAny _ A.in1 (newList [] >>= fun l => again (.builtin "list.__iadd__" ⟨[l, .ref r], []⟩)) _ _ s
  refine wpAny_bind (wpAny_newObj_type ?_)
  refine wpAny_pure ⟨plainId_quiet F.plain_list_iadd _, codeAny_builtin F.entry_list_iadd ?_⟩
  rw [Around.under_plainId F.plain_list_iadd _]
  show wpAny _ A.in1 (Builtin.List.listExtendWith (.ref s.heap.objs.size) (.ref r) (.ref s.heap.objs.size)) _ _ _
  have hS : (s.heap.push { cls := .type "list", data := .seq ([] : List Value).toArray }).get? s.heap.objs.size = some { cls := .type "list", data := .seq #[] 0 } := Heap.get?_push_size _ rfl
  refine wpAny_mono (PySem.W.kdl_extend (A := A) (R := fun rr s' => rr = .ok (.ret (.ref s.heap.objs.size)) ∧ ∃ (h' : Heap) (tk : Nat) (acc : Array Value) (c' : Nat), s' = { s with heap := h', toks := tk } ∧
      (∀ b o, s.heap.get? b = some o → h'.get? b = some o) ∧ h'.get? s.heap.objs.size = some { cls := .type "list", dict := none, data := .seq acc c', slots := #[] } ∧ ItemsOf P acc n)
    (s := { s with heap := s.heap.push { cls := .type "list", data := .seq ([] : List Value).toArray } }) K hh (K.keep _ _ hok fun b _ o e => Heap.get?_push_of_some _ e) s.heap.objs.size (Nat.ne_of_gt hlt.1) (Nat.ne_of_gt hlt.2) _ 0 hS
    (fun h' tk acc c' hk e hi => ⟨rfl, h', tk, acc, c', rfl, fun b o q => hk b o (Nat.ne_of_lt (Heap.lt_size q)) (Heap.get?_push_of_some _ q), e, hi⟩) hn) (fun fin s' h => ?_) (fun e s' h => ?_)
  · cases fin with
    | done f =>
      obtain ⟨e, h', tk, acc, c', rfl, hk, hS', hi⟩ := h
      cases e
      show wpAny _ A (load s.heap.objs.size >>= _) _ _ _
      exact wpAny_bind (wpAny_load hS' (wpAny_pure (hQ h' tk acc hk (Nat.le_of_lt (Heap.lt_size hS')) hi)))
    | again c' =>
      refine ⟨h.1, codeAny_mono h.2 fun rr s'' hr' => ?_⟩
      obtain ⟨rfl, h', tk, acc, c', rfl, hk, hS', hi⟩ := hr'
      show wpAny _ A (load s.heap.objs.size >>= _) _ _ _
      exact wpAny_bind (wpAny_load hS' (wpAny_pure (hQ h' tk acc hk (Nat.le_of_lt (Heap.lt_size hS')) hi)))
  · exact absurd h.1 (by simp)
def unI : V → Int
  | .int i => i
  | _ => 0
def kOf (H : Hp) : V → List Int
  | .ref t => match H t with
    | some (.tup vs) => vs.map unI
    | _ => []
  | _ => []
theorem unI_map : ∀ ns : List Int, (ns.map V.int).map unI = ns
  | [] => rfl
  | n :: ns => by rw [List.map_cons, List.map_cons, unI_map ns] <;> rfl
theorem kOf_of {H : Hp} {x : V} {ns : List Int} (h : TupI H x ns) : kOf H x = ns := by
  obtain ⟨t, rfl, ht⟩ := h
  unfold kOf
  simp only [ht]
  exact unI_map ns
theorem kV_ints : ∀ ns : List Int, (ns.map (Sum.inl : Int → Key)).map kV = ns.map V.int
  | [] => rfl
  | n :: ns => by rw [List.map_cons, List.map_cons, kV_ints ns] <;> rfl
theorem paired_self {α β : Type} {R : α → β → Prop} {f : α → β} : ∀ {l : List α}, (∀ x ∈ l, R x (f x)) → Paired R l (l.map f)
  | [], _ => .nil
  | x :: l, h => .cons (h x List.mem_cons_self) (paired_self fun y hy => h y (List.mem_cons_of_mem _ hy))
/-- sorted(d.keys()), the keys tuples of ints -/
def rSortedKV : List V → Hp → VK → Prop := fun vs H Q => ∃ (r d : Addr) (kvs : List (List Key × V)) (ks : List (List Int)), vs = [V.ref r] ∧ H r = some (kvw r d) ∧ Rd H d (.dT kvs) ∧ kvs.map (·.1) = ks.map (fun n => n.map Sum.inl) ∧
  ∀ (ys : List V) (js : List (List Int)) p, js.Perm ks → js.Pairwise (fun x y => HT.lexLt y x = false) → Paired (fun y j => TupI H y j) ys js → H p = none → Q (.ref p) (upd H p (.lst ys))
theorem cr_sortedKV (hc : X.calm = true) (hu : X.A.units + 64 < cLine) : CallR X (.builtin "sorted") rSortedKV := fun pins s σ H vs us Q I rr ⟨r, d, kvs, ks, e, hr, hd, hks, q⟩ => by
  subst e
  rw [Vals.ref1 rr]
  obtain ⟨z, hs, xs, pr, o, es, ep, ho, hx, hdt, he, hn⟩ := (show ObjOk X.prog X.w H s.heap d (.dT kvs) from hd.ok I.hok)
  have l1 : es.size = xs.length := size_of_entries he
  have l2 : kvs.length = xs.length := Paired.length pr
  have hv : PySem.W.KdlKeysView s.heap r d := (show ObjOk X.prog X.w H s.heap r (kvw r d) from I.hok r _ hr).1
  have hk1 : ∀ (i : Nat) (x : List Key × Addr × Value), xs[i]? = some x → ∃ ns, ks[i]? = some ns ∧ TupI H (.ref x.2.1) ns := fun i x hi => by
    have hlt : i < kvs.length := by
      rw [l2]
      exact (List.getElem?_eq_some_iff.mp hi).1
    obtain ⟨b, hb, e1, e2, _⟩ := paired_get pr (List.getElem?_eq_getElem hlt)
    rw [hi] at hb
    cases hb
    have h3 : (kvs.map (·.1))[i]? = some kvs[i].1 := by rw [List.getElem?_map, List.getElem?_eq_getElem hlt] <;> rfl
    rw [hks, List.getElem?_map] at h3
    cases h4 : ks[i]? with
    | none =>
      rw [h4] at h3
      cases h3
    | some ns =>
      rw [h4] at h3
      have h5 : ns.map Sum.inl = kvs[i].1 := Option.some.inj h3
      exact ⟨ns, rfl, x.2.1, rfl, by rw [e2, ← h5, kV_ints]⟩
  have lk : ks.length = xs.length := by
    have := congrArg List.length hks
    rw [List.length_map, List.length_map] at this
    omega
  have hks2 : (xs.map fun x => V.ref x.2.1).map (kOf H) = ks := by
    apply List.ext_getElem?
    intro i
    rw [List.getElem?_map, List.getElem?_map]
    cases h : xs[i]? with
    | none =>
      have := List.getElem?_eq_none_iff.mp h
      rw [List.getElem?_eq_none (by omega)]
      rfl
    | some x =>
      obtain ⟨ns, h1, h2⟩ := hk1 i x h
      rw [h1]
      exact congrArg some (kOf_of h2)
  have hall : ∀ y ∈ xs.map (fun x => V.ref x.2.1), TupI H y (kOf H y) := fun y hy => by
    obtain ⟨x, hx, rfl⟩ := List.mem_map.mp hy
    obtain ⟨i, hi⟩ := List.mem_iff_getElem?.mp hx
    obtain ⟨ns, h1, h2⟩ := hk1 i x hi
    rw [kOf_of h2]
    exact h2
  have rv : Vals (xs.map fun x => V.ref x.2.1) ((xs.map fun x => x.2.1).map Value.ref) := by
    have := vals_refs (xs.map fun x => x.2.1)
    rwa [List.map_map] at this
  refine sortedU_core (k := kOf H) hu I rv (by rw [List.length_map]; omega) hall (fun Q' E' h => ?_) fun ys p h1 h2 h3 => ?_
  · refine collect_src (KdlSrc.rawKeys (es := es) (ep := ep)) (I.ok.hd hc) ⟨hv, o, ho, hx, hdt⟩ (by omega) fun h' tk acc k1 k2 it => ?_
    have ea : acc.toList = (xs.map fun x => x.2.1).map Value.ref := by
      have hl : acc.toList.length = xs.length := by rw [Array.length_toList, it.1]; exact l1
      apply List.ext_getElem?
      intro j
      rw [List.getElem?_map, List.getElem?_map]
      cases hj : acc.toList[j]? with
      | none =>
        have h1 := List.getElem?_eq_none_iff.mp hj
        rw [List.getElem?_eq_none (by omega)]
        rfl
      | some v =>
        obtain ⟨hi, hv⟩ := it.2 j v (by rw [← Array.getElem?_toList]; exact hj)
        have qe := entry_at he j
        rw [Array.getElem?_eq_getElem hi] at qe
        cases hb : xs[j]? with
        | none =>
          rw [hb] at qe
          cases qe
        | some b =>
          rw [hb] at qe
          have e2 : es[j] = entryOfKey (tupleKind (mixKind X.prog X.w)) b := Option.some.inj qe
          rw [hv, e2]
          rfl
    rw [ea]
    exact h h' tk k1 k2
  · refine q ys (ys.map (kOf H)) p ?_ ?_ (paired_self fun y hy => hall y (h2.mem_iff.mp hy)) h3
    · have := h2.map (kOf H)
      rwa [hks2] at this
    · exact SrtO.srtd_map (lt := HT.lexLt) h1
/-! ### for k in d.keys(), the dict locked -/
def iKeysTM (td : TE) : TI := fun σ H R => td σ H fun x H1 => ∃ d o kvs, x = .ref d ∧ H1 d = some (.frz o (.dT kvs)) ∧ R (Itkt d o kvs) H1
theorem pi_keysTM {tg e : Expr} {td : TE} {apos cpos : Pos} (he : PE X e td) (hbase : attributeBase e "keys" X.env (eval e X.env) = eval e X.env := by rfl) (hline : (apos.endLine == cpos.line) = true := by rfl) : PI X tg (.Call (.Attribute e "keys" apos) [] [] cpos) (iKeysTM td) := by
  refine ⟨fun pins s σ H R I h => ?_⟩
  refine wpAny_Call_method (T := "dict") (id := "dict.keys") hbase rfl hline F.plainAttrs_dict F.slot_dict_keys F.type_dict_keys (thn (he.run pins s σ H _ I h) fun u s1 ⟨x, H1, I1, rx, d, o, kvs, ex, hd, q⟩ => ?_)
  subst ex
  obtain rfl : u = Value.ref d := rx
  obtain ⟨hs, hgd, hx, es, ep, hdt, hsz, ent⟩ := I1.frzT hd
  have hm : s1.heap.DictRaw d es ep := ⟨o, hgd, hx, hdt⟩
  refine ⟨hm.typeIs, fun a e => ?_, ?_⟩
  · cases e
    exact ⟨o, hgd, hx.2.1⟩
  have I2 : Inv X pins σ H1 { s1 with heap := s1.heap.push { cls := .type "dict_keys", data := .fields #[.ref d] } } := I1.kept (t' := s1.toks) fun b ob q => Heap.get?_push_of_some _ q
  have fin : wpAny (model X.prog X.w) X.A (pyIter (.ref s1.heap.objs.size)) (PIE X pins σ tg R) X.xe { s1 with heap := s1.heap.push { cls := .type "dict_keys", data := .fields #[.ref d] } } := by
    refine wpAny_pyIter_keys_raw (d := d) ⟨_, Heap.get?_push_size _ rfl, rfl, rfl⟩ (hm.push _) (pi_one (tk := s1.toks) I2 _ (turn_keysT _ hdt) ⟨_, Heap.get?_push_size _ rfl, rfl, ?_⟩ q)
    rw [hsz] <;> rfl
  show wpAny _ _ (callWith cpos (.builtin "dict.keys") [.ref d] [] []) _ X.xe s1
  exact method_meetsIn F.slot_dict_keys F.entry_dict_keys rfl (PySem.evalArgs_none ⟨rfl, hm.typeIs, F.args_dict_keys_1 _, _, meets_dict_keys_raw d hs, ⟨es, ep, hm⟩, fin⟩)
end
end Hk
set_option Elab.async false
set_option linter.all false
set_option maxRecDepth 100000
set_option maxHeartbeats 4000000
set_option autoImplicit false
/-! HkR6: a display with one tuple key; sorted of a tuple of ints. -/
namespace Hk
open PySem PySem.Spec PyProof.Rows L2
section
variable {X : Cx}
/-- {k: v}, k a tuple -/
def tDispT1 (tk tv : TE) : TE := fun σ H Q => ∀ p, H p = none → tPairs [(tk, tv)] σ (upd H p (.dT [])) fun ps H2 => H2 p = some (.dT []) ∧ ∃ (b : Addr) (k : List Key) (y : V), ps = [(.ref b, y)] ∧ H2 b = some (.tup (k.map kV)) ∧ Q (.ref p) (upd H2 p (.dT [(k, y)]))
theorem pe_dispT1 {pos : Pos} {k v : Expr} {tk tv : TE} (hu : X.A.units + 1 < cLine) (hk : PE X k tk) (hv : PE X v tv) : PE X (.Dict [some k] [v] pos) (tDispT1 tk tv) := by
  refine ⟨fun pins s σ H Q I q => ?_⟩
  have hn := I.hok.fresh (Nat.le_refl s.heap.objs.size)
  have I1 := I.laid (a := s.heap.objs.size) (o := .dT []) (h' := s.heap.push { cls := .type "dict", data := .dict #[] }) (t' := s.toks) (fun _ _ q => Heap.get?_push_of_some _ q) (Nat.le_refl _) (dt_empty s.heap I.big)
  have hp : PPs X pos [some k] [v] [(tk, tv)] := pps_cons hk hv pps_nil
  rw [arm_eval_Dict, zip_pairTrees [some k] [v] X.env pos (by rfl) (by rfl), dictDisplay_pairs _ (fun e => by cases e) (by show 1 < _; decide)]
  refine wpAny_bind (wpAny_standAt (wpAny_bind (wpAny_subDictH (knd := tupleKind (mixKind X.prog X.w)) (Q := fun d s' => wpAny (model X.prog X.w) X.A (pure (Value.ref d)) (EP X pins σ Q) X.xe s') (by have := hu; show X.A.units < cLine; omega) (by show 1 ≤ 15; decide) ?_)))
  refine thn (hp.run pins _ σ _ _ I1 (q _ hn)) fun ws s2 ⟨ps, H2, I2, rel, e1, b, kk, y, eps, hb, q2⟩ => ?_
  · subst eps
    obtain ⟨u1, u2, ew, r1, r2⟩ : ∃ u1 u2, ws = [(u1, u2)] ∧ RelV (.ref b) u1 ∧ RelV y u2 := by
      cases rel with
      | cons r rr =>
        cases rr
        exact ⟨_, _, rfl, r.1, r.2⟩
    subst ew
    cases (show u1 = Value.ref b from r1)
    obtain ⟨z, hd, xs, r0, dd⟩ := dt_of I2.hok e1
    cases r0
    refine ⟨[(kk, b, u2)], ⟨rfl, rfl, key_of I2.hok hb, trivial⟩, dd, fun h' tk dd' hs => wpAny_pure ⟨.ref s.heap.objs.size, _, ?_, rfl, q2⟩⟩
    obtain ⟨o, es, ep, ho, h2, h3, h4, _, h5⟩ := dd'
    refine d_write I2 (by rw [e1]; exact True.intro) hs ⟨o, ho⟩ ⟨by show 1 ≤ sizeLine; decide, hd, [(kk, b, u2)], .cons ⟨rfl, ?_, r2⟩ .nil, o, es, ep, ho, h2, h3, h4, h5⟩
    rw [upd_ne (ne_of hb e1 (fun z => nomatch z))]
    exact hb
/-! ### sorted(t), t a tuple of ints -/
theorem collect_seq {prog : Program} {w : World} {A : Around} {E : Value → Shared → Prop} {s : Shared} {Q : List Value → Shared → Prop} (it : Addr) {T : String} {o : Obj} {items : Array Value} {n : Nat} (hT : T = "list" ∨ T = "tuple") (ho : s.heap.get? it = some o) (hc : o.cls = .type T) (hd : o.data = .seq items n) (hz : items.size ≤ sizeLine)
    (hQ : ∀ (h' : Heap), (∀ b o, s.heap.get? b = some o → h'.get? b = some o) → s.heap.objs.size ≤ h'.objs.size → Q items.toList { s with heap := h' }) : wpAny (model prog w) A (collect (.ref it)) Q E s := by
  unfold collect
  refine wpAny_bind (wpAny_runValue (codeAny_builtin F.entry_proto_collect ?_))
  rw [Around.under_plainId F.plain_proto_collect _]
  show wpAny _ A.in1 (newList [] >>= fun l => again (.builtin "list.__iadd__" ⟨[l, .ref it], []⟩)) _ _ s
  refine wpAny_bind (wpAny_newObj_type ?_)
  refine wpAny_pure ⟨plainId_quiet F.plain_list_iadd _, codeAny_builtin F.entry_list_iadd ?_⟩
  rw [Around.under_plainId F.plain_list_iadd _]
  show wpAny _ A.in1 (Builtin.List.listExtendWith (.ref s.heap.objs.size) (.ref it) (.ref s.heap.objs.size)) _ _ _
  have hS : (s.heap.push { cls := .type "list", data := .seq ([] : List Value).toArray }).get? s.heap.objs.size = some { cls := .type "list", data := .seq #[] 0 } := Heap.get?_push_size _ rfl
  have fin : wpAny (model prog w) A (load s.heap.objs.size >>= fun o => match o.data with | Data.seq xs _ => pure xs.toList | _ => unsupported "internal:collect") Q E { s with heap := (s.heap.push { cls := .type "list", data := .seq ([] : List Value).toArray }).update s.heap.objs.size (Obj.mapSeq (· ++ items)) } := by
    refine wpAny_bind (wpAny_load (Heap.get?_update_self (Obj.mapSeq (· ++ items)) hS rfl) (wpAny_pure ?_))
    show Q ((#[] : Array Value) ++ items).toList _
    rw [show ((#[] : Array Value) ++ items).toList = items.toList by simp]
    refine hQ _ (fun b o' hb => (Heap.get?_update_other _ _ (Nat.ne_of_gt (Heap.lt_size hb))).trans (Heap.get?_push_of_some _ hb)) ?_
    rw [Heap.size_update, size_push']
    exact Nat.le_succ _
  refine wpAny_mono (wpAny_extend_seq (hsz := hz) (A := A) (R := fun r s' => r = .ok (.ret (.ref s.heap.objs.size)) ∧ s' = { s with heap := (s.heap.push { cls := .type "list", data := .seq ([] : List Value).toArray }).update s.heap.objs.size (Obj.mapSeq (· ++ items)) })
    (s := { s with heap := s.heap.push { cls := .type "list", data := .seq ([] : List Value).toArray } }) _ it _ 0 hT hS (Heap.get?_push_of_some _ ho) hc hd ⟨rfl, rfl⟩) (fun fl s' h => ?_) fun e s' h => ?_
  · cases fl with
    | done f =>
      obtain ⟨e, rfl⟩ := h
      cases e
      exact fin
    | again c' => exact ⟨h.1, codeAny_mono h.2 fun r s'' hr => by
        obtain ⟨rfl, rfl⟩ := hr
        exact fin⟩
  · exact absurd h.1 (by simp)
def rSortedTI (K : PySem.W.Frag) : List V → Hp → VK → Prop := fun vs H Q => ∃ (a : Addr) (ns : List Int), vs = [V.ref a] ∧ SqT K H a (ns.map V.int) ∧
  ∀ (ms : List Int) (p : Addr), ms.Perm ns → ms.Pairwise (· ≤ ·) → H p = none → Q (.ref p) (upd H p (.lst (ms.map V.int)))
theorem cr_sortedTI : CallR X (.builtin "sorted") (rSortedTI X.K) := fun pins s σ H vs us Q I r ⟨a, ns, e, hs, q⟩ => by
  subst e
  rw [Vals.ref1 r]
  obtain ⟨its, rv, ⟨o, ho, hc, n, hd⟩, hz⟩ := I.tuple hs
  have hi := rv.ints
  refine sorted_gen (vs := its) SrtO.swo_int (by rw [← rv.length]; exact hz) (fun Q' E' h => collect_seq a (.inr rfl) ho hc hd (by rw [List.size_toArray, ← rv.length]; exact hz) fun h' k1 k2 => h h' s.toks k1 k2) (fun h2 s₁ a' _ _ => SrtO.ints_sortable hi h2) fun out h' d tk h1 h2 kp hdz hn => ?_
  obtain ⟨k1, k2, k3⟩ := SrtO.ints_out hi h1 h2
  obtain ⟨n', hn⟩ := hn
  have hlen : ((out.map SrtO.iv).map V.int).length ≤ sizeLine := by
    rw [List.length_map, k2.length_eq]
    rw [List.length_map] at hz
    exact hz
  exact ⟨.ref d, upd H d (.lst ((out.map SrtO.iv).map V.int)), I.laid (t' := tk) kp hdz ⟨hlen, out, n', vals_of_ints k1, hn⟩, rfl, q _ _ k2 k3 (I.hok.fresh hdz)⟩
end
end Hk
set_option Elab.async false
set_option linter.all false
set_option maxRecDepth 100000
set_option maxHeartbeats 4000000
set_option autoImplicit false
/-! HkB: what the built-ins give, by data. -/
namespace Hk
open PySem PySem.Spec PyProof.Rows L2
section
variable {K : PySem.W.Frag}
abbrev eT (ns : List Int) : PyData := .tuple (eIs ns)
abbrev eL (ns : List Int) : PyData := .list (eIs ns)
abbrev eP (p : Int × Int) : PyData := .tuple [.int p.1, .int p.2]
theorem plain_ints : ∀ ns : List Int, plainAll (eIs ns) = true
  | [] => rfl
  | n :: ns => by
    show (plain (.int n) && plainAll (eIs ns)) = true
    rw [plain_ints ns]
    rfl
theorem lay_ints : ∀ ns : List Int, PyData.canLayAll0 (eIs ns) = true
  | [] => rfl
  | n :: ns => by
    show (PyData.canLay0 (.int n) && PyData.canLayAll0 (eIs ns)) = true
    rw [lay_ints ns]
    rfl
theorem dep_ints : ∀ ns : List Int, PyData.depthAll (eIs ns) ≤ 1
  | [] => by decide
  | n :: ns => by
    show max (PyData.depth (.int n)) (PyData.depthAll (eIs ns)) ≤ 1
    have h := dep_ints ns
    have h2 : PyData.depth (.int n) ≤ 1 := by simp [PyData.depth]
    omega
theorem dep_list (xs : List PyData) : PyData.depth (.list xs) = PyData.depthAll xs + 1 := by first | rfl | simp [PyData.depth]
theorem dep_tuple (xs : List PyData) : PyData.depth (.tuple xs) = PyData.depthAll xs + 1 := by first | rfl | simp [PyData.depth]
theorem shaped_L (ns : List Int) : SeqAt.shaped (eL ns) = true := shaped_of (lay_ints ns) (by
  have := dep_ints ns
  have h : PyData.depth (eL ns) = PyData.depthAll (eIs ns) + 1 := dep_list _
  omega)
theorem shaped_T (ns : List Int) : SeqAt.shaped (eT ns) = true := shaped_of (lay_ints ns) (by
  have := dep_ints ns
  have h : PyData.depth (eT ns) = PyData.depthAll (eIs ns) + 1 := dep_tuple _
  omega)
theorem eqvAll_ints : ∀ a b : List Int, PyData.eqvAll (eIs a) (eIs b) = decide (a = b)
  | [], [] => rfl
  | [], _ :: _ => rfl
  | _ :: _, [] => rfl
  | x :: a, y :: b => by
    show (PyData.eqv (.int x) (.int y) && PyData.eqvAll (eIs a) (eIs b)) = _
    rw [eqvAll_ints a b]
    show ((x == y) && _) = _
    by_cases h1 : x = y
    · subst h1
      simp
    · have : (x == y) = false := by simpa using h1
      rw [this]
      simp [h1]
theorem eqv_L (a b : List Int) : PyData.eqv (eL a) (eL b) = decide (a = b) := eqvAll_ints a b
theorem eqv_T (a b : List Int) : PyData.eqv (eT a) (eT b) = decide (a = b) := eqvAll_ints a b
theorem rd_eqL (a b : List Int) : RD (rEqD K) (eL a) (eL b) (.bool (decide (a = b))) := by
  rw [← eqv_L]
  exact rd_eq (plain_ints a) (plain_ints b) (shaped_L a) (shaped_L b)
theorem rd_neL (a b : List Int) : RD (rNeD K) (eL a) (eL b) (.bool (!decide (a = b))) := by
  rw [← eqv_L]
  exact rd_ne (plain_ints a) (plain_ints b) (shaped_L a) (shaped_L b)
theorem rd_eqT (a b : List Int) : RD (rEqD K) (eT a) (eT b) (.bool (decide (a = b))) := by
  rw [← eqv_T]
  exact rd_eq (plain_ints a) (plain_ints b) (shaped_T a) (shaped_T b)
theorem rd_neT (a b : List Int) : RD (rNeD K) (eT a) (eT b) (.bool (!decide (a = b))) := by
  rw [← eqv_T]
  exact rd_ne (plain_ints a) (plain_ints b) (shaped_T a) (shaped_T b)
theorem rd_eqNT (b : List Int) : RD (rEqD K) .none (eT b) (.bool false) := rd_eq (x := .none) rfl (plain_ints b) rfl (shaped_T b)
theorem rd_eqI (a b : Int) : RD (rEqD K) (.int a) (.int b) (.bool (decide (a = b))) := by
  have h : RD (rEqD K) (.int a) (.int b) (.bool (a == b)) := rd_eq (x := .int a) (y := .int b) rfl rfl rfl rfl
  have e : (a == b) = decide (a = b) := by
    by_cases h : a = b
    · subst h
      simp
    · simp [h]
  rw [← e]
  exact h
theorem rd_neI (a b : Int) : RD (rNeD K) (.int a) (.int b) (.bool (!decide (a = b))) := by
  have h : RD (rNeD K) (.int a) (.int b) (.bool (!(a == b))) := rd_ne (x := .int a) (y := .int b) rfl rfl rfl rfl
  have e : (a == b) = decide (a = b) := by
    by_cases h : a = b
    · subst h
      simp
    · simp [h]
  rw [← e]
  exact h
theorem rd_eqB (a b : Bool) : RD (rEqD K) (.bool a) (.bool b) (.bool (a == b)) := rd_eq (x := .bool a) (y := .bool b) rfl rfl rfl rfl
theorem rd_neB (a b : Bool) : RD (rNeD K) (.bool a) (.bool b) (.bool (!(a == b))) := rd_ne (x := .bool a) (y := .bool b) rfl rfl rfl rfl
/-- a list of shaped data against the empty one -/
theorem rd_eqNil (xs : List PyData) (h1 : plainAll xs = true) (h2 : SeqAt.shaped (.list xs) = true) : RD (rEqD K) (.list xs) (.list []) (.bool (decide (xs = []))) := by
  have h := rd_eq (K := K) (x := .list xs) (y := .list []) h1 rfl h2 rfl
  have e : PyData.eqv (.list xs) (.list []) = decide (xs = []) := by
    cases xs with
    | nil => rfl
    | cons x xs => rfl
  rw [← e]
  exact h
theorem rd_neNil (xs : List PyData) (h1 : plainAll xs = true) (h2 : SeqAt.shaped (.list xs) = true) : RD (rNeD K) (.list xs) (.list []) (.bool (!decide (xs = []))) := by
  have h := rd_ne (K := K) (x := .list xs) (y := .list []) h1 rfl h2 rfl
  have e : PyData.eqv (.list xs) (.list []) = decide (xs = []) := by
    cases xs with
    | nil => rfl
    | cons x xs => rfl
  rw [← e]
  exact h
/-! ### in -/
theorem inV_ints (k : Int) : ∀ ns : List Int, inV (.int k) (ns.map V.int) = decide (k ∈ ns)
  | [] => rfl
  | n :: ns => by
    have h := inV_ints k ns
    unfold inV at h ⊢
    rw [List.map_cons, List.any_cons, h]
    show ((n == k) || _) = _
    by_cases e : n = k
    · subst e
      simp
    · have : (n == k) = false := by simpa using e
      rw [this]
      have e' : ¬ k = n := fun z => e z.symm
      simp [e']
theorem flat_ints (ns : List Int) : (ns.map V.int).all flatV = true := by
  rw [List.all_map]
  exact List.all_eq_true.mpr fun _ _ => rfl
theorem rd_inT (k : Int) (ns : List Int) : RD (rIn K false) (.int k) (eT ns) (.bool (decide (k ∈ ns))) := rd_of (fun _ => .bl _) fun S H a b Q w ra rb q => by
  cases ra
  cases rb with
  | tup h1 h2 =>
    rw [RpAll.ints_inv h2] at h1
    refine ⟨_, _, rfl, .inr (.inl (.inl ((hid_sub S H) _ _ h1))), rfl, flat_ints ns, ?_⟩
    rw [if_neg Bool.false_ne_true, inV_ints]
    exact q
theorem rd_inL (k : Int) (ns : List Int) : RD (rIn K false) (.int k) (eL ns) (.bool (decide (k ∈ ns))) := rd_of (fun _ => .bl _) fun S H a b Q w ra rb q => by
  cases ra
  cases rb with
  | lst h1 h2 =>
    rw [RpAll.ints_inv h2] at h1
    refine ⟨_, _, rfl, .inl (.inl (.inl ((hid_sub S H) _ _ h1))), rfl, flat_ints ns, ?_⟩
    rw [if_neg Bool.false_ne_true, inV_ints]
    exact q
theorem rd_ninT (k : Int) (ns : List Int) : RD (rIn K true) (.int k) (eT ns) (.bool (!decide (k ∈ ns))) := rd_of (fun _ => .bl _) fun S H a b Q w ra rb q => by
  cases ra
  cases rb with
  | tup h1 h2 =>
    rw [RpAll.ints_inv h2] at h1
    refine ⟨_, _, rfl, .inr (.inl (.inl ((hid_sub S H) _ _ h1))), rfl, flat_ints ns, ?_⟩
    rw [if_pos rfl, inV_ints]
    exact q
theorem rd_ninL (k : Int) (ns : List Int) : RD (rIn K true) (.int k) (eL ns) (.bool (!decide (k ∈ ns))) := rd_of (fun _ => .bl _) fun S H a b Q w ra rb q => by
  cases ra
  cases rb with
  | lst h1 h2 =>
    rw [RpAll.ints_inv h2] at h1
    refine ⟨_, _, rfl, .inl (.inl (.inl ((hid_sub S H) _ _ h1))), rfl, flat_ints ns, ?_⟩
    rw [if_pos rfl, inV_ints]
    exact q
theorem plain_pairs : ∀ E : List (Int × Int), plainAll (E.map eP) = true
  | [] => rfl
  | p :: E => by
    show (plain (eP p) && plainAll (E.map eP)) = true
    rw [plain_pairs E]
    rfl
theorem lay_pairs : ∀ E : List (Int × Int), PyData.canLayAll0 (E.map eP) = true
  | [] => rfl
  | p :: E => by
    show (PyData.canLay0 (eP p) && PyData.canLayAll0 (E.map eP)) = true
    rw [lay_pairs E]
    rfl
theorem dep_pairs : ∀ E : List (Int × Int), PyData.depthAll (E.map eP) ≤ 2
  | [] => by decide
  | p :: E => by
    show max (PyData.depth (eP p)) (PyData.depthAll (E.map eP)) ≤ 2
    have h := dep_pairs E
    have h2 : PyData.depth (eP p) = PyData.depthAll (eIs [p.1, p.2]) + 1 := dep_tuple _
    have h3 := dep_ints [p.1, p.2]
    omega
theorem shaped_pairs (E : List (Int × Int)) : SeqAt.shaped (.tuple (E.map eP)) = true := shaped_of (lay_pairs E) (by
  have := dep_pairs E
  have h : PyData.depth (.tuple (E.map eP)) = PyData.depthAll (E.map eP) + 1 := dep_tuple _
  omega)
theorem any_pairs (p : Int × Int) : ∀ E : List (Int × Int), ((E.map eP).any fun z => PyData.eqv z (eP p)) = decide (p ∈ E)
  | [] => rfl
  | q :: E => by
    rw [List.map_cons, List.any_cons, any_pairs p E]
    have e : PyData.eqv (eP q) (eP p) = decide (q = p) := by
      have := eqv_T [q.1, q.2] [p.1, p.2]
      refine this.trans (decide_eq_decide.mpr ?_)
      refine ⟨fun h => ?_, fun h => by rw [h]⟩
      have h1 := (List.cons.inj h).1
      have h2 := (List.cons.inj (List.cons.inj h).2).1
      exact Prod.ext h1 h2
    rw [e]
    by_cases h : q = p
    · subst h
      simp
    · have h' : ¬ p = q := fun z => h z.symm
      simp [h, h']
theorem rd_inP (p : Int × Int) (E : List (Int × Int)) : RD (rInDT K) (eP p) (.tuple (E.map eP)) (.bool (decide (p ∈ E))) := rd_of (fun _ => .bl _) fun S H a b Q w ra rb q => by
  refine ⟨eP p, E.map eP, (ra.ex (hid_sub S H)).dp _ rfl, (rb.ex (hid_sub S H)).dp _ (plain_pairs E), shaped_T [p.1, p.2], shaped_pairs E, ?_⟩
  rw [any_pairs]
  exact q
/-! ### built-in calls -/
theorem rc_lenL (xs : List PyData) : RCD (Evl.rLenS K) [.list xs] (.int xs.length) := fun S H vs Q w r k => by
  cases r with
  | cons r rr =>
    cases rr
    cases r with
    | lst h1 h2 =>
      refine ⟨_, _, rfl, .inl (.of ((hid_sub S H) _ _ h1)), ?_⟩
      rw [h2.length]
      exact k _ H (Evl.Ex.refl H) (.int _)
theorem rc_lenT (xs : List PyData) : RCD (Evl.rLenS K) [.tuple xs] (.int xs.length) := fun S H vs Q w r k => by
  cases r with
  | cons r rr =>
    cases rr
    cases r with
    | tup h1 h2 =>
      refine ⟨_, _, rfl, .inr (.inl (.inl ((hid_sub S H) _ _ h1))), ?_⟩
      rw [h2.length]
      exact k _ H (Evl.Ex.refl H) (.int _)
def rTupleS (K : PySem.W.Frag) : List V → Hp → VK → Prop := fun xs H Q => ∃ p ys, xs = [.ref p] ∧ ((SqL K H p ys ∧ ∀ l, H l = none → Q (.ref l) (upd H l (.tup ys))) ∨ (SqT K H p ys ∧ Q (.ref p) H))
theorem rc_tuple (xs : List PyData) : RCD (rTupleS K) [.list xs] (.tuple xs) := fun S H vs Q w r k => by
  cases r with
  | cons r rr =>
    cases rr
    cases r with
    | lst h1 h2 => exact ⟨_, _, rfl, .inl ⟨.of ((hid_sub S H) _ _ h1), fun l hl => k _ _ (Evl.Ex.new hl) (rp_newT w hl h2)⟩⟩
theorem rc_list (xs : List PyData) : RCD (Evl.rListS K) [.tuple xs] (.list xs) := fun S H vs Q w r k => by
  cases r with
  | cons r rr =>
    cases rr
    cases r with
    | tup h1 h2 => exact ⟨_, _, rfl, .inr (.inl (.inl ((hid_sub S H) _ _ h1))), fun l hl => k _ _ (Evl.Ex.new hl) (rp_newL w hl h2)⟩
theorem asc_sorted {ms ms' : List Int} (h : ms.Perm ms') (h1 : ms.Pairwise (· ≤ ·)) (h2 : ms'.Pairwise (· ≤ ·)) : ms = ms' := h.eq_of_pairwise (fun a b _ _ p q => Int.le_antisymm p q) h1 h2
theorem rc_sortedL {ns ms : List Int} (hp : ms.Perm ns) (hs : ms.Pairwise (· ≤ ·)) : RCD (rSortedI K) [eL ns] (eL ms) := fun S H vs Q w r k => by
  cases r with
  | cons r rr =>
    cases rr
    cases r with
    | lst h1 h2 =>
      rw [RpAll.ints_inv h2] at h1
      refine ⟨_, ns, rfl, .of ((hid_sub S H) _ _ h1), fun ns' p hp' hs' hn => k _ _ (Evl.Ex.new hn) ?_⟩
      rw [asc_sorted (hp'.trans hp.symm) hs' hs]
      exact rp_newL w hn (RpAll.ints _ ms)
theorem rc_sortedT {ns ms : List Int} (hp : ms.Perm ns) (hs : ms.Pairwise (· ≤ ·)) : RCD (rSortedTI K) [eT ns] (eL ms) := fun S H vs Q w r k => by
  cases r with
  | cons r rr =>
    cases rr
    cases r with
    | tup h1 h2 =>
      rw [RpAll.ints_inv h2] at h1
      refine ⟨_, ns, rfl, .inl (.inl ((hid_sub S H) _ _ h1)), fun ns' p hp' hs' hn => k _ _ (Evl.Ex.new hn) ?_⟩
      rw [asc_sorted (hp'.trans hp.symm) hs' hs]
      exact rp_newL w hn (RpAll.ints _ ms)
/-- sorted(set(l)) -/
theorem ev_dsort {w : World} {te : TE} {ds : Sl} {ns ms : List Int} (h : EvS te ds (eL ns)) (hl : ns.length < 64) (hs : ms.Pairwise (· < ·)) (hm : ∀ k, k ∈ ms ↔ k ∈ ns) : EvS (tCB (rSortedSet w) (tCons (tCB (rSetL K w) (tCons te tNil)) tNil)) ds (eL ms) := fun F O σ H Q wO hs0 k =>
  h F O σ H _ wO hs0 fun v d ds1 O1 H1 t1 r1 ⟨e1, e2⟩ => by
    subst e1 e2
    cases r1 with
    | lst h1 h2 =>
      rw [RpAll.ints_inv h2] at h1
      refine ⟨_, ns, rfl, .of ((hid_sub _ _) _ _ h1), by omega, fun p c hp hc => ?_⟩
      refine ⟨p, _, c, rfl, upd_same, by omega, fun ms' q hs' hm' _ hq => ?_⟩
      have e : ms' = ms := asc_ext hs' hs fun x => (hm' x).trans (decide_eq_true_iff.trans (hm x).symm)
      have ex : Ex H1 (upd (upd H1 p (SetO w p (fun k => decide (k ∈ ns)) c)) q (.lst (ms'.map V.int))) := (Evl.Ex.new hp).trans (Evl.Ex.new hq)
      rw [e] at ex ⊢
      refine k _ _ _ O1 _ (t1.more ex) (rp_newL ?_ hq (RpAll.ints _ ms)) ⟨rfl, rfl⟩
      exact t1.own.ex (Evl.Ex.new hp)
theorem rc_sum (ns : List Int) : RCD (rSum K) [eL ns] (.int ns.sum) := fun S H vs Q w r k => by
  cases r with
  | cons r rr =>
    cases rr
    cases r with
    | lst h1 h2 =>
      rw [RpAll.ints_inv h2] at h1
      exact ⟨_, ns, rfl, .of ((hid_sub S H) _ _ h1), k _ H (Evl.Ex.refl H) (.int _)⟩
def rInt1 : List V → Hp → VK → Prop := fun xs H Q => (∃ i, xs = [.int i] ∧ Q (.int i) H) ∨ ∃ k, xs = [.bl k] ∧ Q (.int (if k then 1 else 0)) H
theorem rc_intI (i : Int) : RCD rInt1 [.int i] (.int i) := fun S H vs Q w r k => by
  cases r with
  | cons r rr =>
    cases rr
    cases r
    exact .inl ⟨i, rfl, k _ H (Evl.Ex.refl H) (.int _)⟩
theorem rc_intB (b : Bool) : RCD rInt1 [.bool b] (.int (if b then 1 else 0)) := fun S H vs Q w r k => by
  cases r with
  | cons r rr =>
    cases rr
    cases r
    exact .inr ⟨b, rfl, k _ H (Evl.Ex.refl H) (.int _)⟩
/-! ### isinstance -/
def tyD : PyData → String
  | .none => "NoneType"
  | .bool _ => "bool"
  | .int _ => "int"
  | .str _ => "str"
  | .list _ => "list"
  | .tuple _ => "tuple"
  | .dict _ => "dict"
theorem tyX_of {H : Hp} {v : V} {d : PyData} (r : Rp H v d) : TyX K H v (.type (tyD d)) := by
  cases r with
  | non => exact .base .non
  | bl b => exact .base (.bl b)
  | int i => exact .base (.int i)
  | lst h1 h2 => exact .base (.lst h1)
  | tup h1 h2 => exact .base (.tup h1)
  | dct h1 h2 => exact .base (.dK h1)
theorem ev_isi {te : TE} {ds : Sl} {d : PyData} {n : String} {b : Bool} (h : EvS te ds d) (hk : kitB (tyD d) n = some b) : EvS (tCB (rIsi K) (tCons te (tCons (tC (.ty n)) tNil))) ds (.bool b) := fun F O σ H Q w hs k =>
  h F O σ H _ w hs fun v d' ds1 O1 H1 t1 r1 ⟨e1, e2⟩ => by
    subst e1 e2
    exact ⟨v, .ty n, _, _, b, rfl, .ty n, tyX_of (r1.ex (hid_sub _ _)), kit_ty hk, k _ _ _ O1 H1 t1 (.bl b) ⟨rfl, rfl⟩⟩
theorem ev_isi2 {te : TE} {ds : Sl} {d : PyData} {n m : String} {b c : Bool} (h : EvS te ds d) (hk : kitB (tyD d) n = some b) (hk2 : kitB (tyD d) m = some c) : EvS (tCB (rIsiT K) (tCons te (tCons (tTup (tCons (tC (.ty n)) (tCons (tC (.ty m)) tNil))) tNil))) ds (.bool (b || c)) := fun F O σ H Q w hs k =>
  h F O σ H _ w hs fun v d' ds1 O1 H1 t1 r1 ⟨e1, e2⟩ => by
    subst e1 e2
    refine ⟨Evl.sz_of (by simp), fun p hp => ?_⟩
    have ex : Ex H1 (upd H1 p (.tup [.ty n, .ty m])) := Evl.Ex.new hp
    refine ⟨v, p, [.ty n, .ty m], _, [.type n, .type m], b || c, rfl, upd_same, .cons (.ty n) (.cons (.ty m) .nil), tyX_of ((r1.ex (hid_sub _ _)).ex ex), ?_, k _ _ _ O1 _ (t1.more ex) (.bl _) ⟨rfl, rfl⟩⟩
    refine kitAny_cons (kit_ty hk) (fun e => ?_) fun e => ?_
    · subst e
      refine kitAny_cons (kit_ty hk2) (fun e => ?_) fun e => ?_
      · subst e
        exact kitAny_nil
      · subst e
        rfl
    · subst e
      rfl
def isTup : PyData → Bool
  | .tuple _ => true
  | _ => false
theorem kb_tup (d : PyData) : kitB (tyD d) "tuple" = some (isTup d) := by
  cases d with
  | none => exact show kitB "NoneType" "tuple" = some false by decide +kernel
  | bool _ => exact show kitB "bool" "tuple" = some false by decide +kernel
  | int _ => exact show kitB "int" "tuple" = some false by decide +kernel
  | str _ => exact show kitB "str" "tuple" = some false by decide +kernel
  | list _ => exact show kitB "list" "tuple" = some false by decide +kernel
  | tuple _ => exact show kitB "tuple" "tuple" = some true by decide +kernel
  | dict _ => exact show kitB "dict" "tuple" = some false by decide +kernel
def isList : PyData → Bool
  | .list _ => true
  | _ => false
theorem kb_list (d : PyData) : kitB (tyD d) "list" = some (isList d) := by
  cases d with
  | none => exact show kitB "NoneType" "list" = some false by decide +kernel
  | bool _ => exact show kitB "bool" "list" = some false by decide +kernel
  | int _ => exact show kitB "int" "list" = some false by decide +kernel
  | str _ => exact show kitB "str" "list" = some false by decide +kernel
  | list _ => exact show kitB "list" "list" = some true by decide +kernel
  | tuple _ => exact show kitB "tuple" "list" = some false by decide +kernel
  | dict _ => exact show kitB "dict" "list" = some false by decide +kernel
def isInt : PyData → Bool
  | .int _ => true
  | .bool _ => true
  | _ => false
theorem kb_int (d : PyData) : kitB (tyD d) "int" = some (isInt d) := by
  cases d with
  | none => exact show kitB "NoneType" "int" = some false by decide +kernel
  | bool _ => exact show kitB "bool" "int" = some true by decide +kernel
  | int _ => exact show kitB "int" "int" = some true by decide +kernel
  | str _ => exact show kitB "str" "int" = some false by decide +kernel
  | list _ => exact show kitB "list" "int" = some false by decide +kernel
  | tuple _ => exact show kitB "tuple" "int" = some false by decide +kernel
  | dict _ => exact show kitB "dict" "int" = some false by decide +kernel
def isBool : PyData → Bool
  | .bool _ => true
  | _ => false
theorem kb_bool (d : PyData) : kitB (tyD d) "bool" = some (isBool d) := by
  cases d with
  | none => exact show kitB "NoneType" "bool" = some false by decide +kernel
  | bool _ => exact show kitB "bool" "bool" = some true by decide +kernel
  | int _ => exact show kitB "int" "bool" = some false by decide +kernel
  | str _ => exact show kitB "str" "bool" = some false by decide +kernel
  | list _ => exact show kitB "list" "bool" = some false by decide +kernel
  | tuple _ => exact show kitB "tuple" "bool" = some false by decide +kernel
  | dict _ => exact show kitB "dict" "bool" = some false by decide +kernel
def isStr : PyData → Bool
  | .str _ => true
  | _ => false
theorem kb_str (d : PyData) : kitB (tyD d) "str" = some (isStr d) := by
  cases d with
  | none => exact show kitB "NoneType" "str" = some false by decide +kernel
  | bool _ => exact show kitB "bool" "str" = some false by decide +kernel
  | int _ => exact show kitB "int" "str" = some false by decide +kernel
  | str _ => exact show kitB "str" "str" = some true by decide +kernel
  | list _ => exact show kitB "list" "str" = some false by decide +kernel
  | tuple _ => exact show kitB "tuple" "str" = some false by decide +kernel
  | dict _ => exact show kitB "dict" "str" = some false by decide +kernel
end
end Hk
set_option Elab.async false
set_option linter.all false
set_option maxRecDepth 100000
set_option maxHeartbeats 4000000
set_option autoImplicit false
/-! HkC: tables with tuple keys, sorting of tuples, dicts, min. -/
namespace Hk
open PySem PySem.Spec PyProof.Rows L2
section
variable {K : PySem.W.Frag}
/-! ### tuples of ints by value -/
theorem tupI_of {S : ASet} {H : Hp} {v : V} {ns : List Int} (r : Rp (hid S H) v (eT ns)) : TupI H v ns := by
  cases r with
  | tup h1 h2 =>
    rw [RpAll.ints_inv h2] at h1
    exact ⟨_, rfl, (hid_sub S H) _ _ h1⟩
theorem rp_of_tupI {S : ASet} {H : Hp} (w : Own S H) {v : V} {ns : List Int} (h : TupI H v ns) : Rp (hid S H) v (eT ns) := by
  obtain ⟨t, rfl, ht⟩ := h
  exact .tup (xs := ns.map V.int) (by rw [hid_in (w.tup ht)]; exact ht) (RpAll.ints _ ns)
theorem kOf_all {S : ASet} {H : Hp} : ∀ {vs : List V} {xs : List (List Int)}, RpAll (hid S H) vs (xs.map eT) → vs.map (kOf H) = xs ∧ ∀ v ∈ vs, TupI H v (kOf H v)
  | _, [], h => by
    cases h
    exact ⟨rfl, by simp⟩
  | _, x :: xs, h => by
    have h' : RpAll (hid S H) _ (eT x :: xs.map eT) := h
    cases h' with
    | cons h1 h2 =>
      have t := tupI_of h1
      obtain ⟨a, b⟩ := kOf_all h2
      rw [List.map_cons, kOf_of t, a]
      refine ⟨rfl, fun v hv => ?_⟩
      rcases List.mem_cons.mp hv with e | hv
      · rw [e, kOf_of t]
        exact t
      · exact b v hv
theorem rpAll_of {S : ASet} {H : Hp} (w : Own S H) : ∀ {vs : List V} {xs : List (List Int)}, Paired (fun v x => TupI H v x) vs xs → RpAll (hid S H) vs (xs.map eT)
  | _, _, .nil => .nil
  | _, _, .cons h t => .cons (rp_of_tupI w h) (rpAll_of w t)
theorem lx_uniq {a b : List (List Int)} (hp : a.Perm b) (h1 : a.Pairwise fun x y => HT.lexLt y x = false) (h2 : b.Pairwise fun x y => HT.lexLt y x = false) : a = b := hp.eq_of_pairwise (fun x y _ _ p q => lx_tot x y q p) h1 h2
/-- sorted(l), l a list of tuples of ints -/
theorem rc_sortedU {xs ys : List (List Int)} (hp : ys.Perm xs) (hs : ys.Pairwise fun x y => HT.lexLt y x = false) : RCD (rSortedU K) [.list (xs.map eT)] (.list (ys.map eT)) := fun S H vs Q w r k => by
  cases r with
  | cons r rr =>
    cases rr
    cases r with
    | lst h1 h2 =>
      obtain ⟨e, ha⟩ := kOf_all h2
      refine ⟨_, _, kOf H, rfl, .of ((hid_sub S H) _ _ h1), ha, fun zs p hz hpz hn => k _ _ (Evl.Ex.new hn) ?_⟩
      have ez : zs.map (kOf H) = ys := lx_uniq (((hpz.map (kOf H)).trans (by rw [e])).trans hp.symm) (SrtO.srtd_map (lt := HT.lexLt) hz) hs
      refine rp_newL w hn ?_
      rw [← ez]
      exact rpAll_of w (paired_self fun v hv => ha v (hpz.mem_iff.mp hv))
/-! ### tables -/
abbrev PTab := List (List Int × PyData)
def lookP (t : PTab) (k : List Int) : Option PyData := (t.find? fun p => decide (p.1 = k)).map (·.2)
def putP (t : PTab) (k : List Int) (d : PyData) : PTab := if (t.any fun p => decide (p.1 = k)) = true then t.map (fun p => if p.1 = k then (p.1, d) else p) else t ++ [(k, d)]
theorem inl_inj : ∀ {a b : List Int}, a.map (Sum.inl : Int → Key) = b.map Sum.inl → a = b
  | [], [], _ => rfl
  | [], _ :: _, h => by cases h
  | _ :: _, [], h => by cases h
  | x :: a, y :: b, h => by
    rw [List.map_cons, List.map_cons] at h
    have h1 := Sum.inl.inj (List.cons.inj h).1
    rw [h1, inl_inj (List.cons.inj h).2]
theorem tab_get {G : Hp} (k : List Int) : ∀ {es : List (List Key × V)} {t : PTab}, RpTab G es t → (match lookP t k with | some d => ∃ v, valV es (k.map Sum.inl) = some v ∧ Rp G v d | none => valV es (k.map Sum.inl) = none)
  | _, _, .nil => rfl
  | _, _, .cons (k := k') (v := v) (es := es) (d := d) (kvs := kvs) r t => by
    have ih := tab_get k t
    by_cases e : k' = k
    · subst e
      have h1 : lookP ((k', d) :: kvs) k' = some d := by simp [lookP, List.find?_cons]
      rw [h1]
      exact ⟨v, valV_pos (p := (k'.map Sum.inl, v)) rfl, r⟩
    · have h1 : lookP ((k', d) :: kvs) k = lookP kvs k := by simp [lookP, List.find?_cons, e]
      rw [h1, valV_neg (p := (k'.map Sum.inl, v)) fun z => e (inl_inj z)]
      exact ih
theorem tab_any {G : Hp} (k : List Int) : ∀ {es : List (List Key × V)} {t : PTab}, RpTab G es t → (es.any fun p => decide (p.1 = k.map Sum.inl)) = t.any fun p => decide (p.1 = k)
  | _, _, .nil => rfl
  | _, _, .cons (k := k') r t => by
    rw [List.any_cons, List.any_cons, tab_any k t]
    have e : decide (k'.map (Sum.inl : Int → Key) = k.map Sum.inl) = decide (k' = k) := decide_eq_decide.mpr ⟨inl_inj, fun h => by rw [h]⟩
    rw [e]
theorem tab_map {G : Hp} (k : List Int) {v : V} {d : PyData} (r0 : Rp G v d) : ∀ {es : List (List Key × V)} {t : PTab}, RpTab G es t → RpTab G (es.map fun p => if p.1 = k.map Sum.inl then (p.1, v) else p) (t.map fun p => if p.1 = k then (p.1, d) else p)
  | _, _, .nil => .nil
  | _, _, .cons (k := k') r t => by
    rw [List.map_cons, List.map_cons]
    by_cases e : k' = k
    · subst e
      rw [if_pos rfl, if_pos rfl]
      exact .cons r0 (tab_map k' r0 t)
    · rw [if_neg fun z => e (inl_inj z), if_neg e]
      exact .cons r (tab_map k r0 t)
theorem tab_snoc {G : Hp} (k : List Int) {v : V} {d : PyData} (r0 : Rp G v d) : ∀ {es : List (List Key × V)} {t : PTab}, RpTab G es t → RpTab G (es ++ [(k.map Sum.inl, v)]) (t ++ [(k, d)])
  | _, _, .nil => .cons r0 .nil
  | _, _, .cons r t => .cons r (tab_snoc k r0 t)
theorem tab_put {G : Hp} (k : List Int) {v : V} {d : PyData} (r0 : Rp G v d) {es : List (List Key × V)} {t : PTab} (r : RpTab G es t) : RpTab G (putK es (k.map Sum.inl) v) (putP t k d) := by
  unfold putK putP
  rw [tab_any k r]
  by_cases e : (t.any fun p => decide (p.1 = k)) = true
  · rw [if_pos e, if_pos e]
    exact tab_map k r0 r
  · rw [if_neg e, if_neg e]
    exact tab_snoc k r0 r
theorem tab_len {G : Hp} : ∀ {es : List (List Key × V)} {t : PTab}, RpTab G es t → es.length = t.length
  | _, _, .nil => rfl
  | _, _, .cons _ t => congrArg (· + 1) (tab_len t)
theorem tab_keys {G : Hp} : ∀ {es : List (List Key × V)} {t : PTab}, RpTab G es t → es.map (·.1) = (t.map (·.1)).map fun n => n.map Sum.inl
  | _, _, .nil => rfl
  | _, _, .cons _ t => by
    rw [List.map_cons, List.map_cons, List.map_cons, tab_keys t]
/-- a slot that holds a table, locked or not -/
def IsTab (s : Slot) (a : Addr) (t : PTab) : Prop := s = .tab a t ∨ ∃ od es, s = .ftab a od es t
theorem Hs.isTab {F O : ASet} {H : Hp} {σ : L2.St} {ds : Sl} (h : Hs F O H σ ds) {i : Nat} {s : Slot} {a : Addr} {t : PTab} (q : ds[i]? = some s) (it : IsTab s a t) : σ[i]? = some (some (.ref a)) ∧ ∃ es, Rd H a (.dT es) ∧ RpTab (hid (un F O) H) es t := by
  obtain ⟨ov, h1, h2⟩ := h.at_ i s q
  rcases it with e | ⟨od, es, e⟩ <;> subst e
  · obtain ⟨rfl, g2, es, g3, g4⟩ := h2
    exact ⟨h1, es, .inl g3, g4⟩
  · obtain ⟨rfl, g3, g4⟩ := h2
    exact ⟨h1, es, .inr ⟨od, (hid_sub _ _) _ _ g3⟩, g4⟩
theorem dget_of {S : ASet} {H : Hp} {a : Addr} {es : List (List Key × V)} {y : V} {k : List Int} (e : Rd H a (.dT es)) (r : Rp (hid S H) y (eT k)) : DGet H a y (valV es (k.map Sum.inl)) := by
  obtain ⟨t, rfl, ht⟩ := tupI_of r
  exact .inr ⟨es, k.map Sum.inl, t, e, rfl, by rw [ht, kV_ints], rfl⟩
theorem ev_tget {tk : TE} {i : Nat} {s : Slot} {a : Addr} {t : PTab} {ds : Sl} {k : List Int} {d : PyData} (q : ds[i]? = some s) (it : IsTab s a t) (hk : EvS tk ds (eT k)) (hd : lookP t k = some d) : EvS (tDGet (tVar i) tk) ds d := fun F O σ H Q w hs kk => by
  obtain ⟨h1, _⟩ := hs.isTab q it
  refine ⟨_, h1, hk F O σ H _ w hs fun v d2 ds1 O1 H1 t1 r1 ⟨e1, e2⟩ => ?_⟩
  subst e1 e2
  obtain ⟨_, es, g3, g4⟩ := t1.hs.isTab q it
  have g := tab_get k g4
  rw [hd] at g
  obtain ⟨u, hu, ru⟩ := g
  exact ⟨a, u, rfl, by rw [← hu]; exact dget_of g3 r1, kk _ _ _ O1 H1 t1 ru ⟨rfl, rfl⟩⟩
theorem ev_tnin {tk : TE} {i : Nat} {s : Slot} {a : Addr} {t : PTab} {ds : Sl} {k : List Int} (q : ds[i]? = some s) (it : IsTab s a t) (hk : EvS tk ds (eT k)) : EvS (tDNotIn tk (tVar i)) ds (.bool (!(lookP t k).isSome)) := fun F O σ H Q w hs kk =>
  hk F O σ H _ w hs fun v d2 ds1 O1 H1 t1 r1 ⟨e1, e2⟩ => by
    subst e1 e2
    obtain ⟨g1, es, g3, g4⟩ := t1.hs.isTab q it
    refine ⟨_, g1, a, _, rfl, dget_of g3 r1, ?_⟩
    have g := tab_get k g4
    have e : (valV es (k.map Sum.inl)).isSome = (lookP t k).isSome := by
      cases h : lookP t k with
      | none =>
        rw [h] at g
        rw [show valV es (k.map Sum.inl) = none from g]
        rfl
      | some d =>
        rw [h] at g
        obtain ⟨u, hu, _⟩ := g
        rw [hu]
        rfl
    rw [e]
    exact kk _ _ _ O1 H1 t1 (.bl _) ⟨rfl, rfl⟩
theorem rn_tput {tk tv : TE} {i : Nat} {a : Addr} {t : PTab} {ds : Sl} {k : List Int} {d : PyData} {N : Sl → Prop} {R : PyData → Sl → Prop} (q : ds[i]? = some (.tab a t)) (hv : EvS tv ds d) (hk : EvS tk ds (eT k)) (hl : t.length < 1000) (kn : N (ds.set i (.tab a (putP t k d)))) : RunE (sDPut (tVar i) tk tv) ds N R := fun F O σ H D w hs kk r =>
  hv F O σ H _ w hs fun v d' ds1 O1 H1 t1 r1 ⟨e1, e2⟩ => by
    subst e1 e2
    obtain ⟨h1, _⟩ := t1.hs.tab q
    refine ⟨_, h1, hk F O1 σ H1 _ t1.own t1.hs fun u d2 ds2 O2 H2 t2 r2 ⟨e3, e4⟩ => ?_⟩
    subst e3 e4
    have tt := t1.trans t2
    obtain ⟨g1, g2, es, g3, g4⟩ := tt.hs.tab q
    obtain ⟨b, rfl, hb⟩ := tupI_of r2
    refine ⟨a, _, rfl, DPut.t (k := k.map Sum.inl) g3 (by rw [hb, kV_ints]) (Evl.sz_lt (by rw [tab_len g4]; omega)), ?_⟩
    have rv := Rp.ex t2.up _ r1
    refine kk O2 σ _ _ ⟨fun b o nb hb => ?_, tt.ext.fr⟩ ?_ (tt.hs.mut (s1 := .tab a (putP t k d')) q rfl rfl g2 fun ov hov => ?_) kn
    · rw [upd_ne fun z => nb (by rw [z]; exact (hs.tab q).2.1)]
      exact tt.ext.kp b o nb hb
    · intro b z
      by_cases e : b = a
      · subst e
        exact ⟨_, upd_same, trivial⟩
      · obtain ⟨o, z1, z2⟩ := tt.own b z
        exact ⟨o, by rw [upd_ne e]; exact z1, z2⟩
    · rw [g1] at hov
      cases hov
      exact ⟨rfl, g2, _, upd_same, tab_put k rv g4⟩
theorem rn_newTab {i : Nat} {ds : Sl} {N : Sl → Prop} {R : PyData → Sl → Prop} (kn : ∀ p, N (ds.set i (.tab p []))) : RunE (tAsg tDNewT (gName i)) ds N R := fun F O σ H D w hs kk r => fun p hp => by
  have t := (To.refl w hs).new (o := .dT []) hp trivial
  exact kk _ _ _ _ t.ext t.own (t.hs.setOwn (s1 := .tab p []) rfl (hs.noaddr w hp) ⟨rfl, .inr rfl, [], upd_same, .nil⟩) (kn p)
/-- sorted(d.keys()) -/
theorem ev_tkeys {i : Nat} {s : Slot} {a : Addr} {t : PTab} {ds : Sl} {ys : List (List Int)} (q : ds[i]? = some s) (it : IsTab s a t) (hp : ys.Perm (t.map (·.1))) (hs : ys.Pairwise fun x y => HT.lexLt y x = false) : EvS (tCB rSortedKV (tCons (tKeysV (tVar i)) tNil)) ds (.list (ys.map eT)) := fun F O σ H Q w h0 kk => by
  obtain ⟨h1, es, h3, h4⟩ := h0.isTab q it
  refine ⟨_, h1, a, es, rfl, h3, fun r hr => ?_⟩
  have e1 : Ex H (upd H r (kvw r a)) := Evl.Ex.new hr
  refine ⟨r, a, es, t.map (·.1), rfl, upd_same, h3.imp (fun z => e1 _ _ z) fun ⟨o, z⟩ => ⟨o, e1 _ _ z⟩, tab_keys h4, fun zs js p hj hsj pr hn => ?_⟩
  have e2 := e1.trans (Evl.Ex.new (o := .lst zs) hn)
  have ej : js = ys := lx_uniq (hj.trans hp.symm) hsj hs
  subst ej
  exact kk _ _ _ O _ ((To.refl w h0).more e2) (rp_newL (w.ex e1) hn (rpAll_of (w.ex e1) pr)) ⟨rfl, rfl⟩
/-- the table locked while an expression runs -/
theorem ev_lock {te : TE} {i : Nat} {a : Addr} {t : PTab} {ds : Sl} {d : PyData} (q : ds[i]? = some (.tab a t)) (hn : ∀ (j : Nat) (b : Addr) (od : Obj) (es : List (List Key × V)) (xs : PTab), ds[j]? ≠ some (Slot.ftab b od es xs)) (h : ∀ od es, EvS te (ds.set i (.ftab a od es t)) d) : EvS (tLockE te) ds d := fun F O σ H Q w hs kk => by
  obtain ⟨h1, h2, es, h3, h4⟩ := hs.tab q
  have hi : i < ds.length := (List.getElem?_eq_some_iff.mp q).1
  refine ⟨a, _, h3, trivial, fun od => ?_⟩
  have nF : ¬ F a := fun z => hs.dj a z h2
  let O1 : ASet := fun b => O b ∧ b ≠ a
  let H1 : Hp := upd H a (.frz od (.dT es))
  have n1 : ¬ un F O1 a := fun z => z.elim nF fun z => z.2 rfl
  have up1 : Ex (hid (un F O) H) (hid (un F O1) H1) := fun b o hb => by
    obtain ⟨n, hb⟩ := hid_some hb
    have ne : b ≠ a := fun e => n (by rw [e]; exact .inr h2)
    rw [hid_in fun z => n (z.imp id And.left)]
    show upd H a _ b = _
    rw [upd_ne ne]
    exact hb
  have w1 : Own (un F O1) H1 := fun b z => by
    have ne : b ≠ a := fun e => n1 (by rw [← e]; exact z)
    obtain ⟨o, z1, z2⟩ := w b (z.imp id And.left)
    exact ⟨o, (upd_ne ne).trans z1, z2⟩
  have hs1 : Hs F O1 H1 σ (ds.set i (.ftab a od es t)) := by
    refine ⟨fun b fb z => hs.dj b fb z.1, by rw [List.length_set]; exact hs.len, fun j s q2 => ?_, fun j k s u b q1 q2 e1 e2 => ?_⟩
    · by_cases e : i = j
      · subst e
        rw [List.getElem?_set_self hi] at q2
        cases q2
        refine ⟨_, h1, rfl, ?_, RpTab.ex up1 h4⟩
        rw [hid_in n1]
        exact upd_same
      · rw [List.getElem?_set_ne e] at q2
        obtain ⟨ov, g1, g2⟩ := hs.at_ j s q2
        refine ⟨ov, g1, ?_⟩
        have ne : ∀ b, s.addr = some b → b ≠ a := fun b e1 e2 => e (hs.sep i j _ s a q q2 rfl (by rw [e1, e2]))
        cases s with
        | non => trivial
        | dat d =>
          obtain ⟨v, z1, z2⟩ := g2
          exact ⟨v, z1, Rp.ex up1 d z2⟩
        | own b xs =>
          obtain ⟨z1, z2, vs, z3, z4⟩ := g2
          exact ⟨z1, ⟨z2, ne b rfl⟩, vs, (upd_ne (ne b rfl)).trans z3, RpAll.ex up1 _ z4⟩
        | tab b xs =>
          obtain ⟨z1, z2, vs, z3, z4⟩ := g2
          exact ⟨z1, ⟨z2, ne b rfl⟩, vs, (upd_ne (ne b rfl)).trans z3, RpTab.ex up1 z4⟩
        | ftab b od es xs =>
          obtain ⟨z1, z3, z4⟩ := g2
          exact ⟨z1, up1 _ _ z3, RpTab.ex up1 z4⟩
        | row K b =>
          obtain ⟨z1, z2, z3⟩ := g2
          exact ⟨z1, ⟨z2, ne b rfl⟩, z3.ex up1 (upd_ne (ne b rfl))⟩
    · have key : ∀ {j : Nat} {s : Slot}, (ds.set i (.ftab a od es t))[j]? = some s → s.addr = some b → ds[j]? = some s := fun {j s} q e1 => by
        by_cases e : i = j
        · subst e
          rw [List.getElem?_set_self hi] at q
          cases q
          cases e1
        · rwa [List.getElem?_set_ne e] at q
      exact hs.sep j k s u b (key q1 e1) (key q2 e2) e1 e2
  refine h od es F O1 σ H1 _ w1 hs1 fun v d' ds2 O2 H2 t2 r2 ⟨e1, e2⟩ => ?_
  subst e1 e2
  have n2 : ¬ O2 a := fun z => (t2.ext.fr a z).elim (fun z => z.2 rfl) fun z => by
    rw [show H1 a = _ from upd_same] at z
    cases z
  have f2 : H2 a = some (.frz od (.dT es)) := t2.ext.kp a _ (fun z => z.2 rfl) upd_same
  let O3 : ASet := fun b => O2 b ∨ b = a
  let H3 : Hp := upd H2 a (.dT es)
  have up3 : ∀ b o, o ≠ HO.frz od (.dT es) → hid (un F O2) H2 b = some o → hid (un F O3) H3 b = some o := fun b o no hb => by
    obtain ⟨n, hb⟩ := hid_some hb
    have ne : b ≠ a := fun e => by
      rw [e, f2] at hb
      exact no (Option.some.inj hb).symm
    rw [hid_in fun z => z.elim (fun z => n (.inl z)) fun z => z.elim (fun z => n (.inr z)) ne]
    exact (upd_ne ne).trans hb
  refine ⟨f2, kk v d' ds O3 H3 ⟨⟨fun b o n hb => ?_, fun b z => ?_⟩, fun b z => ?_, ?_⟩ (Rp.exX up3 _ r2) ⟨rfl, rfl⟩⟩
  · have ne : b ≠ a := fun e => n (by rw [e]; exact h2)
    exact (upd_ne ne).trans (t2.ext.kp b o (fun z => n z.1) ((upd_ne ne).trans hb))
  · rcases z with z | z
    · rcases t2.ext.fr b z with z | z
      · exact .inl z.1
      · have ne : b ≠ a := fun e => by
          rw [e, show H1 a = _ from upd_same] at z
          cases z
        exact .inr ((upd_ne ne).symm.trans z)
    · exact .inl (by rw [z]; exact h2)
  · by_cases e : b = a
    · subst e
      exact ⟨_, upd_same, trivial⟩
    · obtain ⟨o, z1, z2⟩ := t2.own b (z.imp id fun z => z.resolve_right e)
      exact ⟨o, (upd_ne e).trans z1, z2⟩
  · have sl : ∀ (j : Nat) (s : Slot), i ≠ j → ds[j]? = some s → (ds.set i (.ftab a od es t))[j]? = some s := fun j s e q2 => by
      rw [List.getElem?_set_ne e]
      exact q2
    refine ⟨fun b fb z => z.elim (fun z => t2.hs.dj b fb z) fun z => nF (by rw [← z]; exact fb), hs.len, fun j s q2 => ?_, hs.sep⟩
    by_cases e : i = j
    · subst e
      rw [q] at q2
      cases q2
      obtain ⟨ov, g1, g2, g4, g5⟩ := t2.hs.at_ i _ (by rw [List.getElem?_set_self hi])
      subst g2
      exact ⟨_, g1, rfl, .inr rfl, es, upd_same, RpTab.exX up3 g5⟩
    · obtain ⟨ov, g1, g2⟩ := t2.hs.at_ j s (sl j s e q2)
      refine ⟨ov, g1, ?_⟩
      have ne : ∀ b, s.addr = some b → b ≠ a := fun b e1 e2 => e (hs.sep i j _ s a q q2 rfl (by rw [e1, e2]))
      cases s with
      | non => trivial
      | dat d =>
        obtain ⟨v, z1, z2⟩ := g2
        exact ⟨v, z1, Rp.exX up3 d z2⟩
      | own b xs =>
        obtain ⟨z1, z2, vs, z3, z4⟩ := g2
        exact ⟨z1, .inl z2, vs, (upd_ne (ne b rfl)).trans z3, RpAll.exX up3 _ z4⟩
      | tab b xs =>
        obtain ⟨z1, z2, vs, z3, z4⟩ := g2
        exact ⟨z1, .inl z2, vs, (upd_ne (ne b rfl)).trans z3, RpTab.exX up3 z4⟩
      | ftab b od' es' xs => exact absurd q2 (hn _ _ _ _ _)
      | row K b =>
        obtain ⟨z1, z2, sc, i', x, c, ns, z3, z4, z5⟩ := g2
        exact ⟨z1, .inl z2, sc, i', x, c, ns, (upd_ne (ne b rfl)).trans z3, sqL_exX up3 z4, z5⟩
theorem paired_at {α β : Type} {R : α → β → Prop} : ∀ {l : List α} {m : List β} {i : Nat} {x : α}, Paired R l m → l[i]? = some x → ∃ y, m[i]? = some y ∧ R x y
  | _, _, i, _, .nil, h => by simp at h
  | _, _, 0, _, .cons r _, h => by
    simp at h
    subst h
    exact ⟨_, rfl, r⟩
  | _, _, i + 1, _, .cons _ t, h => by
    obtain ⟨y, h1, h2⟩ := paired_at (i := i) t (by simpa using h)
    exact ⟨y, by simpa using h1, h2⟩
theorem tab_at {G : Hp} : ∀ {es : List (List Key × V)} {t : PTab} {i : Nat} {k : List Key} {v : V}, RpTab G es t → es[i]? = some (k, v) → ∃ n d, t[i]? = some (n, d) ∧ k = n.map Sum.inl
  | _, _, i, _, _, .nil, h => by simp at h
  | _, _, 0, _, _, .cons r _, h => by
    simp at h
    obtain ⟨rfl, rfl⟩ := h
    exact ⟨_, _, rfl, rfl⟩
  | _, _, i + 1, _, _, .cons _ t, h => by
    obtain ⟨n, d, h1, h2⟩ := tab_at (i := i) t (by simpa using h)
    exact ⟨n, d, by simpa using h1, h2⟩
/-- the keys of a locked table, walked -/
theorem it_tkeys {i : Nat} {a : Addr} {od : Obj} {es : List (List Key × V)} {t : PTab} {ds : Sl} (q : ds[i]? = some (.ftab a od es t)) : IterS (iKeysTM (tVar i)) ds ((t.map (·.1)).map eT) := fun F O σ H R w hs k => by
  obtain ⟨ov, h1, h2, h4, h5⟩ := hs.at_ i _ q
  subst h2
  refine ⟨_, h1, a, od, es, rfl, (hid_sub _ _) _ _ h4, k _ _ ds O H (To.refl w hs) ?_ ⟨rfl, rfl⟩⟩
  unfold WalkD
  rw [List.length_map, List.length_map, ← tab_len h5]
  refine (walk_keysT (kvs := es) (d := a) (o := od)).mono (fun H' e => e _ _ h4) fun j H' x H'' hj hg y => ?_
  obtain ⟨rfl, kk, v, q2, hx, rfl, hq⟩ := y
  refine ⟨Evl.Ex.refl _, fun S' w' e => ?_⟩
  obtain ⟨n, d, hn, rfl⟩ := tab_at h5 hx
  refine ⟨eT n, ?_, rp_of_tupI w' ⟨q2, rfl, by rw [hq, kV_ints]⟩⟩
  rw [List.getElem?_map, List.getElem?_map, hn]
  rfl
/-! ### min of pairs (cost, standing) -/
abbrev eC (p : Int × List Int) : PyData := .tuple [.int p.1, eT p.2]
theorem rc_min (d : PyData) (ds : List PyData) (hp : plainAll (d :: ds) = true) (ha : PySem.W.AlikeAll (d :: ds)) (hd : PyData.depthAll (d :: ds) ≤ 60) : RCD (rMinD K) [.list (d :: ds)] (PySem.W.minD d ds) := fun S H vs Q w r k => by
  cases r with
  | cons r rr =>
    cases rr
    cases r with
    | lst h1 h2 =>
      refine ⟨_, _, d, ds, rfl, .of ((hid_sub S H) _ _ h1), RpAll.dp _ hp (RpAll.ex (hid_sub S H) _ h2), ha, hd, fun i x hx hi => ?_⟩
      obtain ⟨e, he, re⟩ := h2.getV hx
      rw [hi] at he
      cases he
      exact k x H (Evl.Ex.refl H) re
theorem alike_ints : ∀ a b : List Int, PySem.W.alikeAll (eIs a) (eIs b) = true
  | [], _ => by simp [PySem.W.alikeAll]
  | _ :: _, [] => by simp [PySem.W.alikeAll]
  | x :: a, y :: b => by
    show PySem.W.alikeAll (.int x :: eIs a) (.int y :: eIs b) = true
    simp [PySem.W.alikeAll, PySem.W.alike, alike_ints a b]
theorem alike_T (a b : List Int) : PySem.W.alike (eT a) (eT b) = true := by
  show PySem.W.alike (.tuple (eIs a)) (.tuple (eIs b)) = true
  simp [PySem.W.alike, alike_ints a b]
theorem alike_C (p q : Int × List Int) : PySem.W.alike (eC p) (eC q) = true := by
  show PySem.W.alike (.tuple [.int p.1, eT p.2]) (.tuple [.int q.1, eT q.2]) = true
  have := alike_T p.2 q.2
  simp [PySem.W.alike, PySem.W.alikeAll] at this ⊢
  exact this
theorem lexT : ∀ a b : List Int, PySem.W.dataLt (eT a) (eT b) = HT.lexLt a b := by
  intro a b
  show PySem.W.dataLt (.tuple (eIs a)) (.tuple (eIs b)) = _
  rw [PySem.W.dataLt_tuple]
  refine (PySem.W.dataLt_ints a b).trans ?_
  induction a generalizing b with
  | nil =>
    cases b with
    | nil => rfl
    | cons y b => simp [HT.lexLt]
  | cons x a ih =>
    cases b with
    | nil => simp [HT.lexLt]
    | cons y b =>
      rw [HT.lexLt_cons, ← ih b]
      by_cases e : x = y
      · subst e
        simp
      · rw [if_neg e]
        refine decide_eq_decide.mpr ?_
        rw [List.cons_lt_cons_iff]
        simp [e]
def ltC (p q : Int × List Int) : Bool := if p.1 = q.1 then HT.lexLt p.2 q.2 else decide (p.1 < q.1)
theorem dataLt_C (p q : Int × List Int) : PySem.W.dataLt (eC p) (eC q) = ltC p q := by
  show PySem.W.dataLt (.tuple [.int p.1, eT p.2]) (.tuple [.int q.1, eT q.2]) = _
  rw [PySem.W.dataLt_pair (by simp [PySem.W.alike]) (alike_T _ _), PySem.W.dataLt_int, lexT, eqv_T]
  unfold ltC
  show (if (p.1 == q.1) = true then _ else _) = _
  by_cases e : p.1 = q.1
  · rw [if_pos e, if_pos (by simpa using e)]
    by_cases e2 : p.2 = q.2
    · rw [e2, if_pos (by simp), lx_irr]
    · rw [if_neg (by simpa using e2)]
  · rw [if_neg e, if_neg (by simpa using e)]
def minC : Int × List Int → List (Int × List Int) → Int × List Int
  | p, [] => p
  | p, q :: l => minC (if ltC q p then q else p) l
theorem minD_C : ∀ (l : List (Int × List Int)) (p : Int × List Int), PySem.W.minD (eC p) (l.map eC) = eC (minC p l)
  | [], p => rfl
  | q :: l, p => by
    have h := minD_C l (if ltC q p then q else p)
    unfold PySem.W.minD at h ⊢
    rw [List.map_cons, List.foldl_cons, dataLt_C]
    unfold minC
    rw [← h]
    congr 1
    cases ltC q p <;> rfl
theorem ltC_irr (p : Int × List Int) : ltC p p = false := by
  unfold ltC
  rw [if_pos rfl, lx_irr]
theorem ltC_trn {p q r : Int × List Int} (h1 : ltC p q = true) (h2 : ltC q r = true) : ltC p r = true := by
  unfold ltC at *
  by_cases e1 : p.1 = q.1
  · rw [if_pos e1] at h1
    by_cases e2 : q.1 = r.1
    · rw [if_pos e2] at h2
      rw [if_pos (e1.trans e2)]
      exact lx_trn _ _ _ h1 h2
    · rw [if_neg e2] at h2
      rw [if_neg fun z => e2 (e1.symm.trans z), e1]
      exact h2
  · rw [if_neg e1] at h1
    have a := of_decide_eq_true h1
    by_cases e2 : q.1 = r.1
    · rw [if_neg fun z => e1 (z.trans e2.symm), ← e2]
      exact h1
    · rw [if_neg e2] at h2
      have b := of_decide_eq_true h2
      rw [if_neg (by omega)]
      exact decide_eq_true (by omega)
theorem ltC_tot {p q : Int × List Int} (h1 : ltC p q = false) (h2 : ltC q p = false) : p = q := by
  unfold ltC at *
  by_cases e : p.1 = q.1
  · rw [if_pos e] at h1
    rw [if_pos e.symm] at h2
    exact Prod.ext e (lx_tot _ _ h1 h2)
  · rw [if_neg e] at h1
    rw [if_neg fun z => e z.symm] at h2
    have a := of_decide_eq_false h1
    have b := of_decide_eq_false h2
    exact absurd (show p.1 = q.1 by omega) e
theorem minC_ok : ∀ (l : List (Int × List Int)) (p : Int × List Int), minC p l ∈ p :: l ∧ ∀ q ∈ p :: l, ltC q (minC p l) = false
  | [], p => ⟨by simp [minC], fun q hq => by
    rw [List.mem_singleton.mp hq]
    exact ltC_irr p⟩
  | q :: l, p => by
    obtain ⟨h1, h2⟩ := minC_ok l (if ltC q p then q else p)
    unfold minC
    generalize minC (if ltC q p then q else p) l = m at h1 h2
    have h3 := h2 _ List.mem_cons_self
    refine ⟨?_, fun r hr => ?_⟩
    · rcases List.mem_cons.mp h1 with e | h1
      · rw [e]
        cases ltC q p <;> simp
      · exact List.mem_cons_of_mem _ (List.mem_cons_of_mem _ h1)
    · rcases List.mem_cons.mp hr with e | hr
      · subst e
        cases hq : ltC q r with
        | false =>
          rw [hq] at h3
          exact h3
        | true =>
          rw [hq] at h3
          cases h4 : ltC r m with
          | false => rfl
          | true =>
            have := ltC_trn hq h4
            rw [if_pos rfl] at h3
            rw [this] at h3
            cases h3
      · rcases List.mem_cons.mp hr with e | hr
        · subst e
          cases hq : ltC r p with
          | true =>
            rw [hq, if_pos rfl] at h3
            exact h3
          | false =>
            rw [hq, if_neg Bool.false_ne_true] at h3
            cases h4 : ltC r m with
            | false => rfl
            | true =>
              cases h5 : ltC p r with
              | true =>
                have := ltC_trn h5 h4
                rw [this] at h3
                cases h3
              | false =>
                have := ltC_tot h5 hq
                subst this
                rw [h4] at h3
                cases h3
        · exact h2 r (List.mem_cons_of_mem _ hr)
theorem minC_perm {p q : Int × List Int} {l m : List (Int × List Int)} (h : (p :: l).Perm (q :: m)) : minC p l = minC q m := by
  obtain ⟨a1, a2⟩ := minC_ok l p
  obtain ⟨b1, b2⟩ := minC_ok m q
  exact ltC_tot (b2 _ (h.mem_iff.mp a1)) (a2 _ (h.mem_iff.mpr b1))
/-- min of a list of such pairs -/
theorem rc_minC (p : Int × List Int) (l : List (Int × List Int)) : RCD (rMinD K) [.list ((p :: l).map eC)] (eC (minC p l)) := by
  rw [← minD_C]
  have hpl : ∀ m : List (Int × List Int), plainAll (m.map eC) = true ∧ PyData.depthAll (m.map eC) ≤ 60 := fun m => by
    induction m with
    | nil => exact ⟨rfl, by simp [PyData.depthAll]⟩
    | cons q m ih =>
      refine ⟨?_, ?_⟩
      · show ((true && (plainAll (eIs q.2) && true)) && plainAll (m.map eC)) = true
        rw [plain_ints, ih.1]
        rfl
      · show max (PyData.depth (eC q)) (PyData.depthAll (m.map eC)) ≤ 60
        have h := dep_ints q.2
        have h2 : PyData.depth (eC q) ≤ 10 := by simp [PyData.depth, PyData.depthAll] at h ⊢; omega
        have := ih.2
        omega
  refine rc_min (eC p) (l.map eC) (hpl (p :: l)).1 ⟨fun x hx y hy => ?_, fun x hx e => ?_⟩ (hpl (p :: l)).2
  · obtain ⟨a, _, rfl⟩ := List.mem_map.mp (show x ∈ (p :: l).map eC from hx)
    obtain ⟨b, _, rfl⟩ := List.mem_map.mp (show y ∈ (p :: l).map eC from hy)
    exact alike_C a b
  · obtain ⟨a, _, rfl⟩ := List.mem_map.mp (show x ∈ (p :: l).map eC from hx)
    cases e
/-! ### pairs walked -/
theorem walkD_pair {J : It} {n : Nat} {S : ASet} {H0 : Hp} {G : Hp → Prop} {fx fy : Nat → Option V} {xs : List PyData} (w : Walk J n G (YPair fx fy)) (hG : ∀ H, Ex (hid S H0) H → G H) (hl : xs.length = n)
    (h : ∀ i x y, i < n → fx i = some x → fy i = some y → ∃ dx dy, xs[i]? = some (.tuple [dx, dy]) ∧ Rp (hid S H0) x dx ∧ Rp (hid S H0) y dy) : WalkD J S H0 xs := by
  unfold WalkD
  rw [hl]
  refine w.mono hG fun i H x H' hi hg y => ?_
  obtain ⟨T, a, b, rfl, hT, rfl, ha, hb⟩ := y
  refine ⟨Evl.Ex.new hT, fun S' w' e => ?_⟩
  obtain ⟨da, db, h1, h2, h3⟩ := h i a b hi ha hb
  exact ⟨_, h1, rp_newT w' hT (.cons (Rp.ex e _ h2) (.cons (Rp.ex e _ h3) .nil))⟩
def enumD (xs : List PyData) : List PyData := (List.range xs.length).map fun (i : Nat) => .tuple [.int (i : Int), xs.getD i .none]
theorem walk_enumT {a : Addr} {xs : List V} : Walk (IteT K a) xs.length (fun H => SqT K H a xs) (YPair (fun i => some (.int (i : Nat))) (fun i => xs[i]?)) := by
  refine ⟨fun i _ hi q => ⟨xs, xs[i], q, by simp [hi]⟩, fun _ q => ⟨xs, q, rfl⟩, fun i H v H' _ q y => ?_⟩
  obtain ⟨T, x, h1, h2, h3, h4⟩ := y
  exact ⟨T, .int (i : Nat), x, h1, h2, h3, rfl, h4 xs q⟩
theorem it_enumT {ta : TA} {ds : Sl} {xs : List PyData} (h : EaS ta ds [.tuple xs]) : IterS (iEnumT K ta) ds (enumD xs) := fun F O σ H R w hs k =>
  h F O σ H _ w hs fun vs ys ds1 O1 H1 t1 r1 ⟨e1, e2⟩ => by
    subst e1 e2
    cases r1 with
    | cons r rr =>
      cases rr
      cases r with
      | tup h1 h2 =>
        refine ⟨_, _, rfl, .inl (.inl ((hid_sub _ _) _ _ h1)), k _ _ _ O1 H1 t1 (walkD_pair walk_enumT (fun H e => .inl (.inl (e _ _ h1))) (by rw [h2.length]; simp [enumD]) fun i x y hi hx hy => ?_) ⟨rfl, rfl⟩⟩
        obtain ⟨d, hd, rd⟩ := h2.getV hy
        cases hx
        refine ⟨.int (i : Nat), d, ?_, .int _, rd⟩
        have hi' : i < xs.length := (List.getElem?_eq_some_iff.mp hd).1
        unfold enumD
        rw [List.getElem?_map, List.getElem?_range hi']
        have e : xs.getD i .none = d := by rw [List.getD_eq_getElem?_getD, hd] <;> rfl
        exact congrArg (fun q => some (PyData.tuple [.int (i : Int), q])) e
def zipD (xs ys : List PyData) : List PyData := (xs.zip ys).map fun p => .tuple [p.1, p.2]
theorem walk_zipM {a b : Addr} {xs ys : List V} : Walk (ItzM K a b) (min xs.length ys.length) (fun H => SqL K H a xs ∧ SqT K H b ys) (YPair (fun i => xs[i]?) (fun i => ys[i]?)) := by
  refine ⟨fun i _ hi q => ⟨xs, ys, xs[i]'(by omega), ys[i]'(by omega), q.1, q.2, by simp [show i < xs.length by omega], by simp [show i < ys.length by omega]⟩, fun _ q => ⟨xs, ys, q.1, q.2, rfl⟩, fun i H v H' _ q y => ?_⟩
  obtain ⟨T, x, y, h1, h2, h3, h4, h5⟩ := y
  exact ⟨T, x, y, h1, h2, h3, h4 xs q.1, h5 ys q.2⟩
theorem it_zipM {ta : TA} {ds : Sl} {xs ys : List PyData} (h : EaS ta ds [.list xs, .tuple ys]) : IterS (iZipM K ta) ds (zipD xs ys) := fun F O σ H R w hs k =>
  h F O σ H _ w hs fun vs zs ds1 O1 H1 t1 r1 ⟨e1, e2⟩ => by
    subst e1 e2
    cases r1 with
    | cons r rr =>
      cases rr with
      | cons r' rr =>
        cases rr
        cases r with
        | lst h1 h2 =>
          cases r' with
          | tup h3 h4 =>
            refine ⟨_, _, _, _, rfl, .of ((hid_sub _ _) _ _ h1), .inl (.inl ((hid_sub _ _) _ _ h3)), k _ _ _ O1 H1 t1 (walkD_pair walk_zipM (fun H e => ⟨.of (e _ _ h1), .inl (.inl (e _ _ h3))⟩) (by rw [h2.length, h4.length]; simp [zipD]) fun i x y hi hx hy => ?_) ⟨rfl, rfl⟩⟩
            obtain ⟨d, hd, rd⟩ := h2.getV hx
            obtain ⟨d', hd', rd'⟩ := h4.getV hy
            refine ⟨d, d', ?_, rd, rd'⟩
            unfold zipD
            rw [List.getElem?_map, List.zip, List.getElem?_zipWith, hd, hd']
            rfl
def rDictP (K : PySem.W.Frag) : List V → Hp → VK → Prop := fun xs H Q => ∃ (a : Addr) (ps : List Addr) (kvs : List (Key × V)), xs = [.ref a] ∧ SqL K H a (ps.map V.ref) ∧ Paired (fun p kv => SqT K H p [kV kv.1, kv.2]) ps kvs ∧ ∀ p, H p = none → Q (.ref p) (upd H p (.dK (mergeK [] kvs)))
/-! more tests -/
theorem et_T {te : TE} {ds : Sl} {b : Bool} (h : EvS te ds (.bool b)) : EtS (tTest te) ds b := et_B h
theorem ete_T {te : TE} {ds : Sl} {P : Bool → Sl → Prop} (h : EvE te ds fun d ds' => ∃ b, d = .bool b ∧ P b ds') : EtE (tTest te) ds P := ete_B h
theorem et_not {t : TT} {ds : Sl} {b : Bool} (h : EtS t ds b) : EtS (tNot t) ds (!b) := fun F O σ H Q w hs k => h F O σ H _ w hs fun c ds1 O1 H1 t1 ⟨e1, e2⟩ => by
  subst e1 e2
  exact k _ _ O1 H1 t1 ⟨rfl, rfl⟩
theorem et_and {t u : TT} {ds : Sl} {a b : Bool} (h : EtS t ds a) (h2 : a = true → EtS u ds b) : EtS (tAnd t u) ds (a && b) := fun F O σ H Q w hs k => h F O σ H _ w hs fun c ds1 O1 H1 t1 ⟨e1, e2⟩ => by
  subst e1 e2
  cases c with
  | true => exact iteT (h2 rfl F O1 σ H1 Q t1.own t1.hs fun c ds2 O2 H2 t2 p => k c ds2 O2 H2 (t1.trans t2) p)
  | false => exact iteF (k _ _ O1 H1 t1 ⟨rfl, rfl⟩)
theorem et_or {t u : TT} {ds : Sl} {a b : Bool} (h : EtS t ds a) (h2 : a = false → EtS u ds b) : EtS (tOr t u) ds (a || b) := fun F O σ H Q w hs k => h F O σ H _ w hs fun c ds1 O1 H1 t1 ⟨e1, e2⟩ => by
  subst e1 e2
  cases c with
  | true => exact iteT (k _ _ O1 H1 t1 ⟨rfl, rfl⟩)
  | false => exact iteF (h2 rfl F O1 σ H1 Q t1.own t1.hs fun c ds2 O2 H2 t2 p => k c ds2 O2 H2 (t1.trans t2) p)
end
end Hk
set_option Elab.async false
set_option linter.all false
set_option maxRecDepth 100000
set_option maxHeartbeats 4000000
set_option autoImplicit false
/-! HkP: what each def promises, by data. -/
namespace Hk
open PySem PySem.Spec PyProof.Rows L2
abbrev eW (n : Nat) (E : Arr) : PyData := .tuple [.int (n : Int), .tuple (E.map eP)]
abbrev ePr (P : Prc) : PyData := .tuple (P.map eP)
structure WebS (n : Nat) (E : Arr) : Prop where
  web : Web n E
  srt : E.Pairwise fun p q => p.1 < q.1 ∨ (p.1 = q.1 ∧ p.2 < q.2)
  len : E.length ≤ 25
def inB (v : PyData) (lo hi : Int) : Bool := match v with
  | .int i => decide (lo ≤ i) && decide (i ≤ hi)
  | _ => false
def flatD : PyData → Bool
  | .none => true
  | .bool _ => true
  | .int _ => true
  | _ => false
/-- a value that the law tries: no tuple, or a tuple of few flat items -/
def Odd (v : PyData) : Prop := isTup v = false ∨ ∃ xs, v = .tuple xs ∧ xs.all flatD = true ∧ xs.length ≤ 100
def aheadL (E : Arr) (l : Int) : List Int := (E.filter fun p => decide (p.2 = l)).map (·.1)
def behindL (E : Arr) (l : Int) : List Int := (E.filter fun p => decide (p.1 = l)).map (·.2)
def psort (n : Nat) : List (List Int) := (pset n).mergeSort fun a b => !HT.lexLt b a
theorem psort_perm (n : Nat) : (psort n).Perm (pset n) := List.mergeSort_perm _ _
theorem psort_srt (n : Nat) : (psort n).Pairwise fun x y => HT.lexLt y x = false := by
  have h := List.pairwise_mergeSort (le := fun a b : List Int => !HT.lexLt b a) (fun a b c h1 h2 => ?_) (fun a b => ?_) (pset n)
  · exact h.imp fun {a b} q => by simpa using q
  · simp only [Bool.not_eq_true'] at h1 h2 ⊢
    exact (lx_swo (fun x : List Int => x)).tr a b c h1 h2
  · rcases SrtO.bcase (HT.lexLt b a) with q | q
    · rw [q, lx_asym _ _ q]
      rfl
    · rw [q]
      rfl
theorem mem_psort {n : Nat} {s : List Int} : s ∈ psort n ↔ Std n s := (psort_perm n).mem_iff.trans mem_pset
theorem psort_len (n : Nat) : (psort n).length = 2 ^ n := (psort_perm n).length_eq.trans (pset_len n)
/-- the standings at first and behind each deed, up to the first that can't be done -/
def lineL (n : Nat) (E : Arr) (b : List Int) : List Int → List (List Int)
  | [] => [b]
  | l :: ws => b :: if can E b l then lineL n E (tog n b l) ws else []
noncomputable def paperL (n : Nat) (E : Arr) (P : Prc) (one : List Int) : List PyData := (psort n).map fun s => .tuple [eT s, .int (costOf n E P one s)]
noncomputable def dearL (n : Nat) (E : Arr) (P : Prc) (one : List Int) : List (Int × List Int) := (psort n).map fun s => (-costOf n E P one s, s)
noncomputable def dearM (n : Nat) (E : Arr) (P : Prc) (one : List Int) : Int × List Int := match dearL n E P one with
  | [] => (0, [])
  | p :: l => minC p l
def intsOf : List PyData → Option (List Int)
  | [] => some []
  | .int i :: xs => (intsOf xs).map (i :: ·)
  | _ :: _ => none
/-- a value as a word: its lamps, where it is one -/
def lampsOf (n : Nat) (v : PyData) : Option (List Int) := match v with
  | .tuple xs => match intsOf xs with
    | some ws => if ws.all fun k => decide (0 ≤ k) && decide (k < (n : Int)) then some ws else none
    | none => none
  | _ => none
noncomputable def cheapB (n : Nat) (E : Arr) (P : Prc) (one other : List Int) (v : PyData) : Bool := match lampsOf n v with
  | some ws => match runW n E one ws with
    | some s => decide (s = other) && decide (wcost n P one ws = costOf n E P one other)
    | none => false
  | none => false
def leadD (n : Nat) (E : Arr) (one : List Int) (v : PyData) : PyData := match lampsOf n v with
  | some ws => match runW n E one ws with
    | some s => eT s
    | none => .none
  | none => .none
/-! ### the program -/
abbrev S_is_in : Sp := PureSp fun xs z => ∃ v lo hi, xs = [v, .int lo, .int hi] ∧ z = .bool (inB v lo hi)
abbrev S_is_arrow : Sp := PureSp fun xs z => ∃ (p : Int × Int) (n : Int), xs = [eP p, .int n] ∧ (0 ≤ p.1 ∧ p.1 < p.2 ∧ p.2 < n) ∧ z = .bool true
abbrev S_need_web : Sp := PureSp fun xs z => ∃ n E, xs = [eW n E] ∧ WebS n E ∧ z = .none
abbrev S_need_burning : Sp := PureSp fun xs z => ∃ n E s, xs = [eW n E, eT s] ∧ Std n s ∧ z = .none
abbrev S_need_both : Sp := PureSp fun xs z => ∃ n E s, xs = [eW n E, eT s] ∧ WebS n E ∧ Std n s ∧ z = .none
abbrev S_need_two : Sp := PureSp fun xs z => ∃ n E s t, xs = [eW n E, eT s, eT t] ∧ WebS n E ∧ Std n s ∧ Std n t ∧ z = .none
abbrev S_ahead_in : Sp := PureSp fun xs z => ∃ n E l, xs = [eW n E, .int l] ∧ WebS n E ∧ z = eL (aheadL E l)
abbrev S_behind_in : Sp := PureSp fun xs z => ∃ n E l, xs = [eW n E, .int l] ∧ WebS n E ∧ z = eL (behindL E l)
abbrev S_standings : Sp := PureSp fun xs z => ∃ n : Nat, n ≤ 5 ∧ xs = [eL (rng n)] ∧ z = .list ((psort n).map eT)
abbrev S_light_in : Sp := PureSp fun xs z => ∃ n E b, xs = [eW n E, eT b] ∧ WebS n E ∧ Std n b ∧ z = eL (lst n (canL E b))
abbrev S_quench_in : Sp := PureSp fun xs z => ∃ n E b, xs = [eW n E, eT b] ∧ WebS n E ∧ Std n b ∧ z = eL (lst n (canQ E b))
abbrev S_changed : Sp := PureSp fun xs z => ∃ (n : Nat) (b : List Int) (l : Int), xs = [eT b, .int l] ∧ Std n b ∧ (0 ≤ l ∧ l < (n : Int)) ∧ n ≤ 5 ∧ z = eT (tog n b l)
abbrev S_doable : Sp := PureSp fun xs z => ∃ n E b, xs = [eW n E, eT b] ∧ WebS n E ∧ Std n b ∧ z = eL (deeds n E b)
abbrev S_is_lamps : Sp := PureSp fun xs z => ∃ n E v, xs = [eW n E, v] ∧ Odd v ∧ z = .bool (lampsOf n v).isSome
abbrev S_line_in : Sp := PureSp fun xs z => ∃ n E b ws, xs = [eW n E, eT b, eT ws] ∧ WebS n E ∧ Std n b ∧ (∀ k ∈ ws, 0 ≤ k ∧ k < (n : Int)) ∧ ws.length ≤ 100 ∧ z = .list ((lineL n E b ws).map eT)
abbrev S_sides : Sp := PureSp fun xs z => ∃ n one other, xs = [eT one, eT other] ∧ n ≤ 5 ∧ Std n one ∧ Std n other ∧ z = .tuple [eL (lst n fun k => decide (k ∈ other) && !decide (k ∈ one)), eL (lst n fun k => decide (k ∈ one) && !decide (k ∈ other))]
abbrev S_needs_of : Sp := PureSp fun xs z => ∃ n E one other some, xs = [eW n E, eT one, eT other, eL some] ∧ WebS n E ∧ Std n one ∧ Std n other ∧ Std n some ∧ (∀ k ∈ some, k ∉ one ∧ k ∉ other) ∧ z = eL (needL n E one other some)
abbrev S_spare_in : Sp := PureSp fun xs z => ∃ n E one other, xs = [eW n E, eT one, eT other] ∧ WebS n E ∧ Std n one ∧ Std n other ∧ z = eL (spareL n E one other)
abbrev S_lit_in : Sp := PureSp fun xs z => ∃ n E one other, xs = [eW n E, eT one, eT other] ∧ WebS n E ∧ Std n one ∧ Std n other ∧ z = eL (litL n E one other)
abbrev S_out_in : Sp := PureSp fun xs z => ∃ n E one other, xs = [eW n E, eT one, eT other] ∧ WebS n E ∧ Std n one ∧ Std n other ∧ z = eL (outL n E one other)
abbrev S_need_prices : Sp := PureSp fun xs z => ∃ n E P, xs = [eW n E, ePr P] ∧ WebS n E ∧ Prices n P ∧ z = .none
abbrev S_cost_in : Sp := PureSp fun xs z => ∃ n E one other P, xs = [eW n E, eT one, eT other, ePr P] ∧ WebS n E ∧ Std n one ∧ Std n other ∧ Prices n P ∧ z = .int (costOf n E P one other)
abbrev S_cheapest : Sp := PureSp fun xs z => ∃ n E one other P, xs = [eW n E, eT one, eT other, ePr P] ∧ WebS n E ∧ Std n one ∧ Std n other ∧ Prices n P ∧ z = .int (costOf n E P one other)
abbrev S_price_paper : Sp := PureSp fun xs z => ∃ n E one P, xs = [eW n E, eT one, ePr P] ∧ WebS n E ∧ Std n one ∧ Prices n P ∧ z = .tuple (paperL n E P one)
abbrev S_dearest : Sp := PureSp fun xs z => ∃ n E one P, xs = [eW n E, eT one, ePr P] ∧ WebS n E ∧ Std n one ∧ Prices n P ∧ z = .tuple [.int (-(dearM n E P one).1), eT (dearM n E P one).2]
abbrev S_shows_cheap : Sp := PureSp fun xs z => ∃ n E one other P v, xs = [eW n E, eT one, eT other, ePr P, v] ∧ WebS n E ∧ Std n one ∧ Std n other ∧ Prices n P ∧ Odd v ∧ z = .bool (cheapB n E P one other v)
/-! ### the law -/
abbrev S_law_taken (K : PySem.W.Frag) : Sp := RowSp K (fun xs => ∃ m : Int, xs = [.int m] ∧ 1 ≤ m ∧ m ≤ 100000) fun xs z => ∃ m r : Int, xs = [.int m] ∧ z = .int r ∧ 0 ≤ r ∧ r < m
abbrev S_law_pick (K : PySem.W.Frag) : Sp := RowSp K (fun xs => ∃ ys, xs = [.list ys] ∧ ys ≠ [] ∧ ys.length ≤ 1000) fun xs z => ∃ ys, xs = [.list ys] ∧ z ∈ ys
abbrev S_law_web (K : PySem.W.Frag) : Sp := RowSp K (fun xs => xs = [.int 5]) fun xs z => ∃ n E, z = eW n E ∧ WebS n E
abbrev S_law_burning (K : PySem.W.Frag) : Sp := RowSp K (fun xs => ∃ n : Nat, xs = [.int (n : Int)] ∧ n ≤ 5) fun xs z => ∃ (n : Nat) (s : List Int), xs = [.int (n : Int)] ∧ z = eT s ∧ Std n s
abbrev S_law_prices (K : PySem.W.Frag) : Sp := RowSp K (fun xs => ∃ n E, xs = [eW n E] ∧ n ≤ 5) fun xs z => ∃ n E P, xs = [eW n E] ∧ z = ePr P ∧ Prices n P
abbrev S_law_word (K : PySem.W.Frag) : Sp := RowSp K (fun xs => ∃ n E b, xs = [eW n E, eT b, .int 6] ∧ WebS n E ∧ Std n b) fun xs z => ∃ ws : List Int, z = eT ws ∧ ws.length ≤ 6
abbrev S_law_changed : Sp := S_changed
abbrev S_law_light : Sp := S_light_in
abbrev S_law_quench : Sp := S_quench_in
def afterL (n : Nat) (E : Arr) (b : List Int) : List PyData := (deeds n E b).map fun k => .tuple [.int k, eT (tog n b k)]
abbrev S_law_after : Sp := PureSp fun xs z => ∃ n E b, xs = [eW n E, eT b] ∧ WebS n E ∧ Std n b ∧ z = .list (afterL n E b)
abbrev eTab (t : Tab) : PTab := t.map fun p => (p.1, .int p.2)
def S_law_costs : Sp := fun vs H Q _ => ∃ (S : ASet) (n : Nat) (E : Arr) (one : List Int) (P : Prc), Own S H ∧ RpAll (hid S H) vs [eW n E, eT one, ePr P] ∧ WebS n E ∧ Std n one ∧ Prices n P ∧
  ∀ (p : Addr) (t : Tab) (es : List (List Key × V)) (H2 : Hp), Ex H H2 → H p = none → H2 p = some (.dT es) → RpTab (hid (un S (· = p)) H2) es (eTab t) → Loop n E P one t [] → Q (.ref p) H2
/-- data that two calls of alike can meet -/
def okD : Nat → PyData → Prop
  | _, .none => True
  | _, .bool _ => True
  | _, .int _ => True
  | m + 1, .list xs => xs.length ≤ 1000 ∧ ∀ x ∈ xs, okD m x
  | m + 1, .tuple xs => xs.length ≤ 1000 ∧ ∀ x ∈ xs, okD m x
  | _, _ => False
abbrev S_law_alike (m : Nat) : Sp := PureSp fun xs z => ∃ d, xs = [d, d] ∧ okD m d ∧ z = .bool true
abbrev S_law_spare : Sp := S_spare_in
noncomputable def deedsL (n : Nat) (E : Arr) (one other : List Int) : List PyData := ((litL n E one other).map fun k => .tuple [.bool true, .int k]) ++ (outL n E one other).map fun k => .tuple [.bool false, .int k]
abbrev S_law_deeds : Sp := PureSp fun xs z => ∃ n E one other, xs = [eW n E, eT one, eT other] ∧ WebS n E ∧ Std n one ∧ Std n other ∧ z = .list (deedsL n E one other)
abbrev S_law_is_vector : Sp := PureSp fun xs z => ∃ ys : List PyData, xs = [.tuple ys, .int ys.length] ∧ ys.all flatD = true ∧ ys.length ≤ 100 ∧ z = .bool (intsOf ys).isSome
abbrev S_law_leads_to : Sp := PureSp fun xs z => ∃ n E one v, xs = [eW n E, eT one, v] ∧ WebS n E ∧ Std n one ∧ Odd v ∧ z = leadD n E one v
def S_law (K : PySem.W.Frag) : Sp := fun vs H Q _ => ∃ (a : Addr) (ns : List Int), vs = [.ref a] ∧ SqL K H a (ns.map V.int) ∧ ∀ H', Q (.bl true) H'
end Hk
set_option Elab.async false
set_option linter.all false
set_option maxRecDepth 100000
set_option maxHeartbeats 4000000
set_option autoImplicit false
/-! HkY: the readings of the defs (printed by gen/tdefs.py). -/
namespace Hk
open PySem PySem.Spec PyProof.Rows L2
def t_is_in (P : Program) (w : World) (K : PySem.W.Frag) : TS := (tRet (tAndV (tCB (rIsi K) (tCons (tVar 0) (tCons (tC (.ty "int")) tNil))) (tAndV (tNotV (tCB (rIsi K) (tCons (tVar 0) (tCons (tC (.ty "bool")) tNil)))) (tChain (rI0 fun i j => .bl (decide (i ≤ j))) (rI0 fun i j => .bl (decide (i ≤ j))) (tVar 1) (tVar 0) (tVar 2)))))
def t_is_arrow (P : Program) (w : World) (K : PySem.W.Frag) : TS := (tSeq (tIfS (tOr (tNot (tB (tCB (rIsi K) (tCons (tVar 0) (tCons (tC (.ty "tuple")) tNil))))) (tTest (tOp (rNeD K) (tCB (Evl.rLenS K) (tCons (tVar 0) tNil)) (tC (.int 2))))) (tRet (tC (.bl false))) tNext)
  (tRet (tAndV (tOp (rEqD K) (tLc (iTup K (tVar 0)) (gName 2) (tNot (tB (tCall S_is_in [] E0 (tCons (tVar 2) (tCons (tC (.int 0)) (tCons (tOp (rI0 fun i j => .int (i - j)) (tVar 1) (tC (.int 1))) tNil)))))) (tVar 2) [2]) (tLst tNil)) (tOp (rI0 fun i j => .bl (decide (i < j))) (tOp (rIx K) (tVar 0) (tC (.int 0))) (tOp (rIx K) (tVar 0) (tC (.int 1)))))))
def t_need_web (P : Program) (w : World) (K : PySem.W.Frag) : TS := (tSeq (tIfS (tOr (tNot (tB (tCB (rIsi K) (tCons (tVar 0) (tCons (tC (.ty "tuple")) tNil))))) (tOr (tTest (tOp (rNeD K) (tCB (Evl.rLenS K) (tCons (tVar 0) tNil)) (tC (.int 2)))) (tNot (tB (tCB (rIsi K) (tCons (tOp (rIx K) (tVar 0) (tC (.int 1))) (tCons (tC (.ty "tuple")) tNil))))))) tNever tNext)
  (tSeq (tIfS (tNot (tB (tCall S_is_in [] E0 (tCons (tOp (rIx K) (tVar 0) (tC (.int 0))) (tCons (tC (.int 1)) (tCons (tC (.int 9)) tNil)))))) tNever tNext)
  (tFor (iEnumT K (tCons (tOp (rIx K) (tVar 0) (tC (.int 1))) tNil)) (gTup K 2 (gCons (gName 1) (gCons (gName 2) gNil))) (tIfS (tOr (tNot (tB (tCall S_is_arrow [] E0 (tCons (tVar 2) (tCons (tOp (rIx K) (tVar 0) (tC (.int 0))) tNil))))) (tAnd (tTest (tOp (rI0 fun i j => .bl (decide (j < i))) (tVar 1) (tC (.int 0)))) (tTest (tOp (rLeT K) (tVar 2) (tOp (rIx K) (tOp (rIx K) (tVar 0) (tC (.int 1))) (tOp (rI0 fun i j => .int (i - j)) (tVar 1) (tC (.int 1)))))))) tNever tNext))))
def t_need_burning (P : Program) (w : World) (K : PySem.W.Frag) : TS := (tSeq (tIfS (tNot (tB (tCB (rIsi K) (tCons (tVar 1) (tCons (tC (.ty "tuple")) tNil))))) tNever tNext)
  (tFor (iEnumT K (tCons (tVar 1) tNil)) (gTup K 2 (gCons (gName 2) (gCons (gName 3) gNil))) (tIfS (tOr (tNot (tB (tCall S_is_in [] E0 (tCons (tVar 3) (tCons (tC (.int 0)) (tCons (tOp (rI0 fun i j => .int (i - j)) (tOp (rIx K) (tVar 0) (tC (.int 0))) (tC (.int 1))) tNil)))))) (tAnd (tTest (tOp (rI0 fun i j => .bl (decide (j < i))) (tVar 2) (tC (.int 0)))) (tTest (tOp (rI0 fun i j => .bl (decide (i ≤ j))) (tVar 3) (tOp (rIx K) (tVar 1) (tOp (rI0 fun i j => .int (i - j)) (tVar 2) (tC (.int 1)))))))) tNever tNext)))
def t_need_both (P : Program) (w : World) (K : PySem.W.Frag) : TS := (tSeq (tDrop (tCall S_need_web [] E0 (tCons (tVar 0) tNil)))
  (tDrop (tCall S_need_burning [] E0 (tCons (tVar 0) (tCons (tVar 1) tNil)))))
def t_need_two (P : Program) (w : World) (K : PySem.W.Frag) : TS := (tSeq (tDrop (tCall S_need_both [] E0 (tCons (tVar 0) (tCons (tVar 1) tNil))))
  (tDrop (tCall S_need_burning [] E0 (tCons (tVar 0) (tCons (tVar 2) tNil)))))
def t_ahead_in (P : Program) (w : World) (K : PySem.W.Frag) : TS := (tRet (tLc (iTup K (tOp (rIx K) (tVar 0) (tC (.int 1)))) (gTup K 2 (gCons (gName 2) (gCons (gName 3) gNil))) (tTest (tOp (rEqD K) (tVar 3) (tVar 1))) (tVar 2) [2, 3]))
def t_behind_in (P : Program) (w : World) (K : PySem.W.Frag) : TS := (tRet (tLc (iTup K (tOp (rIx K) (tVar 0) (tC (.int 1)))) (gTup K 2 (gCons (gName 2) (gCons (gName 3) gNil))) (tTest (tOp (rEqD K) (tVar 2) (tVar 1))) (tVar 3) [2, 3]))
def t_standings (P : Program) (w : World) (K : PySem.W.Frag) : TS := (tSeq (tAsg (tLst (tCons (tTup tNil) tNil)) (gName 1))
  (tSeq (tFor (iList K (tVar 0)) (gName 2) (tAsg (tOp rCat (tVar 1) (tLc (iList K (tVar 1)) (gName 3) tYes (tOp (rCatA K) (tVar 3) (tTup (tCons (tVar 2) tNil))) [3])) (gName 1)))
  (tRet (tCB (rSortedU K) (tCons (tVar 1) tNil)))))
def t_light_in (P : Program) (w : World) (K : PySem.W.Frag) : TS := (tSeq (tAsg (tLc (iTup K (tOp (rIx K) (tVar 0) (tC (.int 1)))) (gTup K 2 (gCons (gName 3) (gCons (gName 4) gNil))) (tTest (tOp (rIn K true) (tVar 3) (tVar 1))) (tVar 4) [3, 4]) (gName 2))
  (tRet (tLc (iRng1 (tCons (tOp (rIx K) (tVar 0) (tC (.int 0))) tNil)) (gName 5) (tAnd (tTest (tOp (rIn K true) (tVar 5) (tVar 1))) (tTest (tOp (rIn K true) (tVar 5) (tVar 2)))) (tVar 5) [5])))
def t_quench_in (P : Program) (w : World) (K : PySem.W.Frag) : TS := (tSeq (tAsg (tLc (iTup K (tOp (rIx K) (tVar 0) (tC (.int 1)))) (gTup K 2 (gCons (gName 3) (gCons (gName 4) gNil))) (tTest (tOp (rIn K true) (tVar 4) (tVar 1))) (tVar 3) [3, 4]) (gName 2))
  (tRet (tLc (iTup K (tVar 1)) (gName 5) (tTest (tOp (rIn K true) (tVar 5) (tVar 2))) (tVar 5) [5])))
def t_changed (P : Program) (w : World) (K : PySem.W.Frag) : TS := (tSeq (tIfS (tTest (tOp (rIn K false) (tVar 1) (tVar 0))) (tRet (tCB (rTupleS K) (tCons (tLc (iTup K (tVar 0)) (gName 2) (tTest (tOp (rNeD K) (tVar 2) (tVar 1))) (tVar 2) [2]) tNil))) tNext)
  (tRet (tCB (rTupleS K) (tCons (tCB (rSortedTI K) (tCons (tOp (rCatA K) (tVar 0) (tTup (tCons (tVar 1) tNil))) tNil)) tNil))))
def t_doable (P : Program) (w : World) (K : PySem.W.Frag) : TS := (tRet (tCB (rSortedI K) (tCons (tOp rCat (tCall S_light_in [] E0 (tCons (tVar 0) (tCons (tVar 1) tNil))) (tCall S_quench_in [] E0 (tCons (tVar 0) (tCons (tVar 1) tNil)))) tNil)))
def t_is_lamps (P : Program) (w : World) (K : PySem.W.Frag) : TS := (tSeq (tIfS (tOr (tNot (tB (tCB (rIsi K) (tCons (tVar 1) (tCons (tC (.ty "tuple")) tNil))))) (tTest (tOp (rI0 fun i j => .bl (decide (j < i))) (tCB (Evl.rLenS K) (tCons (tVar 1) tNil)) (tC (.int 200))))) (tRet (tC (.bl false))) tNext)
  (tRet (tOp (rEqD K) (tLc (iTup K (tVar 1)) (gName 2) (tNot (tB (tCall S_is_in [] E0 (tCons (tVar 2) (tCons (tC (.int 0)) (tCons (tOp (rI0 fun i j => .int (i - j)) (tOp (rIx K) (tVar 0) (tC (.int 0))) (tC (.int 1))) tNil)))))) (tVar 2) [2]) (tLst tNil))))
def t_line_in (P : Program) (w : World) (K : PySem.W.Frag) : TS := (tSeq (tAsg (tLst (tCons (tVar 1) tNil)) (gName 3))
  (tSeq (tFor (iTup K (tVar 2)) (gName 4) (tSeq (tIfS (tTest (tOp (rIn K true) (tVar 4) (tCall S_doable [] E0 (tCons (tVar 0) (tCons (tOp (rIx K) (tVar 3) (tUn (rU fun i => .int (-i)) (tC (.int 1)))) tNil))))) (tRet (tVar 3)) tNext)
  (tDrop (tBM K "list" rAppend (tVar 3) (tCons (tCall S_changed [] E0 (tCons (tOp (rIx K) (tVar 3) (tUn (rU fun i => .int (-i)) (tC (.int 1)))) (tCons (tVar 4) tNil))) tNil)))))
  (tRet (tVar 3))))
def t_sides (P : Program) (w : World) (K : PySem.W.Frag) : TS := (tRet (tTup (tCons (tLc (iTup K (tVar 1)) (gName 2) (tTest (tOp (rIn K true) (tVar 2) (tVar 0))) (tVar 2) [2]) (tCons (tLc (iTup K (tVar 0)) (gName 2) (tTest (tOp (rIn K true) (tVar 2) (tVar 1))) (tVar 2) [2]) tNil))))
def t_needs_of (P : Program) (w : World) (K : PySem.W.Frag) : TS := (tSeq (tAsg (tCall S_sides [] E0 (tCons (tVar 1) (tCons (tVar 2) tNil))) (gTup K 2 (gCons (gName 4) (gCons (gName 5) gNil))))
  (tSeq (tAsg (tLst tNil) (gName 6))
  (tSeq (tFor (iList K (tOp rCat (tVar 4) (tVar 3))) (gName 7) (tAsg (tOp rCat (tVar 6) (tCall S_ahead_in [] E0 (tCons (tVar 0) (tCons (tVar 7) tNil)))) (gName 6)))
  (tSeq (tFor (iList K (tOp rCat (tVar 5) (tVar 3))) (gName 7) (tAsg (tOp rCat (tVar 6) (tCall S_behind_in [] E0 (tCons (tVar 0) (tCons (tVar 7) tNil)))) (gName 6)))
  (tRet (tCB (rSortedSet w) (tCons (tCB (rSetL K w) (tCons (tLc (iList K (tVar 6)) (gName 8) (tAnd (tTest (tOp (rIn K true) (tVar 8) (tVar 1))) (tTest (tOp (rIn K true) (tVar 8) (tVar 2)))) (tVar 8) [8]) tNil)) tNil)))))))
def t_spare_in (P : Program) (w : World) (K : PySem.W.Frag) : TS := (tSeq (tAsg (tLst tNil) (gName 3))
  (tSeq (tWhile (tTest (tOp (rNeD K) (tCall S_needs_of [] E0 (tCons (tVar 0) (tCons (tVar 1) (tCons (tVar 2) (tCons (tVar 3) tNil))))) (tVar 3))) (tAsg (tCB (rSortedSet w) (tCons (tCB (rSetL K w) (tCons (tOp rCat (tVar 3) (tCall S_needs_of [] E0 (tCons (tVar 0) (tCons (tVar 1) (tCons (tVar 2) (tCons (tVar 3) tNil)))))) tNil)) tNil)) (gName 3)))
  (tRet (tVar 3))))
def t_lit_in (P : Program) (w : World) (K : PySem.W.Frag) : TS := (tRet (tCB (rSortedI K) (tCons (tOp rCat (tOp (rIx K) (tCall S_sides [] E0 (tCons (tVar 1) (tCons (tVar 2) tNil))) (tC (.int 0))) (tCall S_spare_in [] E0 (tCons (tVar 0) (tCons (tVar 1) (tCons (tVar 2) tNil))))) tNil)))
def t_out_in (P : Program) (w : World) (K : PySem.W.Frag) : TS := (tRet (tCB (rSortedI K) (tCons (tOp rCat (tOp (rIx K) (tCall S_sides [] E0 (tCons (tVar 1) (tCons (tVar 2) tNil))) (tC (.int 1))) (tCall S_spare_in [] E0 (tCons (tVar 0) (tCons (tVar 1) (tCons (tVar 2) tNil))))) tNil)))
def t_need_prices (P : Program) (w : World) (K : PySem.W.Frag) : TS := (tSeq (tIfS (tOr (tNot (tB (tCB (rIsi K) (tCons (tVar 1) (tCons (tC (.ty "tuple")) tNil))))) (tTest (tOp (rNeD K) (tCB (Evl.rLenS K) (tCons (tVar 1) tNil)) (tOp (rIx K) (tVar 0) (tC (.int 0)))))) tNever tNext)
  (tFor (iTup K (tVar 1)) (gName 2) (tSeq (tIfS (tOr (tNot (tB (tCB (rIsi K) (tCons (tVar 2) (tCons (tC (.ty "tuple")) tNil))))) (tTest (tOp (rNeD K) (tCB (Evl.rLenS K) (tCons (tVar 2) tNil)) (tC (.int 2))))) tNever tNext)
  (tIfS (tTest (tOp (rNeD K) (tLc (iTup K (tVar 2)) (gName 3) (tNot (tB (tCall S_is_in [] E0 (tCons (tVar 3) (tCons (tC (.int 0)) (tCons (tC (.int 1000)) tNil)))))) (tVar 3) [3]) (tLst tNil))) tNever tNext))))
def t_cost_in (P : Program) (w : World) (K : PySem.W.Frag) : TS := (tSeq (tAsg (tCB (rSum K) (tCons (tLc (iList K (tCall S_lit_in [] E0 (tCons (tVar 0) (tCons (tVar 1) (tCons (tVar 2) tNil))))) (gName 5) tYes (tOp (rIx K) (tOp (rIx K) (tVar 3) (tVar 5)) (tC (.int 0))) [5]) tNil)) (gName 4))
  (tRet (tOp (rI0 fun i j => .int (i + j)) (tVar 4) (tCB (rSum K) (tCons (tLc (iList K (tCall S_out_in [] E0 (tCons (tVar 0) (tCons (tVar 1) (tCons (tVar 2) tNil))))) (gName 5) tYes (tOp (rIx K) (tOp (rIx K) (tVar 3) (tVar 5)) (tC (.int 1))) [5]) tNil)))))
def t_cheapest (P : Program) (w : World) (K : PySem.W.Frag) : TS := (tSeq (tDrop (tCall S_need_two [] E0 (tCons (tVar 0) (tCons (tVar 1) (tCons (tVar 2) tNil)))))
  (tSeq (tDrop (tCall S_need_prices [] E0 (tCons (tVar 0) (tCons (tVar 3) tNil))))
  (tRet (tCall S_cost_in [] E0 (tCons (tVar 0) (tCons (tVar 1) (tCons (tVar 2) (tCons (tVar 3) tNil))))))))
def t_price_paper (P : Program) (w : World) (K : PySem.W.Frag) : TS := (tSeq (tDrop (tCall S_need_both [] E0 (tCons (tVar 0) (tCons (tVar 1) tNil))))
  (tSeq (tDrop (tCall S_need_prices [] E0 (tCons (tVar 0) (tCons (tVar 2) tNil))))
  (tRet (tCB (rTupleS K) (tCons (tLc (iList K (tCall S_standings [] E0 (tCons (tLstRg (tRg1 (tOp (rIx K) (tVar 0) (tC (.int 0))))) tNil))) (gName 3) tYes (tTup (tCons (tVar 3) (tCons (tCall S_cost_in [] E0 (tCons (tVar 0) (tCons (tVar 1) (tCons (tVar 3) (tCons (tVar 2) tNil))))) tNil))) [3]) tNil)))))
def t_dearest (P : Program) (w : World) (K : PySem.W.Frag) : TS := (tSeq (tDrop (tCall S_need_both [] E0 (tCons (tVar 0) (tCons (tVar 1) tNil))))
  (tSeq (tDrop (tCall S_need_prices [] E0 (tCons (tVar 0) (tCons (tVar 2) tNil))))
  (tSeq (tAsg (tCB (rMinD K) (tCons (tLc (iList K (tCall S_standings [] E0 (tCons (tLstRg (tRg1 (tOp (rIx K) (tVar 0) (tC (.int 0))))) tNil))) (gName 4) tYes (tTup (tCons (tUn (rU fun i => .int (-i)) (tCall S_cost_in [] E0 (tCons (tVar 0) (tCons (tVar 1) (tCons (tVar 4) (tCons (tVar 2) tNil)))))) (tCons (tVar 4) tNil))) [4]) tNil)) (gName 3))
  (tRet (tTup (tCons (tUn (rU fun i => .int (-i)) (tOp (rIx K) (tVar 3) (tC (.int 0)))) (tCons (tOp (rIx K) (tVar 3) (tC (.int 1))) tNil)))))))
def t_shows_cheap (P : Program) (w : World) (K : PySem.W.Frag) : TS := (tSeq (tDrop (tCall S_need_two [] E0 (tCons (tVar 0) (tCons (tVar 1) (tCons (tVar 2) tNil)))))
  (tSeq (tDrop (tCall S_need_prices [] E0 (tCons (tVar 0) (tCons (tVar 3) tNil))))
  (tSeq (tIfS (tNot (tB (tCall S_is_lamps [] E0 (tCons (tVar 0) (tCons (tVar 4) tNil))))) (tRet (tC (.bl false))) tNext)
  (tSeq (tAsg (tCall S_line_in [] E0 (tCons (tVar 0) (tCons (tVar 1) (tCons (tVar 4) tNil)))) (gName 5))
  (tSeq (tIfS (tOr (tTest (tOp (rI0 fun i j => .bl (decide (i ≤ j))) (tCB (Evl.rLenS K) (tCons (tVar 5) tNil)) (tCB (Evl.rLenS K) (tCons (tVar 4) tNil)))) (tTest (tOp (rNeD K) (tOp (rIx K) (tVar 5) (tUn (rU fun i => .int (-i)) (tC (.int 1)))) (tVar 2)))) (tRet (tC (.bl false))) tNext)
  (tSeq (tAsg (tCB (rSum K) (tCons (tLc (iZipM K (tCons (tVar 5) (tCons (tVar 4) tNil))) (gTup K 2 (gCons (gName 7) (gCons (gName 8) gNil))) tYes (tOp (rIx K) (tOp (rIx K) (tVar 3) (tVar 8)) (tCB rInt1 (tCons (tOp (rIn K false) (tVar 8) (tVar 7)) tNil))) [7, 8]) tNil)) (gName 6))
  (tRet (tOp (rEqD K) (tVar 6) (tCall S_cost_in [] E0 (tCons (tVar 0) (tCons (tVar 1) (tCons (tVar 2) (tCons (tVar 3) tNil)))))))))))))
def t_law_taken (P : Program) (w : World) (K : PySem.W.Frag) : TS := (tSeq (tIfS (tTest (tOp (rI0 fun i j => .bl (decide (j < i))) (tOp (rIx K) (tVar 0) (tC (.int 3))) (tC (.int 0)))) (tSeq (tAsg (tOp (rI (fun _ j => j ≠ 0) fun i j => .int (i.fmod j)) (tCB rInt1 (tCons (tOp (rIx K) (tVar 0) (tC (.int 3))) tNil)) (tVar 1)) (gName 2))
  (tSeq (tAsg (tOp (rI CDivN fun i j => .int (i.fdiv j)) (tOp (rIx K) (tVar 0) (tC (.int 3))) (tVar 1)) (gSub (tVar 0) (tC (.int 3)) L2.rSetL))
  (tRet (tVar 2)))) tNext)
  (tSeq (tAsg (tOp (rI0 fun i j => .int (i + j)) (tOp (rIx K) (tVar 0) (tC (.int 1))) (tC (.int 1))) (gSub (tVar 0) (tC (.int 1)) L2.rSetL))
  (tSeq (tIfS (tTest (tOp (rI0 fun i j => .bl (decide (j < i))) (tOp (rIx K) (tVar 0) (tC (.int 1))) (tCB (Evl.rLenS K) (tCons (tOp (rIx K) (tVar 0) (tC (.int 0))) tNil)))) (tSeq (tAsg (tOp (rI (fun _ j => j ≠ 0) fun i j => .int (i.fmod j)) (tCB rInt1 (tCons (tOp (rI0 fun i j => .int (i + j)) (tOp (rI CMul fun i j => .int (i * j)) (tOp (rIx K) (tVar 0) (tC (.int 2))) (tC (.int 48271))) (tC (.int 11))) tNil)) (tC (.int 2147483647))) (gSub (tVar 0) (tC (.int 2)) L2.rSetL))
  (tRet (tOp (rI (fun _ j => j ≠ 0) fun i j => .int (i.fmod j)) (tCB rInt1 (tCons (tOp (rI CDivN fun i j => .int (i.fdiv j)) (tOp (rIx K) (tVar 0) (tC (.int 2))) (tC (.int 7))) tNil)) (tVar 1)))) tNext)
  (tSeq (tAsg (tOp (rIx K) (tOp (rIx K) (tVar 0) (tC (.int 0))) (tOp (rI0 fun i j => .int (i - j)) (tOp (rIx K) (tVar 0) (tC (.int 1))) (tC (.int 1)))) (gName 3))
  (tSeq (tAsg (tOp (rI (fun _ j => j ≠ 0) fun i j => .int (i.fmod j)) (tCB rInt1 (tCons (tOp (rI0 fun i j => .int (i + j)) (tOp (rI0 fun i j => .int (i + j)) (tOp (rI CMul fun i j => .int (i * j)) (tOp (rIx K) (tVar 0) (tC (.int 2))) (tC (.int 48271))) (tVar 3)) (tC (.int 11))) tNil)) (tC (.int 2147483647))) (gSub (tVar 0) (tC (.int 2)) L2.rSetL))
  (tSeq (tIfS (tTest (tOp (rI0 fun i j => .bl (decide (j ≤ i))) (tVar 3) (tOp (rI CPow fun i j => .int (i ^ j.toNat)) (tC (.int 10)) (tC (.int 18))))) (tAsg (tOp (rI CDivN fun i j => .int (i.fdiv j)) (tVar 3) (tVar 1)) (gSub (tVar 0) (tC (.int 3)) L2.rSetL)) tNext)
  (tRet (tOp (rI (fun _ j => j ≠ 0) fun i j => .int (i.fmod j)) (tCB rInt1 (tCons (tVar 3) tNil)) (tVar 1)))))))))
def t_law_pick (P : Program) (w : World) (K : PySem.W.Frag) : TS := (tRet (tOp (rIx K) (tVar 1) (tCall (S_law_taken K) [] E0 (tCons (tVar 0) (tCons (tCB (Evl.rLenS K) (tCons (tVar 1) tNil)) tNil)))))
def t_law_web (P : Program) (w : World) (K : PySem.W.Frag) : TS := (tSeq (tPar 2 3 (tCons (tOp (rI0 fun i j => .int (i + j)) (tC (.int 1)) (tCall (S_law_taken K) [] E0 (tCons (tVar 0) (tCons (tVar 1) tNil)))) (tCons (tCall (S_law_taken K) [] E0 (tCons (tVar 0) (tCons (tC (.int 6)) tNil))) tNil)))
  (tSeq (tPar 4 5 (tCons (tCall (S_law_pick K) [] E0 (tCons (tVar 0) (tCons (tLst (tCons (tC (.int 2)) (tCons (tC (.int 3)) (tCons (tC (.int 4)) tNil)))) tNil))) (tCons (tLst tNil) tNil)))
  (tSeq (tFor (iRng1 (tCons (tVar 2) tNil)) (gName 6) (tFor (iRng2 (tCons (tOp (rI0 fun i j => .int (i + j)) (tVar 6) (tC (.int 1))) (tCons (tVar 2) tNil))) (gName 7) (tIfS (tAnd (tTest (tOp (rI0 fun i j => .bl (decide (i < j))) (tVar 3) (tC (.int 4)))) (tTest (tOp (rEqD K) (tCall (S_law_taken K) [] E0 (tCons (tVar 0) (tCons (tVar 4) tNil))) (tC (.int 0))))) (tDrop (tBM K "list" rAppend (tVar 5) (tCons (tTup (tCons (tVar 6) (tCons (tVar 7) tNil))) tNil))) tNext)))
  (tSeq (tIfS (tTest (tOp (rEqD K) (tVar 3) (tC (.int 4)))) (tAsg (tLc (iRng1 (tCons (tOp (rI0 fun i j => .int (i - j)) (tVar 2) (tC (.int 1))) tNil)) (gName 6) tYes (tTup (tCons (tVar 6) (tCons (tOp (rI0 fun i j => .int (i + j)) (tVar 6) (tC (.int 1))) tNil))) [6]) (gName 5)) tNext)
  (tSeq (tIfS (tTest (tOp (rEqD K) (tVar 3) (tC (.int 5)))) (tAsg (tLc (iRng2 (tCons (tC (.int 1)) (tCons (tVar 2) tNil))) (gName 6) tYes (tTup (tCons (tCall (S_law_taken K) [] E0 (tCons (tVar 0) (tCons (tVar 6) tNil))) (tCons (tVar 6) tNil))) [6]) (gName 5)) tNext)
  (tRet (tTup (tCons (tVar 2) (tCons (tCB (rTupleS K) (tCons (tCB (rSortedT K P w) (tCons (tCB (rSetOfT K P w) (tCons (tVar 5) tNil)) tNil)) tNil)) tNil)))))))))
def t_law_burning (P : Program) (w : World) (K : PySem.W.Frag) : TS := (tSeq (tAsg (tCall (S_law_pick K) [] E0 (tCons (tVar 0) (tCons (tLst (tCons (tC (.int 2)) (tCons (tC (.int 2)) (tCons (tC (.int 4)) tNil)))) tNil))) (gName 2))
  (tRet (tCB (rTupleS K) (tCons (tLc (iRng1 (tCons (tVar 1) tNil)) (gName 3) (tTest (tOp (rEqD K) (tCall (S_law_taken K) [] E0 (tCons (tVar 0) (tCons (tVar 2) tNil))) (tC (.int 0)))) (tVar 3) [3]) tNil))))
def t_law_prices (P : Program) (w : World) (K : PySem.W.Frag) : TS := (tSeq (tAsg (tCall (S_law_pick K) [] E0 (tCons (tVar 0) (tCons (tLst (tCons (tC (.int 2)) (tCons (tC (.int 9)) (tCons (tC (.int 1001)) tNil)))) tNil))) (gName 2))
  (tRet (tCB (rTupleS K) (tCons (tLc (iRng1 (tCons (tOp (rIx K) (tVar 1) (tC (.int 0))) tNil)) (gName 3) tYes (tTup (tCons (tCall (S_law_taken K) [] E0 (tCons (tVar 0) (tCons (tVar 2) tNil))) (tCons (tCall (S_law_taken K) [] E0 (tCons (tVar 0) (tCons (tVar 2) tNil))) tNil))) [3]) tNil))))
def t_law_changed (P : Program) (w : World) (K : PySem.W.Frag) : TS := (tSeq (tIfS (tTest (tOp (rIn K false) (tVar 1) (tVar 0))) (tRet (tCB (rTupleS K) (tCons (tLc (iTup K (tVar 0)) (gName 2) (tTest (tOp (rNeD K) (tVar 2) (tVar 1))) (tVar 2) [2]) tNil))) tNext)
  (tRet (tCB (rTupleS K) (tCons (tCB (rSortedI K) (tCons (tOp rCat (tCB (Evl.rListS K) (tCons (tVar 0) tNil)) (tLst (tCons (tVar 1) tNil))) tNil)) tNil))))
def t_law_light (P : Program) (w : World) (K : PySem.W.Frag) : TS := (tRet (tLc (iRng1 (tCons (tOp (rIx K) (tVar 0) (tC (.int 0))) tNil)) (gName 2) (tAnd (tTest (tOp (rIn K true) (tVar 2) (tVar 1))) (tTest (tOp (rEqD K) (tLc (iRng1 (tCons (tVar 2) tNil)) (gName 3) (tAnd (tTest (tOp (rInDT K) (tTup (tCons (tVar 3) (tCons (tVar 2) tNil))) (tOp (rIx K) (tVar 0) (tC (.int 1))))) (tTest (tOp (rIn K true) (tVar 3) (tVar 1)))) (tVar 3) [3]) (tLst tNil)))) (tVar 2) [2]))
def t_law_quench (P : Program) (w : World) (K : PySem.W.Frag) : TS := (tRet (tLc (iTup K (tVar 1)) (gName 2) (tTest (tOp (rEqD K) (tLc (iRng1 (tCons (tOp (rIx K) (tVar 0) (tC (.int 0))) tNil)) (gName 3) (tAnd (tTest (tOp (rInDT K) (tTup (tCons (tVar 2) (tCons (tVar 3) tNil))) (tOp (rIx K) (tVar 0) (tC (.int 1))))) (tTest (tOp (rIn K true) (tVar 3) (tVar 1)))) (tVar 3) [3]) (tLst tNil))) (tVar 2) [2]))
def t_law_after (P : Program) (w : World) (K : PySem.W.Frag) : TS := (tRet (tLc (iList K (tCB (rSortedI K) (tCons (tOp rCat (tCall S_law_light [] E0 (tCons (tVar 0) (tCons (tVar 1) tNil))) (tCall S_law_quench [] E0 (tCons (tVar 0) (tCons (tVar 1) tNil)))) tNil))) (gName 2) tYes (tTup (tCons (tVar 2) (tCons (tCall S_law_changed [] E0 (tCons (tVar 1) (tCons (tVar 2) tNil))) tNil))) [2]))
def t_law_costs (P : Program) (w : World) (K : PySem.W.Frag) : TS := (tSeq (tPar 3 4 (tCons (tDispT1 (tVar 1) (tC (.int 0))) (tCons (tLst (tCons (tVar 1) tNil)) tNil)))
  (tSeq (tWhile (tTest (tOp (rNeD K) (tVar 4) (tLst tNil))) (tSeq (tAsg tDNewT (gName 5))
  (tSeq (tFor (iList K (tVar 4)) (gName 6) (tFor (iList K (tCall S_law_after [] E0 (tCons (tVar 0) (tCons (tVar 6) tNil)))) (gTup K 2 (gCons (gName 7) (gCons (gName 8) gNil))) (tSeq (tAsg (tOp (rI0 fun i j => .int (i + j)) (tDGet (tVar 3) (tVar 6)) (tOp (rIx K) (tOp (rIx K) (tVar 2) (tVar 7)) (tIf (tTest (tOp (rIn K false) (tVar 7) (tVar 6))) (tC (.int 1)) (tC (.int 0))))) (gName 9))
  (tIfS (tOr (tB (tDNotIn (tVar 8) (tVar 3))) (tTest (tOp (rI0 fun i j => .bl (decide (i < j))) (tVar 9) (tDGet (tVar 3) (tVar 8))))) (tSeq (sDPut (tVar 3) (tVar 8) (tVar 9))
  (sDPut (tVar 5) (tVar 8) (tC (.bl true)))) tNext))))
  (tAsg (tCB rSortedKV (tCons (tKeysV (tVar 5)) tNil)) (gName 4)))))
  (tRet (tVar 3))))
def t_law_alike (P : Program) (w : World) (K : PySem.W.Frag) (m : Nat) : TS := (tSeq (tIfS (tB (tCB (rIsiT K) (tCons (tVar 1) (tCons (tTup (tCons (tC (.ty "tuple")) (tCons (tC (.ty "list")) tNil))) tNil)))) (tSeq (tIfS (tOr (tNot (tB (tCB (rIsiT K) (tCons (tVar 0) (tCons (tTup (tCons (tC (.ty "tuple")) (tCons (tC (.ty "list")) tNil))) tNil))))) (tTest (tOp (rNeD K) (tCB (rIsi K) (tCons (tVar 0) (tCons (tC (.ty "list")) tNil))) (tCB (rIsi K) (tCons (tVar 1) (tCons (tC (.ty "list")) tNil)))))) (tRet (tC (.bl false))) tNext)
  (tSeq (tIfS (tTest (tOp (rNeD K) (tCB (Evl.rLenS K) (tCons (tVar 0) tNil)) (tCB (Evl.rLenS K) (tCons (tVar 1) tNil)))) (tRet (tC (.bl false))) tNext)
  (tRet (tOp (rEqD K) (tLc (iRng1 (tCons (tCB (Evl.rLenS K) (tCons (tVar 1) tNil)) tNil)) (gName 2) (tNot (tB (tCall (S_law_alike m) [] E0 (tCons (tOp (rIx K) (tVar 0) (tVar 2)) (tCons (tOp (rIx K) (tVar 1) (tVar 2)) tNil))))) (tVar 2) [2]) (tLst tNil))))) tNext)
  (tSeq (tIfS (tOr (tB (tIsN (tVar 1))) (tB (tCB (rIsi K) (tCons (tVar 1) (tCons (tC (.ty "str")) tNil))))) (tRet (tAndV (tOp (rEqD K) (tVar 0) (tVar 1)) (tOp (rEqD K) (tCB (rIsi K) (tCons (tVar 0) (tCons (tC (.ty "str")) tNil))) (tCB (rIsi K) (tCons (tVar 1) (tCons (tC (.ty "str")) tNil)))))) tNext)
  (tRet (tAndV (tCB (rIsi K) (tCons (tVar 0) (tCons (tC (.ty "int")) tNil))) (tAndV (tOp (rEqD K) (tCB (rIsi K) (tCons (tVar 0) (tCons (tC (.ty "bool")) tNil))) (tCB (rIsi K) (tCons (tVar 1) (tCons (tC (.ty "bool")) tNil)))) (tOp (rEqD K) (tVar 0) (tVar 1)))))))
def t_law_spare (P : Program) (w : World) (K : PySem.W.Frag) : TS := (tSeq (tAsg (tTup (tCons (tLc (iRng1 (tCons (tOp (rIx K) (tVar 0) (tC (.int 0))) tNil)) (gName 6) (tAnd (tTest (tOp (rIn K true) (tVar 6) (tVar 1))) (tTest (tOp (rIn K true) (tVar 6) (tVar 2)))) (tVar 6) [6]) (tCons (tLst tNil) tNil))) (gTup K 2 (gCons (gName 3) (gCons (gName 4) gNil))))
  (tSeq (tFor (iRng1 (tCons (tOp (rIx K) (tVar 0) (tC (.int 0))) tNil)) (gName 5) (tFor (iList K (tVar 3)) (gName 6) (tSeq (tAsg (tLc (iRng1 (tCons (tOp (rIx K) (tVar 0) (tC (.int 0))) tNil)) (gName 9) (tAnd (tTest (tOp (rInDT K) (tTup (tCons (tVar 6) (tCons (tVar 9) tNil))) (tOp (rIx K) (tVar 0) (tC (.int 1))))) (tOr (tTest (tOp (rIn K false) (tVar 9) (tVar 4))) (tAnd (tTest (tOp (rIn K false) (tVar 9) (tVar 2))) (tTest (tOp (rIn K true) (tVar 9) (tVar 1)))))) (tVar 9) [9]) (gName 7))
  (tSeq (tAsg (tLc (iRng1 (tCons (tOp (rIx K) (tVar 0) (tC (.int 0))) tNil)) (gName 9) (tAnd (tTest (tOp (rInDT K) (tTup (tCons (tVar 9) (tCons (tVar 6) tNil))) (tOp (rIx K) (tVar 0) (tC (.int 1))))) (tOr (tTest (tOp (rIn K false) (tVar 9) (tVar 4))) (tAnd (tTest (tOp (rIn K false) (tVar 9) (tVar 1))) (tTest (tOp (rIn K true) (tVar 9) (tVar 2)))))) (tVar 9) [9]) (gName 8))
  (tIfS (tAnd (tTest (tOp (rIn K true) (tVar 6) (tVar 4))) (tTest (tOp (rNeD K) (tOp rCat (tVar 7) (tVar 8)) (tLst tNil)))) (tAsg (tCB (rSortedI K) (tCons (tOp rCat (tVar 4) (tLst (tCons (tVar 6) tNil))) tNil)) (gName 4)) tNext)))))
  (tRet (tVar 4))))
def t_law_deeds (P : Program) (w : World) (K : PySem.W.Frag) : TS := (tSeq (tAsg (tCall S_law_spare [] E0 (tCons (tVar 0) (tCons (tVar 1) (tCons (tVar 2) tNil)))) (gName 3))
  (tSeq (tAsg (tCB (rSortedI K) (tCons (tOp rCat (tVar 3) (tLc (iTup K (tVar 2)) (gName 5) (tTest (tOp (rIn K true) (tVar 5) (tVar 1))) (tVar 5) [5])) tNil)) (gName 4))
  (tRet (tOp rCat (tLc (iList K (tVar 4)) (gName 5) tYes (tTup (tCons (tC (.bl true)) (tCons (tVar 5) tNil))) [5]) (tLc (iList K (tCB (rSortedI K) (tCons (tOp rCat (tVar 3) (tLc (iTup K (tVar 1)) (gName 5) (tTest (tOp (rIn K true) (tVar 5) (tVar 2))) (tVar 5) [5])) tNil))) (gName 5) tYes (tTup (tCons (tC (.bl false)) (tCons (tVar 5) tNil))) [5])))))
def t_law_word (P : Program) (w : World) (K : PySem.W.Frag) : TS := (tSeq (tPar 4 5 (tCons (tTup tNil) (tCons (tVar 2) tNil)))
  (tSeq (tFor (iRng1 (tCons (tCall (S_law_taken K) [] E0 (tCons (tVar 0) (tCons (tOp (rI0 fun i j => .int (i + j)) (tVar 3) (tC (.int 1))) tNil))) tNil)) (gName 6) (tSeq (tAsg (tCall (S_law_pick K) [] E0 (tCons (tVar 0) (tCons (tCall S_law_after [] E0 (tCons (tVar 1) (tCons (tVar 5) tNil))) tNil))) (gTup K 2 (gCons (gName 7) (gCons (gName 5) gNil))))
  (tAsg (tOp (rCatA K) (tVar 4) (tTup (tCons (tVar 7) tNil))) (gName 4))))
  (tRet (tVar 4))))
def t_law_is_vector (P : Program) (w : World) (K : PySem.W.Frag) : TS := (tSeq (tIfS (tOr (tNot (tB (tCB (rIsi K) (tCons (tVar 0) (tCons (tC (.ty "tuple")) tNil))))) (tTest (tOp (rNeD K) (tCB (Evl.rLenS K) (tCons (tVar 0) tNil)) (tVar 1)))) (tRet (tC (.bl false))) tNext)
  (tRet (tOp (rEqD K) (tLc (iTup K (tVar 0)) (gName 2) (tOr (tNot (tB (tCB (rIsi K) (tCons (tVar 2) (tCons (tC (.ty "int")) tNil))))) (tB (tCB (rIsi K) (tCons (tVar 2) (tCons (tC (.ty "bool")) tNil))))) (tVar 2) [2]) (tLst tNil))))
def t_law_leads_to (P : Program) (w : World) (K : PySem.W.Frag) : TS := (tSeq (tIfS (tOr (tNot (tB (tCB (rIsi K) (tCons (tVar 2) (tCons (tC (.ty "tuple")) tNil))))) (tNot (tB (tCall S_law_is_vector [] E0 (tCons (tVar 2) (tCons (tCB (Evl.rLenS K) (tCons (tVar 2) tNil)) tNil)))))) (tRet (tC .non)) tNext)
  (tSeq (tIfS (tTest (tOp (rNeD K) (tLc (iTup K (tVar 2)) (gName 5) (tNot (tTest (tChain (rI0 fun i j => .bl (decide (i ≤ j))) (rI0 fun i j => .bl (decide (i < j))) (tC (.int 0)) (tVar 5) (tOp (rIx K) (tVar 0) (tC (.int 0)))))) (tVar 5) [5]) (tLst tNil))) (tRet (tC .non)) tNext)
  (tSeq (tFor (iTup K (tVar 2)) (gName 3) (tSeq (tAsg (tCB (rDictP K) (tCons (tCall S_law_after [] E0 (tCons (tVar 0) (tCons (tVar 1) tNil))) tNil)) (gName 4))
  (tSeq (tIfS (tB (tDNotIn (tVar 3) (tVar 4))) (tRet (tC .non)) tNext)
  (tAsg (tDGet (tVar 4) (tVar 3)) (gName 1)))))
  (tRet (tVar 1)))))
def t_law_rest (P : Program) (w : World) (K : PySem.W.Frag) : TS := (tSeq (tAsg (tCall (S_law_web K) [] E0 (tCons (tVar 1) (tCons (tC (.int 5)) tNil))) (gName 2))
  (tSeq (tPar3 3 4 5 (tCons (tCall (S_law_burning K) [] E0 (tCons (tVar 1) (tCons (tOp (rIx K) (tVar 2) (tC (.int 0))) tNil))) (tCons (tCall (S_law_burning K) [] E0 (tCons (tVar 1) (tCons (tOp (rIx K) (tVar 2) (tC (.int 0))) tNil))) (tCons (tCall (S_law_prices K) [] E0 (tCons (tVar 1) (tCons (tVar 2) tNil))) tNil))))
  (tSeq (tAsg (tCall S_law_costs [] E0 (tCons (tVar 2) (tCons (tVar 3) (tCons (tVar 5) tNil)))) (gName 6))
  (tSeq (tIfS (tNot (tB (tCall (S_law_alike 4) [] E0 (tCons (tCall S_price_paper [] E0 (tCons (tVar 2) (tCons (tVar 3) (tCons (tVar 5) tNil)))) (tCons (tCB (rTupleS K) (tCons (tLc (iList K (tCB rSortedKV (tCons (tKeysV (tVar 6)) tNil))) (gName 16) tYes (tTup (tCons (tVar 16) (tCons (tDGet (tVar 6) (tVar 16)) tNil))) [16]) tNil)) tNil))))) (tRet (tC (.bl false))) tNext)
  (tSeq (tAsg (tCB (rMinD K) (tCons (tLockE (tLc (iKeysTM (tVar 6)) (gName 16) tYes (tTup (tCons (tOp (rI0 fun i j => .int (i - j)) (tC (.int 0)) (tDGet (tVar 6) (tVar 16))) (tCons (tVar 16) tNil))) [16])) tNil)) (gName 7))
  (tSeq (tIfS (tNot (tB (tCall (S_law_alike 4) [] E0 (tCons (tCall S_cheapest [] E0 (tCons (tVar 2) (tCons (tVar 3) (tCons (tVar 4) (tCons (tVar 5) tNil))))) (tCons (tDGet (tVar 6) (tVar 4)) tNil))))) (tRet (tC (.bl false))) tNext)
  (tSeq (tIfS (tNot (tB (tCall (S_law_alike 4) [] E0 (tCons (tCall S_dearest [] E0 (tCons (tVar 2) (tCons (tVar 3) (tCons (tVar 5) tNil)))) (tCons (tTup (tCons (tOp (rI0 fun i j => .int (i - j)) (tC (.int 0)) (tOp (rIx K) (tVar 7) (tC (.int 0)))) (tCons (tOp (rIx K) (tVar 7) (tC (.int 1))) tNil))) tNil))))) (tRet (tC (.bl false))) tNext)
  (tSeq (tAsg (tCB (rTupleS K) (tCons (tLc (iList K (tCall S_law_deeds [] E0 (tCons (tVar 2) (tCons (tVar 3) (tCons (tVar 4) tNil))))) (gTup K 2 (gCons (gName 17) (gCons (gName 18) gNil))) tYes (tVar 18) [17, 18]) tNil)) (gName 8))
  (tSeq (tAsg (tLst (tCons (tVar 8) (tCons (tC .non) (tCons (tTup tNil) (tCons (tCB (Evl.rListS K) (tCons (tVar 8) tNil)) (tCons (tC (.int 3)) (tCons tDNewK (tCons (tSl (rSlA K) (tVar 8) (tPart (tC (.int 1))) tNoPart) (tCons (tOp (rCatA K) (tVar 8) (tOp (rTwice K) (tSl (rSlA K) (tVar 8) (tPart (tUn (rU fun i => .int (-i)) (tC (.int 1)))) tNoPart) (tC (.int 2)))) (tCons (tRevT K (tVar 8)) (tCons (tTup (tCons (tC .non) tNil)) (tCons (tTup (tCons (tC (.int 9)) tNil)) tNil)))))))))))) (gName 9))
  (tSeq (tAsg (tOp rCat (tVar 9) (tLst (tCons (tTup (tCons (tC (.bl true)) tNil)) (tCons (tOp (rCatA K) (tVar 8) (tTup (tCons (tC (.bl true)) tNil))) tNil)))) (gName 9))
  (tSeq (tFor (iRng1 (tCons (tC (.int 4)) tNil)) (gName 10) (tDrop (tBM K "list" rAppend (tVar 9) (tCons (tCall (S_law_word K) [] E0 (tCons (tVar 1) (tCons (tVar 2) (tCons (tVar 3) (tCons (tC (.int 6)) tNil))))) tNil))))
  (tSeq (tFor (iList K (tVar 9)) (gName 11) (tSeq (tAsg (tOp (rEqD K) (tCall S_law_leads_to [] E0 (tCons (tVar 2) (tCons (tVar 3) (tCons (tVar 11) tNil)))) (tVar 4)) (gName 12))
  (tSeq (tIfS (tB (tVar 12)) (tSeq (tPar 13 14 (tCons (tVar 3) (tCons (tC (.int 0)) tNil)))
  (tSeq (tFor (iTup K (tVar 11)) (gName 15) (tPar 14 13 (tCons (tOp (rI0 fun i j => .int (i + j)) (tVar 14) (tOp (rIx K) (tOp (rIx K) (tVar 5) (tVar 15)) (tIf (tTest (tOp (rIn K false) (tVar 15) (tVar 13))) (tC (.int 1)) (tC (.int 0))))) (tCons (tCall S_law_changed [] E0 (tCons (tVar 13) (tCons (tVar 15) tNil))) tNil))))
  (tAsg (tOp (rEqD K) (tVar 14) (tDGet (tVar 6) (tVar 4))) (gName 12)))) tNext)
  (tIfS (tNot (tB (tCall (S_law_alike 4) [] E0 (tCons (tCall S_shows_cheap [] E0 (tCons (tVar 2) (tCons (tVar 3) (tCons (tVar 4) (tCons (tVar 5) (tCons (tVar 11) tNil)))))) (tCons (tVar 12) tNil))))) (tRet (tC (.bl false))) tNext))))
  (tRet (tOp rIsB (tCall S_shows_cheap [] E0 (tCons (tVar 2) (tCons (tVar 3) (tCons (tVar 4) (tCons (tVar 5) (tCons (tVar 8) tNil)))))) (tC (.bl true))))))))))))))))
def t_law (P : Program) (w : World) (K : PySem.W.Frag) : TS := (tSeq (tAsg (tLst (tCons (tVar 0) (tCons (tC (.int 0)) (tCons (tC (.int 9639)) (tCons (tC (.int 0)) tNil))))) (gName 1)) (t_law_rest P w K))
def t_law_alike0 (P : Program) (w : World) (K : PySem.W.Frag) : TS := (tSeq (tIfS (tB (tCB (rIsiT K) (tCons (tVar 1) (tCons (tTup (tCons (tC (.ty "tuple")) (tCons (tC (.ty "list")) tNil))) tNil)))) tNever tNext)
  (tSeq (tIfS (tOr (tB (tIsN (tVar 1))) (tB (tCB (rIsi K) (tCons (tVar 1) (tCons (tC (.ty "str")) tNil))))) (tRet (tAndV (tOp (rEqD K) (tVar 0) (tVar 1)) (tOp (rEqD K) (tCB (rIsi K) (tCons (tVar 0) (tCons (tC (.ty "str")) tNil))) (tCB (rIsi K) (tCons (tVar 1) (tCons (tC (.ty "str")) tNil)))))) tNext)
  (tRet (tAndV (tCB (rIsi K) (tCons (tVar 0) (tCons (tC (.ty "int")) tNil))) (tAndV (tOp (rEqD K) (tCB (rIsi K) (tCons (tVar 0) (tCons (tC (.ty "bool")) tNil))) (tCB (rIsi K) (tCons (tVar 1) (tCons (tC (.ty "bool")) tNil)))) (tOp (rEqD K) (tVar 0) (tVar 1)))))))
end Hk
set_option Elab.async false
set_option linter.all false
set_option maxRecDepth 100000
set_option maxHeartbeats 4000000
set_option autoImplicit false
/-! HkZ1: the readings kept, webs. -/
namespace Hk
open PySem PySem.Spec PyProof.Rows L2
section
variable {P : Program} {w : World} {K : PySem.W.Frag}
/-- a comprehension by one name -/
theorem lc1 {α : Type} {wi : TI} {tt : TT} {te : TE} {j : Nat} {ds : Sl} (L : List α) (enc : α → PyData) (f : α → Bool) (e : α → PyData) (hi : IterS wi ds (L.map enc)) (hz : L.length ≤ 40000) (hno : ∀ s, ds[j]? = some s → s.addr = none)
    (ht : ∀ x ∈ L, EtS tt (ds.set j (.dat (enc x))) (f x)) (he : ∀ x ∈ L, f x = true → EvS te (ds.set j (.dat (enc x))) (e x)) : EvS (tLc wi (gName j) tt te [j]) ds (.list ((L.filter f).map e)) :=
  ev_lc (js := [j]) L enc (fun x => ds.set j (.dat (enc x))) f e hi hz (fun _ h => h) (fun i hi s q => hno s (by rw [← List.mem_singleton.mp hi]; exact q)) (fun x _ => by
    have h : TgS (gName j) (enc x) [j] (wipeD ds [j]) ((wipeD ds [j]).set j (.dat (enc x))) := tg_name
    have e : (wipeD ds [j]).set j (.dat (enc x)) = ds.set j (.dat (enc x)) := List.set_set _
    rwa [e] at h) ht he
theorem set2 (ds : Sl) {i j : Nat} (h : i ≠ j) (a b : Slot) : (((ds.set j .non).set i .non).set i a).set j b = (ds.set i a).set j b := by
  rw [List.set_set, List.set_comm _ _ (Ne.symm h), List.set_set]
/-- a comprehension by two names -/
theorem lc2 {α : Type} {wi : TI} {tt : TT} {te : TE} {i j : Nat} {ds : Sl} (L : List α) (a b : α → PyData) (f : α → Bool) (e : α → PyData) (hij : i ≠ j) (hi : IterS wi ds (L.map fun x => .tuple [a x, b x])) (hz : L.length ≤ 40000) (hno : ∀ k s, k = i ∨ k = j → ds[k]? = some s → s.addr = none)
    (ht : ∀ x ∈ L, EtS tt ((ds.set i (.dat (a x))).set j (.dat (b x))) (f x)) (he : ∀ x ∈ L, f x = true → EvS te ((ds.set i (.dat (a x))).set j (.dat (b x))) (e x)) : EvS (tLc wi (gTup K 2 (gCons (gName i) (gCons (gName j) gNil))) tt te [i, j]) ds (.list ((L.filter f).map e)) :=
  ev_lc (js := [i, j]) L (fun x => .tuple [a x, b x]) (fun x => (ds.set i (.dat (a x))).set j (.dat (b x))) f e hi hz (fun _ h => h) (fun k hk s q => hno k s (by simpa using hk) q) (fun x _ => by
    have h : TgS (gTup K 2 (gCons (gName i) (gCons (gName j) gNil))) (.tuple [a x, b x]) [i, j] (wipeD ds [i, j]) (((wipeD ds [i, j]).set i (.dat (a x))).set j (.dat (b x))) := tg_tup2
    have e : ((wipeD ds [i, j]).set i (.dat (a x))).set j (.dat (b x)) = (ds.set i (.dat (a x))).set j (.dat (b x)) := set2 ds hij _ _
    rwa [e] at h) ht he
theorem no_at {ds : Sl} {j : Nat} {t : Slot} (h : ds[j]? = some t) (ht : t.addr = none) : ∀ s, ds[j]? = some s → s.addr = none := fun s q => by
  rw [h] at q
  cases q
  exact ht
theorem no_at2 {ds : Sl} {i j : Nat} {t u : Slot} (h : ds[i]? = some t) (ht : t.addr = none) (h' : ds[j]? = some u) (hu : u.addr = none) : ∀ k s, k = i ∨ k = j → ds[k]? = some s → s.addr = none := fun k s e q => by
  rcases e with e | e <;> subst e
  · rw [h] at q
    cases q
    exact ht
  · rw [h'] at q
    cases q
    exact hu
theorem len_eIs (ns : List Int) : (eIs ns).length = ns.length := List.length_map _
/-! ### numbers -/
theorem r_is_in (v : PyData) (lo hi : Int) (N : Sl → Prop) : RunE (t_is_in P w K) [.dat v, .dat (.int lo), .dat (.int hi)] N fun d _ => d = .bool (inB v lo hi) := by
  cases v with
  | int i => exact rn_ret (ev_and (ev_isi (ev_var rfl) (kb_int _)) fun _ => ev_and (ev_not (ev_isi (ev_var rfl) (kb_bool _))) fun _ => ev_chain (ev_var rfl) (ev_var rfl) rd_B0 (fun _ => ev_var rfl) fun _ => rd_B0) rfl
  | bool b => exact rn_ret (ev_and (b := false) (ev_isi (ev_var rfl) (kb_int _)) fun _ => ev_and (b := false) (ev_not (a := true) (ev_isi (ev_var rfl) (kb_bool _))) fun h => absurd h (by decide)) rfl
  | none => exact rn_ret (ev_and (b := false) (ev_isi (ev_var rfl) (kb_int _)) fun h => by cases h) rfl
  | str _ => exact rn_ret (ev_and (b := false) (ev_isi (ev_var rfl) (kb_int _)) fun h => by cases h) rfl
  | list _ => exact rn_ret (ev_and (b := false) (ev_isi (ev_var rfl) (kb_int _)) fun h => by cases h) rfl
  | tuple _ => exact rn_ret (ev_and (b := false) (ev_isi (ev_var rfl) (kb_int _)) fun h => by cases h) rfl
  | dict _ => exact rn_ret (ev_and (b := false) (ev_isi (ev_var rfl) (kb_int _)) fun h => by cases h) rfl
/-- a call of is_in -/
theorem ev_is_in {E : XK} {ta tb tc : TE} {ds : Sl} {v : PyData} {lo hi : Int} (ha : EvS ta ds v) (hb : EvS tb ds (.int lo)) (hc : EvS tc ds (.int hi)) : EvS (tCall S_is_in [] E (tCons ta (tCons tb (tCons tc tNil)))) ds (.bool (inB v lo hi)) := ev_call (ea_cons ha (ea_cons hb (ea_cons hc ea_nil))) ⟨v, lo, hi, rfl, rfl⟩
theorem inB_in {k lo hi : Int} (h : lo ≤ k ∧ k ≤ hi) : inB (.int k) lo hi = true := by
  show (decide _ && decide _) = true
  rw [decide_eq_true h.1, decide_eq_true h.2]
  rfl
theorem atI0 {α : Type} {x : α} {xs : List α} : atI (x :: xs) 0 = some x := atI_nat (j := 0) rfl
theorem atI1 {α : Type} {x y : α} {xs : List α} : atI (x :: y :: xs) 1 = some y := atI_nat (j := 1) rfl
theorem ev_isTup {te : TE} {ds : Sl} {xs : List PyData} (h : EvS te ds (.tuple xs)) : EvS (tCB (rIsi K) (tCons te (tCons (tC (.ty "tuple")) tNil))) ds (.bool true) := ev_isi h (kb_tup _)
theorem r_is_arrow (p : Int × Int) (n : Int) (hp : 0 ≤ p.1 ∧ p.1 < p.2 ∧ p.2 < n) (N : Sl → Prop) : RunE (t_is_arrow P w K) [.dat (eP p), .dat (.int n), .non] N fun d _ => d = .bool true := by
  refine rn_seq (rn_if (b := false) (et_or (a := false) (b := false) (et_not (et_B (ev_isTup (ev_var rfl)))) fun _ => et_T ((ev_op (ev_cb (ea_cons (ev_var rfl) ea_nil) (rc_lenT _)) ev_int (rd_neI _ _)).cast rfl)) (fun h => by cases h) fun _ => rn_next ?_)
  refine rn_ret (ev_and (a := true) (b := true) ((ev_op (lc1 [p.1, p.2] .int (fun k => !inB (.int k) 0 (n - 1)) .int (it_tup (ev_var rfl)) (by simp) (no_at rfl rfl) (fun k _ => et_not (et_B (ev_is_in (ev_var rfl) ev_int (ev_op (ev_var rfl) ev_int rd_I0)))) (fun k _ _ => ev_var rfl)) (ev_lst ea_nil (by simp)) (rd_eqL _ [])).cast ?_) fun _ => (ev_op (ev_op (ev_var rfl) ev_int (rd_ixT atI0)) (ev_op (ev_var rfl) ev_int (rd_ixT atI1)) rd_B0).cast ?_) rfl
  · have h1 : inB (.int p.1) 0 (n - 1) = true := inB_in (by omega)
    have h2 : inB (.int p.2) 0 (n - 1) = true := inB_in (by omega)
    rw [List.filter_eq_nil_iff.mpr]
    · rfl
    · intro k hk
      rcases List.mem_cons.mp hk with e | hk
      · rw [e, h1]
        decide
      · rw [List.mem_singleton.mp hk, h2]
        decide
  · rw [decide_eq_true hp.2.1]
/-! ### checks -/
theorem rd_leT (a b c d : Int) (h : c < a ∨ (c = a ∧ d < b)) : RD (rLeT K) (eT [a, b]) (eT [c, d]) (.bool false) := rd_of (fun _ => .bl _) fun S H x y Q w ra rb q => by
  obtain ⟨t, rfl, ht⟩ := tupI_of ra
  obtain ⟨u, rfl, hu⟩ := tupI_of rb
  refine ⟨t, u, [a, b], [c, d], rfl, rfl, .inl (.inl ht), .inl (.inl hu), ?_⟩
  have e : (Ob.lexAt (fun j => decide (([a, b] : List Int).getD j 0 = ([c, d] : List Int).getD j 0)) (fun j => decide (([a, b] : List Int).getD j 0 ≤ ([c, d] : List Int).getD j 0)) (decide (([a, b] : List Int).length ≤ ([c, d] : List Int).length)) 0 (min ([a, b] : List Int).length ([c, d] : List Int).length)) = false := by
    show (if decide (a = c) = true then (if decide (b = d) = true then true else decide (b ≤ d)) else decide (a ≤ c)) = false
    rcases h with h | ⟨h, h2⟩
    · rw [if_neg (by simp; omega)]
      exact decide_eq_false (by omega)
    · rw [if_pos (by simp; omega), if_neg (by simp; omega)]
      exact decide_eq_false (by omega)
  rw [e]
  exact q
theorem enum_at {xs : List PyData} {i : Nat} {x : PyData} (h : (enumD xs)[i]? = some x) : ∃ d, xs[i]? = some d ∧ x = .tuple [.int (i : Int), d] := by
  unfold enumD at h
  rw [List.getElem?_map] at h
  by_cases hi : i < xs.length
  · rw [List.getElem?_range hi] at h
    refine ⟨xs[i], List.getElem?_eq_getElem hi, ?_⟩
    have h := (Option.some.inj h).symm
    have e : xs.getD i .none = xs[i] := by rw [List.getD_eq_getElem?_getD, List.getElem?_eq_getElem hi] <;> rfl
    exact h.trans (congrArg (fun q => PyData.tuple [.int (i : Int), q]) e)
  · rw [List.getElem?_eq_none (by rw [List.length_range]; omega)] at h
    cases h
theorem enum_len (xs : List PyData) : (enumD xs).length = xs.length := by simp [enumD]
theorem r_need_web (n : Nat) (E : Arr) (W : WebS n E) (N : Sl → Prop) (hN : ∀ ds, N ds) (R : PyData → Sl → Prop) : RunE (t_need_web P w K) [.dat (eW n E), .non, .non] N R := by
  refine rn_seq (rn_if (b := false) (et_or (a := false) (b := false) (et_not (et_B (ev_isTup (ev_var rfl)))) fun _ => et_or (a := false) (b := false) (et_T (ev_op (ev_cb (ea_cons (ev_var rfl) ea_nil) (rc_lenT _)) ev_int (rd_neI _ _))) fun _ => et_not (et_B (ev_isTup (ev_op (ev_var rfl) ev_int (rd_ixT atI1))))) (fun h => by cases h) fun _ => rn_next ?_)
  refine rn_seq (rn_if (b := false) ((et_not (et_B (ev_is_in (ev_op (ev_var rfl) ev_int (rd_ixT atI0)) ev_int ev_int))).cast ?_) (fun h => by cases h) fun _ => rn_next ?_)
  · rw [inB_in ⟨by have := W.web.pos; omega, by have := W.web.few; omega⟩]
    rfl
  refine rn_for (enumD (E.map eP)) (fun i ds' => ∃ s1 s2, ds' = [.dat (eW n E), s1, s2]) (it_enumT (ea_cons (ev_op (ev_var rfl) ev_int (rd_ixT atI1)) ea_nil)) ⟨_, _, rfl⟩ (fun i x ds' hx ⟨s1, s2, e0⟩ => ?_) fun ds' _ => hN ds'
  subst e0
  obtain ⟨d, hd, rfl⟩ := enum_at hx
  rw [List.getElem?_map] at hd
  cases hp : E[i]? with
  | none =>
    rw [hp] at hd
    cases hd
  | some p =>
    rw [hp] at hd
    cases hd
    have pm : p ∈ E := List.mem_of_getElem? hp
    have up := W.web.up p pm
    refine ⟨[1, 2], _, tg_tup2, ?_⟩
    refine rn_if (b := false) ((et_or (a := false) (b := decide (0 < (i : Int)) && false) ?_ fun _ => et_and (et_T (ev_op (ev_var rfl) ev_int rd_B0)) fun hi => et_T ?_).cast (by rw [Bool.and_false]; rfl)) (fun h => by cases h) fun _ => rn_next ⟨_, _, rfl⟩
    · exact (et_not (et_B (ev_call (ea_cons (ev_var rfl) (ea_cons (ev_op (ev_var rfl) ev_int (rd_ixT atI0)) ea_nil)) ⟨p, (n : Int), rfl, up, rfl⟩))).cast rfl
    · obtain ⟨j, rfl⟩ : ∃ j, i = j + 1 := ⟨i - 1, by have := of_decide_eq_true hi; omega⟩
      have hj : j < E.length := by
        have := (List.getElem?_eq_some_iff.mp hp).1
        omega
      have hq : atI (E.map eP) (((j + 1 : Nat) : Int) - 1) = some (eP E[j]) := by
        have e : ((j + 1 : Nat) : Int) - 1 = (j : Int) := by omega
        rw [e]
        exact atI_nat (by rw [List.getElem?_map, List.getElem?_eq_getElem hj] <;> rfl)
      obtain ⟨h1, h2⟩ := List.getElem?_eq_some_iff.mp hp
      have lt := List.pairwise_iff_getElem.mp W.srt j (j + 1) hj h1 (by omega)
      rw [h2] at lt
      exact ev_op (ev_var rfl) (ev_op (ev_op (ev_var rfl) ev_int (rd_ixT atI1)) (ev_op (ev_var rfl) ev_int rd_I0) (rd_ixT hq)) (rd_leT p.1 p.2 E[j].1 E[j].2 (by omega))
theorem r_need_burning (n : Nat) (E : Arr) (s : List Int) (S : Std n s) (N : Sl → Prop) (hN : ∀ ds, N ds) (R : PyData → Sl → Prop) : RunE (t_need_burning P w K) [.dat (eW n E), .dat (eT s), .non, .non] N R := by
  refine rn_seq (rn_if (b := false) (et_not (et_B (ev_isTup (ev_var rfl)))) (fun h => by cases h) fun _ => rn_next ?_)
  refine rn_for (enumD (eIs s)) (fun i ds' => ∃ s1 s2, ds' = [.dat (eW n E), .dat (eT s), s1, s2]) (it_enumT (ea_cons (ev_var rfl) ea_nil)) ⟨_, _, rfl⟩ (fun i x ds' hx ⟨s1, s2, e0⟩ => ?_) fun ds' _ => hN ds'
  subst e0
  obtain ⟨d, hd, rfl⟩ := enum_at hx
  rw [List.getElem?_map] at hd
  cases hp : s[i]? with
  | none =>
    rw [hp] at hd
    cases hd
  | some p =>
    rw [hp] at hd
    cases hd
    have up := S.inr p (List.mem_of_getElem? hp)
    refine ⟨[2, 3], _, tg_tup2, ?_⟩
    refine rn_if (b := false) ((et_or (a := false) (b := decide (0 < (i : Int)) && false) ?_ fun _ => et_and (et_T (ev_op (ev_var rfl) ev_int rd_B0)) fun hi => et_T ?_).cast (by rw [Bool.and_false]; rfl)) (fun h => by cases h) fun _ => rn_next ⟨_, _, rfl⟩
    · refine (et_not (et_B (ev_is_in (ev_var rfl) ev_int (ev_op (ev_op (ev_var rfl) ev_int (rd_ixT atI0)) ev_int rd_I0)))).cast ?_
      rw [inB_in (by omega)]
      rfl
    · obtain ⟨j, rfl⟩ : ∃ j, i = j + 1 := ⟨i - 1, by have := of_decide_eq_true hi; omega⟩
      have hj : j < s.length := by
        have := (List.getElem?_eq_some_iff.mp hp).1
        omega
      have hq : atI (eIs s) (((j + 1 : Nat) : Int) - 1) = some (.int s[j]) := by
        have e : ((j + 1 : Nat) : Int) - 1 = (j : Int) := by omega
        rw [e]
        exact atI_nat (by rw [List.getElem?_map, List.getElem?_eq_getElem hj] <;> rfl)
      obtain ⟨h1, h2⟩ := List.getElem?_eq_some_iff.mp hp
      have lt := List.pairwise_iff_getElem.mp S.asc j (j + 1) hj h1 (by omega)
      rw [h2] at lt
      exact (ev_op (ev_var rfl) (ev_op (ev_var rfl) (ev_op (ev_var rfl) ev_int rd_I0) (rd_ixT hq)) rd_B0).cast (by rw [decide_eq_false (by omega)])
theorem r_need_both (n : Nat) (E : Arr) (s : List Int) (W : WebS n E) (S : Std n s) (N : Sl → Prop) (hN : ∀ ds, N ds) (R : PyData → Sl → Prop) : RunE (t_need_both P w K) [.dat (eW n E), .dat (eT s)] N R :=
  rn_seq (rn_drop (ev_call (ea_cons (ev_var rfl) ea_nil) ⟨n, E, rfl, W, rfl⟩) (rn_drop (ev_call (ea_cons (ev_var rfl) (ea_cons (ev_var rfl) ea_nil)) ⟨n, E, s, rfl, S, rfl⟩) (hN _)))
theorem r_need_two (n : Nat) (E : Arr) (s t : List Int) (W : WebS n E) (S : Std n s) (S2 : Std n t) (N : Sl → Prop) (hN : ∀ ds, N ds) (R : PyData → Sl → Prop) : RunE (t_need_two P w K) [.dat (eW n E), .dat (eT s), .dat (eT t)] N R :=
  rn_seq (rn_drop (ev_call (ea_cons (ev_var rfl) (ea_cons (ev_var rfl) ea_nil)) ⟨n, E, s, rfl, W, S, rfl⟩) (rn_drop (ev_call (ea_cons (ev_var rfl) (ea_cons (ev_var rfl) ea_nil)) ⟨n, E, t, rfl, S2, rfl⟩) (hN _)))
/-! ### arrows of a lamp -/
theorem r_ahead_in (n : Nat) (E : Arr) (l : Int) (W : WebS n E) (N : Sl → Prop) : RunE (t_ahead_in P w K) [.dat (eW n E), .dat (.int l), .non, .non] N fun d _ => d = eL (aheadL E l) := by
  refine rn_ret (lc2 E (fun p => .int p.1) (fun p => .int p.2) (fun p => decide (p.2 = l)) (fun p => .int p.1) (by decide) (it_tup (ev_op (ev_var rfl) ev_int (rd_ixT atI1))) (by have := W.len; omega) (no_at2 rfl rfl rfl rfl) (fun p _ => et_T (ev_op (ev_var rfl) (ev_var rfl) (rd_eqI _ _))) fun p _ _ => ev_var rfl) ?_
  unfold aheadL
  rw [eL, eIs, List.map_map]
  rfl
theorem r_behind_in (n : Nat) (E : Arr) (l : Int) (W : WebS n E) (N : Sl → Prop) : RunE (t_behind_in P w K) [.dat (eW n E), .dat (.int l), .non, .non] N fun d _ => d = eL (behindL E l) := by
  refine rn_ret (lc2 E (fun p => .int p.1) (fun p => .int p.2) (fun p => decide (p.1 = l)) (fun p => .int p.2) (by decide) (it_tup (ev_op (ev_var rfl) ev_int (rd_ixT atI1))) (by have := W.len; omega) (no_at2 rfl rfl rfl rfl) (fun p _ => et_T (ev_op (ev_var rfl) (ev_var rfl) (rd_eqI _ _))) fun p _ _ => ev_var rfl) ?_
  unfold behindL
  rw [eL, eIs, List.map_map]
  rfl
end
end Hk
set_option Elab.async false
set_option linter.all false
set_option maxRecDepth 100000
set_option maxHeartbeats 1000000
set_option autoImplicit false
/-! HkZ2: the readings kept, standings and deeds. -/
namespace Hk
open PySem PySem.Spec PyProof.Rows L2
section
variable {P : Program} {w : World} {K : PySem.W.Frag}
theorem rgD_rng (n : Nat) : rgD 0 n = eIs (rng n) := by
  unfold rgD rng eIs
  rw [List.map_map]
  exact List.map_congr_left fun i _ => by
    show PyData.int (0 + (i : Int)) = PyData.int (i : Int)
    rw [Int.zero_add]
theorem it_rngN {ta : TA} {ds : Sl} {n : Nat} (h : EaS ta ds [.int (n : Int)]) (h2 : n ≤ 1000) : IterS (iRng1 ta) ds (eIs (rng n)) := by
  have := it_rng1 h (by omega) (by omega)
  rw [Int.toNat_natCast, rgD_rng] at this
  exact this
theorem rng_at (n i : Nat) (h : i < n) : (eIs (rng n))[i]? = some (.int (i : Int)) := by
  unfold rng eIs
  rw [List.map_map, List.getElem?_map, List.getElem?_range h]
  rfl
theorem eIs_at {s : List Int} {i : Nat} {x : PyData} (h : (eIs s)[i]? = some x) : ∃ k, s[i]? = some k ∧ x = .int k := by
  rw [List.getElem?_map] at h
  cases e : s[i]? with
  | none =>
    rw [e] at h
    cases h
  | some k =>
    rw [e] at h
    exact ⟨k, rfl, (Option.some.inj h).symm⟩
theorem filt_all {α : Type} (l : List α) : l.filter (fun _ => true) = l := List.filter_eq_self.mpr fun _ _ => rfl
theorem r_standings (n : Nat) (hn : n ≤ 5) (N : Sl → Prop) : RunE (t_standings P w K) [.dat (eL (rng n)), .non, .non, .non] N fun d _ => d = .list ((psort n).map eT) := by
  refine rn_seq (rn_set (ev_lst (ea_cons (ev_tup ea_nil (by simp)) ea_nil) (by simp)) ?_)
  refine rn_seq (rn_for (eIs (rng n)) (fun i ds' => ∃ s2, ds' = [.dat (eL (rng n)), .dat (.list ((pset i).map eT)), s2, .non]) (it_list (ev_var rfl)) ⟨_, rfl⟩ (fun i x ds' hx ⟨s2, e0⟩ => ?_) fun ds' ⟨s2, e0⟩ => ?_)
  · subst e0
    have hi : i < n := by
      have := (List.getElem?_eq_some_iff.mp hx).1
      rw [len_eIs, rng_len] at this
      exact this
    rw [rng_at n i hi] at hx
    cases hx
    have hl : (pset i).length ≤ 32 := by
      rw [pset_len]
      exact Nat.le_trans (Nat.pow_le_pow_right (by decide) (show i ≤ 5 by omega)) (by decide)
    refine ⟨[2], _, tg_name, ?_⟩
    refine rn_set (ev_op (ev_var rfl) (lc1 (pset i) eT (fun _ => true) (fun s => eT (s ++ [(i : Int)])) (it_list (ev_var rfl)) (by omega) (no_at rfl rfl) (fun s _ => et_yes) fun s hs _ => (ev_op (ev_var rfl) (ev_tup (ea_cons (ev_var rfl) ea_nil) (by simp)) (rd_catT ?_)).cast ?_) (rd_cat ?_)) ⟨.dat (.int (i : Int)), ?_⟩
    · have := std_len (mem_pset.mp hs)
      rw [len_eIs]
      simp
      omega
    · simp [eIs]
    · rw [List.length_map, List.length_map]
      have := List.length_filter_le (fun _ => true) (pset i)
      omega
    · show [_, Slot.dat _, _, _] = _
      rw [filt_all, pset_succ, List.map_append, List.map_map]
      rfl
  · subst e0
    rw [len_eIs, rng_len]
    exact rn_ret (ev_cb (ea_cons (ev_var rfl) ea_nil) (rc_sortedU (psort_perm n) (psort_srt n))) rfl
/-! ### deeds -/
theorem lst_ext {n : Nat} {s : List Int} {p : Int → Bool} (h : s.Pairwise (· < ·)) (hm : ∀ k, k ∈ s ↔ (0 ≤ k ∧ k < (n : Int)) ∧ p k = true) : s = lst n p := asc_ext h (lst_asc n p) fun k => (hm k).trans mem_lst.symm
theorem r_light_in (n : Nat) (E : Arr) (b : List Int) (W : WebS n E) (S : Std n b) (N : Sl → Prop) : RunE (t_light_in P w K) [.dat (eW n E), .dat (eT b), .non, .non, .non, .non] N fun d _ => d = eL (lst n (canL E b)) := by
  have hb : ∀ k, (k ∉ (E.filter fun p => !decide (p.1 ∈ b)).map fun p => p.2) ↔ allA E b k = true := fun k => by
    rw [allA_iff]
    constructor
    · intro h j hj
      refine Classical.byContradiction fun hn => h (List.mem_map.mpr ⟨(j, k), List.mem_filter.mpr ⟨hj, by simpa using hn⟩, rfl⟩)
    · intro h hm
      obtain ⟨⟨j, l⟩, hp, rfl⟩ := List.mem_map.mp hm
      obtain ⟨h1, h2⟩ := List.mem_filter.mp hp
      have := h j h1
      simp [this] at h2
  refine rn_seq (rn_set (d := eL ((E.filter fun p => !decide (p.1 ∈ b)).map fun p => p.2)) ((lc2 E (fun p => .int p.1) (fun p => .int p.2) (fun p => !decide (p.1 ∈ b)) (fun p => .int p.2) (by decide) (it_tup (ev_op (ev_var rfl) ev_int (rd_ixT atI1))) (by have := W.len; omega) (no_at2 rfl rfl rfl rfl) (fun p _ => et_T (ev_op (ev_var rfl) (ev_var rfl) (rd_ninT _ _))) fun p _ _ => ev_var rfl).cast ?_) ?_)
  · rw [eL, eIs, List.map_map]
    rfl
  refine rn_ret (lc1 (rng n) .int (fun k => !decide (k ∈ b) && !decide (k ∈ (E.filter fun p => !decide (p.1 ∈ b)).map fun p => p.2)) .int (it_rngN (ea_cons (ev_op (ev_var rfl) ev_int (rd_ixT atI0)) ea_nil) (by have := W.web.few; omega)) (by rw [rng_len]; have := W.web.few; omega) (no_at rfl rfl) (fun k _ => et_and (et_T (ev_op (ev_var rfl) (ev_var rfl) (rd_ninT _ _))) fun _ => et_T (ev_op (ev_var rfl) (ev_var rfl) (rd_ninL _ _))) fun k _ _ => ev_var rfl) ?_
  show PyData.list _ = PyData.list _
  refine congrArg (fun l => PyData.list (eIs l)) (List.filter_congr fun k _ => ?_)
  unfold canL
  refine congrArg _ ?_
  rw [Bool.eq_iff_iff, ← hb k]
  simp
theorem r_quench_in (n : Nat) (E : Arr) (b : List Int) (W : WebS n E) (S : Std n b) (N : Sl → Prop) : RunE (t_quench_in P w K) [.dat (eW n E), .dat (eT b), .non, .non, .non, .non] N fun d _ => d = eL (lst n (canQ E b)) := by
  have hb : ∀ k, (k ∉ (E.filter fun p => !decide (p.2 ∈ b)).map fun p => p.1) ↔ allB E b k = true := fun k => by
    rw [allB_iff]
    constructor
    · intro h j hj
      refine Classical.byContradiction fun hn => h (List.mem_map.mpr ⟨(k, j), List.mem_filter.mpr ⟨hj, by simpa using hn⟩, rfl⟩)
    · intro h hm
      obtain ⟨⟨j, l⟩, hp, rfl⟩ := List.mem_map.mp hm
      obtain ⟨h1, h2⟩ := List.mem_filter.mp hp
      have := h l h1
      simp [this] at h2
  refine rn_seq (rn_set (d := eL ((E.filter fun p => !decide (p.2 ∈ b)).map fun p => p.1)) ((lc2 E (fun p => .int p.1) (fun p => .int p.2) (fun p => !decide (p.2 ∈ b)) (fun p => .int p.1) (by decide) (it_tup (ev_op (ev_var rfl) ev_int (rd_ixT atI1))) (by have := W.len; omega) (no_at2 rfl rfl rfl rfl) (fun p _ => et_T (ev_op (ev_var rfl) (ev_var rfl) (rd_ninT _ _))) fun p _ _ => ev_var rfl).cast ?_) ?_)
  · rw [eL, eIs, List.map_map]
    rfl
  refine rn_ret (lc1 b .int (fun k => !decide (k ∈ (E.filter fun p => !decide (p.2 ∈ b)).map fun p => p.1)) .int (it_tup (ev_var rfl)) (by have := std_len S; have := W.web.few; omega) (no_at rfl rfl) (fun k _ => et_T (ev_op (ev_var rfl) (ev_var rfl) (rd_ninL _ _))) fun k _ _ => ev_var rfl) ?_
  refine congrArg (fun l => PyData.list (eIs l)) (lst_ext (S.asc.filter _) fun k => ?_)
  rw [List.mem_filter]
  unfold canQ
  rw [Bool.and_eq_true, ← hb k]
  constructor
  · intro h
    exact ⟨S.inr k h.1, by simpa using h.1, by simpa using h.2⟩
  · intro h
    exact ⟨by simpa using h.2.1, by simpa using h.2.2⟩
theorem perm_lst {n : Nat} {p : Int → Bool} {l : List Int} (hn : l.Nodup) (hm : ∀ k, k ∈ l ↔ (0 ≤ k ∧ k < (n : Int)) ∧ p k = true) : (lst n p).Perm l := (List.perm_ext_iff_of_nodup (nodup_asc (lst_asc n p)) hn).mpr fun k => mem_lst.trans (hm k).symm
theorem le_asc {s : List Int} (h : s.Pairwise (· < ·)) : s.Pairwise (· ≤ ·) := h.imp fun q => Int.le_of_lt q
theorem tog_add {n : Nat} {b : List Int} {l : Int} (S : Std n b) (hl : 0 ≤ l ∧ l < (n : Int)) (h : l ∉ b) : (tog n b l).Perm (b ++ [l]) := by
  refine perm_lst ?_ fun k => ?_
  · rw [List.nodup_append]
    refine ⟨nodup_asc S.asc, by simp, fun a ha c hc e => ?_⟩
    rw [List.mem_singleton.mp hc] at e
    exact h (e ▸ ha)
  · rw [List.mem_append, List.mem_singleton]
    by_cases e : k = l
    · subst e
      simp [h, hl]
    · by_cases q : k ∈ b
      · simp [q, e, S.inr k q]
      · simp [q, e]
theorem tog_cut {n : Nat} {b : List Int} {l : Int} (S : Std n b) (h : l ∈ b) : b.filter (fun k => !decide (k = l)) = tog n b l := by
  refine lst_ext (S.asc.filter _) fun k => ?_
  rw [List.mem_filter]
  by_cases e : k = l
  · subst e
    simp [h]
  · by_cases q : k ∈ b
    · simp [q, e, S.inr k q]
    · simp [q, e]
theorem r_changed (n : Nat) (b : List Int) (l : Int) (S : Std n b) (hl : 0 ≤ l ∧ l < (n : Int)) (hn : n ≤ 5) (N : Sl → Prop) : RunE (t_changed P w K) [.dat (eT b), .dat (.int l), .non] N fun d _ => d = eT (tog n b l) := by
  have hz : b.length ≤ 5 := Nat.le_trans (std_len S) hn
  refine rn_seq (rn_if (et_T (ev_op (ev_var rfl) (ev_var rfl) (rd_inT _ _))) (fun h => ?_) fun h => rn_next ?_)
  · refine rn_ret (ev_cb (ea_cons (lc1 b .int (fun k => !decide (k = l)) .int (it_tup (ev_var rfl)) (by omega) (no_at rfl rfl) (fun k _ => et_T (ev_op (ev_var rfl) (ev_var rfl) (rd_neI _ _))) fun k _ _ => ev_var rfl) ea_nil) (rc_tuple _)) ?_
    rw [tog_cut S (of_decide_eq_true h)]
  · refine rn_ret (ev_cb (ea_cons (ev_cb (ea_cons (EvE.cast (ev_op (ev_var rfl) (ev_tup (ea_cons (ev_var rfl) ea_nil) (by simp)) (rd_catT ?_)) (d' := eT (b ++ [l])) ?_) ea_nil) (rc_sortedT (ms := tog n b l) (tog_add S hl (of_decide_eq_false h)) (le_asc (lst_asc _ _)))) ea_nil) (rc_tuple _)) rfl
    · rw [len_eIs]
      simp
      omega
    · simp [eIs]
theorem r_doable (n : Nat) (E : Arr) (b : List Int) (W : WebS n E) (S : Std n b) (N : Sl → Prop) : RunE (t_doable P w K) [.dat (eW n E), .dat (eT b)] N fun d _ => d = eL (deeds n E b) := by
  have h5 := W.web.few
  have l1 := lst_len n (canL E b)
  have l2 := lst_len n (canQ E b)
  refine rn_ret (ev_cb (ea_cons (EvE.cast (ev_op (ev_call (ea_cons (ev_var rfl) (ea_cons (ev_var rfl) ea_nil)) ⟨n, E, b, rfl, W, S, rfl⟩) (ev_call (ea_cons (ev_var rfl) (ea_cons (ev_var rfl) ea_nil)) ⟨n, E, b, rfl, W, S, rfl⟩) (rd_cat ?_)) (d' := eL (lst n (canL E b) ++ lst n (canQ E b))) ?_) ea_nil) (rc_sortedL (ms := deeds n E b) (perm_lst ?_ fun k => ?_) (le_asc (lst_asc _ _)))) rfl
  · rw [len_eIs, len_eIs]
    omega
  · simp [eIs]
  · rw [List.nodup_append]
    refine ⟨nodup_asc (lst_asc _ _), nodup_asc (lst_asc _ _), fun a ha c hc e => ?_⟩
    subst e
    have h1 := (mem_lst.mp ha).2
    have h2 := (mem_lst.mp hc).2
    unfold canL at h1
    unfold canQ at h2
    rw [Bool.and_eq_true] at h1 h2
    have := h2.1
    simp [of_decide_eq_true this] at h1
  · rw [List.mem_append, mem_lst, mem_lst]
    unfold can
    rw [Bool.or_eq_true]
    exact ⟨fun h => h.elim (fun q => ⟨q.1, .inl q.2⟩) fun q => ⟨q.1, .inr q.2⟩, fun ⟨h, q⟩ => q.imp (fun z => ⟨h, z⟩) fun z => ⟨h, z⟩⟩
/-! ### words -/
theorem plain_flat : ∀ {xs : List PyData}, xs.all flatD = true → plainAll xs = true ∧ PyData.canLayAll0 xs = true ∧ PyData.depthAll xs ≤ 1
  | [], _ => ⟨rfl, rfl, by decide⟩
  | x :: xs, h => by
    rw [List.all_cons, Bool.and_eq_true] at h
    obtain ⟨a, b, c⟩ := plain_flat h.2
    have hx : plain x = true ∧ PyData.canLay0 x = true ∧ PyData.depth x ≤ 1 := by
      cases x with
      | none => exact ⟨rfl, rfl, by simp [PyData.depth]⟩
      | bool _ => exact ⟨rfl, rfl, by simp [PyData.depth]⟩
      | int _ => exact ⟨rfl, rfl, by simp [PyData.depth]⟩
      | str _ => exact absurd h.1 Bool.false_ne_true
      | list _ => exact absurd h.1 Bool.false_ne_true
      | tuple _ => exact absurd h.1 Bool.false_ne_true
      | dict _ => exact absurd h.1 Bool.false_ne_true
    refine ⟨?_, ?_, ?_⟩
    · show (plain x && plainAll xs) = true
      rw [hx.1, a]
      rfl
    · show (PyData.canLay0 x && PyData.canLayAll0 xs) = true
      rw [hx.2.1, b]
      rfl
    · show max (PyData.depth x) (PyData.depthAll xs) ≤ 1
      omega
theorem shaped_flat {xs : List PyData} (h : xs.all flatD = true) : SeqAt.shaped (.list xs) = true := by
  obtain ⟨_, b, c⟩ := plain_flat h
  exact shaped_of b (by rw [dep_list]; omega)
theorem ev_flatNil {ta tb : TE} {ds : Sl} {xs : List PyData} (ha : EvS ta ds (.list xs)) (hb : EvS tb ds (.list [])) (h : xs.all flatD = true) : EvS (tOp (rEqD K) ta tb) ds (.bool (decide (xs = []))) := ev_op ha hb (rd_eqNil xs (plain_flat h).1 (shaped_flat h))
theorem all_sub {xs : List PyData} (h : xs.all flatD = true) (f : PyData → Bool) : (xs.filter f).all flatD = true := List.all_eq_true.mpr fun x hx => List.all_eq_true.mp h x (List.mem_filter.mp hx).1
theorem intsOf_int (i : Int) (xs : List PyData) : intsOf (.int i :: xs) = (intsOf xs).map (i :: ·) := rfl
def rgAll (n : Nat) (ws : List Int) : Bool := ws.all fun k => decide (0 ≤ k) && decide (k < (n : Int))
theorem ints_all (n : Nat) : ∀ xs : List PyData, (xs.all fun x => inB x 0 ((n : Int) - 1)) = ((intsOf xs).map (rgAll n)).getD false
  | [] => rfl
  | x :: xs => by
    rw [List.all_cons, ints_all n xs]
    cases x with
    | int i =>
      rw [intsOf_int]
      have e : inB (.int i) 0 ((n : Int) - 1) = (decide (0 ≤ i) && decide (i < (n : Int))) := by
        show (decide (0 ≤ i) && decide (i ≤ (n : Int) - 1)) = _
        have e2 : decide (i ≤ (n : Int) - 1) = decide (i < (n : Int)) := decide_eq_decide.mpr (by omega)
        rw [e2]
      rw [e]
      cases intsOf xs with
      | none =>
        show (_ && false) = false
        rw [Bool.and_false]
      | some ws => rfl
    | none => rfl
    | bool _ => rfl
    | str _ => rfl
    | list _ => rfl
    | tuple _ => rfl
    | dict _ => rfl
theorem lampsOf_tup (n : Nat) (xs : List PyData) : lampsOf n (.tuple xs) = (intsOf xs).bind fun ws => if rgAll n ws = true then some ws else none := by
  unfold lampsOf
  cases h : intsOf xs with
  | none => simp only [h, Option.bind_none]
  | some ws => simp only [h, Option.bind_some] <;> rfl
theorem lamps_all (n : Nat) (xs : List PyData) : (xs.all fun x => inB x 0 ((n : Int) - 1)) = (lampsOf n (.tuple xs)).isSome := by
  rw [ints_all, lampsOf_tup]
  cases intsOf xs with
  | none => rfl
  | some ws =>
    show rgAll n ws = Option.isSome (if rgAll n ws = true then some ws else none)
    cases rgAll n ws <;> rfl
theorem filt_nil {α : Type} (f : α → Bool) (xs : List α) : decide (xs.filter (fun x => !f x) = []) = xs.all f := by
  rw [Bool.eq_iff_iff, decide_eq_true_eq, List.filter_eq_nil_iff, List.all_eq_true]
  exact forall₂_congr fun x _ => by simp
theorem r_is_lamps (n : Nat) (E : Arr) (v : PyData) (O : Odd v) (N : Sl → Prop) : RunE (t_is_lamps P w K) [.dat (eW n E), .dat v, .non] N fun d _ => d = .bool (lampsOf n v).isSome := by
  rcases O with h | ⟨xs, rfl, hf, hl⟩
  · refine rn_seq (rn_if (b := true) (et_or (a := true) (b := true) ((et_not (et_B (ev_isi (ev_var rfl) (kb_tup v)))).cast (by rw [h]; rfl)) fun h => by cases h) (fun _ => rn_ret ev_bl ?_) fun h => by cases h)
    cases v with
    | tuple _ => cases h
    | _ => rfl
  · refine rn_seq (rn_if (b := false) ((et_or (a := false) (b := false) (et_not (et_B (ev_isTup (ev_var rfl)))) fun _ => (et_T (ev_op (ev_cb (ea_cons (ev_var rfl) ea_nil) (rc_lenT _)) ev_int rd_B0)).cast ?_)) (fun h => by cases h) fun _ => rn_next ?_)
    · exact decide_eq_false (by omega)
    refine rn_ret (ev_flatNil (xs := xs.filter fun x => !inB x 0 ((n : Int) - 1)) (EvE.cast (lc1 xs id (fun x => !inB x 0 ((n : Int) - 1)) id (by rw [List.map_id]; exact it_tup (ev_var rfl)) (by omega) (no_at rfl rfl) (fun x _ => et_not (et_B (ev_is_in (ev_var rfl) ev_int (ev_op (ev_op (ev_var rfl) ev_int (rd_ixT atI0)) ev_int rd_I0)))) fun x _ _ => ev_var rfl) (by rw [List.map_id])) (ev_lst ea_nil (by simp)) (all_sub hf _)) ?_
    rw [filt_nil, lamps_all]
theorem atI_last {α : Type} (xs : List α) (x : α) : atI (xs ++ [x]) (-1) = some x := by
  unfold atI ixN
  have e : (-1 + ((xs.length : Int) + 1)).toNat = xs.length := by omega
  simp [e, show 1 ≤ (xs.length : Int) + 1 by omega]
theorem lineL_stop {n : Nat} {E : Arr} {b : List Int} {l : Int} {ws : List Int} (h : can E b l = false) : lineL n E b (l :: ws) = [b] := by
  unfold lineL
  rw [h]
  rfl
theorem lineL_go {n : Nat} {E : Arr} {b : List Int} {l : Int} {ws : List Int} (h : can E b l = true) : lineL n E b (l :: ws) = b :: lineL n E (tog n b l) ws := by
  rw [lineL, if_pos h]
theorem r_line_in (n : Nat) (E : Arr) (b ws : List Int) (W : WebS n E) (S : Std n b) (hw : ∀ k ∈ ws, 0 ≤ k ∧ k < (n : Int)) (hl : ws.length ≤ 100) (N : Sl → Prop) : RunE (t_line_in P w K) [.dat (eW n E), .dat (eT b), .dat (eT ws), .non, .non] N fun d _ => d = .list ((lineL n E b ws).map eT) := by
  refine rn_seq (rn_setN (en_lst (ea_cons (ev_var rfl) ea_nil) (by simp)) fun p => ?_)
  refine rn_seq (rn_for (eIs ws) (fun i ds' => ∃ (pre : List (List Int)) (cur : List Int) (s4 : Slot), pre.length = i ∧ Std n cur ∧ lineL n E b ws = pre ++ lineL n E cur (ws.drop i) ∧ ds' = [.dat (eW n E), .dat (eT b), .dat (eT ws), .own p ((pre ++ [cur]).map eT), s4]) (it_tup (ev_var rfl)) ⟨[], b, .non, rfl, S, rfl, rfl⟩ (fun i x ds' hx ⟨pre, cur, s4, hp, Sc, he, e0⟩ => ?_) fun ds' ⟨pre, cur, s4, hp, Sc, he, e0⟩ => ?_)
  · subst e0
    obtain ⟨l, hl2, rfl⟩ := eIs_at hx
    obtain ⟨hi, hg⟩ := List.getElem?_eq_some_iff.mp hl2
    have hlr := hw l (hg ▸ List.getElem_mem hi)
    have hd : ws.drop i = l :: ws.drop (i + 1) := by rw [List.drop_eq_getElem_cons hi, hg]
    have hlast : atI ((pre ++ [cur]).map eT) (-1) = some (eT cur) := by
      rw [List.map_append]
      exact atI_last _ _
    refine ⟨[4], _, tg_name, ?_⟩
    refine rn_seq (rn_if (et_T (ev_op (ev_var rfl) (ev_call (ea_cons (ev_var rfl) (ea_cons (ev_ixOwn rfl (ev_un ev_int ru_I) hlast) ea_nil)) ⟨n, E, cur, rfl, W, Sc, rfl⟩) (rd_ninL _ _))) (fun h => ?_) fun h => rn_next ?_)
    · refine rn_retOwn rfl ?_
      have hc : can E cur l = false := by
        cases hc : can E cur l with
        | false => rfl
        | true =>
          rw [decide_eq_true (mem_deeds.mpr ⟨hlr, hc⟩)] at h
          cases h
      rw [he, hd, lineL_stop hc]
    · have hc : can E cur l = true := by
        have : l ∈ deeds n E cur := by simpa using h
        exact (mem_deeds.mp this).2
      refine rn_app rfl (ev_call (ea_cons (ev_ixOwn rfl (ev_un ev_int ru_I) hlast) (ea_cons (ev_var rfl) ea_nil)) ⟨n, cur, l, rfl, Sc, hlr, W.web.few, rfl⟩) (by simp; omega) ⟨pre ++ [cur], tog n cur l, .dat (.int l), by simp [hp], std_tog _ _ _, ?_, ?_⟩
      · rw [he, hd, lineL_go hc]
        simp
      · show [_, _, _, Slot.own p _, _] = _
        simp
  · subst e0
    refine rn_retOwn rfl ?_
    rw [he, len_eIs, List.drop_length]
    rfl
theorem filt_lst {n : Nat} {s : List Int} (S : Std n s) (f : Int → Bool) : s.filter f = lst n fun k => decide (k ∈ s) && f k := lst_ext (S.asc.filter f) fun k => by
  rw [List.mem_filter]
  constructor
  · intro h
    exact ⟨S.inr k h.1, by simp [h.1, h.2]⟩
  · intro h
    simpa using h.2
theorem r_sides (n : Nat) (one other : List Int) (hn : n ≤ 5) (S : Std n one) (S2 : Std n other) (N : Sl → Prop) : RunE (t_sides P w K) [.dat (eT one), .dat (eT other), .non] N fun d _ => d = .tuple [eL (lst n fun k => decide (k ∈ other) && !decide (k ∈ one)), eL (lst n fun k => decide (k ∈ one) && !decide (k ∈ other))] := by
  have h1 := std_len S
  have h2 := std_len S2
  refine rn_ret (ev_tup (ea_cons (lc1 other .int (fun k => !decide (k ∈ one)) .int (it_tup (ev_var rfl)) (by omega) (no_at rfl rfl) (fun k _ => et_T (ev_op (ev_var rfl) (ev_var rfl) (rd_ninT _ _))) fun k _ _ => ev_var rfl) (ea_cons (lc1 one .int (fun k => !decide (k ∈ other)) .int (it_tup (ev_var rfl)) (by omega) (no_at rfl rfl) (fun k _ => et_T (ev_op (ev_var rfl) (ev_var rfl) (rd_ninT _ _))) fun k _ _ => ev_var rfl) ea_nil)) (by simp)) ?_
  rw [filt_lst S, filt_lst S2]
end
end Hk
set_option Elab.async false
set_option linter.all false
set_option maxRecDepth 100000
set_option maxHeartbeats 1000000
set_option autoImplicit false
/-! HkZ3: the readings kept, lamps that burn for a time, prices. -/
namespace Hk
open PySem PySem.Spec PyProof.Rows L2
section
variable {P : Program} {w : World} {K : PySem.W.Frag}
theorem mem_ahead {E : Arr} {l k : Int} : k ∈ aheadL E l ↔ (k, l) ∈ E := by
  unfold aheadL
  rw [List.mem_map]
  constructor
  · rintro ⟨⟨a, b⟩, hp, rfl⟩
    obtain ⟨h1, h2⟩ := List.mem_filter.mp hp
    have : b = l := by simpa using h2
    subst this
    exact h1
  · intro h
    exact ⟨(k, l), List.mem_filter.mpr ⟨h, by simp⟩, rfl⟩
theorem mem_behind {E : Arr} {l k : Int} : k ∈ behindL E l ↔ (l, k) ∈ E := by
  unfold behindL
  rw [List.mem_map]
  constructor
  · rintro ⟨⟨a, b⟩, hp, rfl⟩
    obtain ⟨h1, h2⟩ := List.mem_filter.mp hp
    have : a = l := by simpa using h2
    subst this
    exact h1
  · intro h
    exact ⟨(l, k), List.mem_filter.mpr ⟨h, by simp⟩, rfl⟩
theorem sum_one {ls : List Int} (hn : ls.Nodup) (a : Int) : (ls.map fun l => if a = l then 1 else 0).sum ≤ 1 := by
  induction ls with
  | nil => simp
  | cons x ls ih =>
    obtain ⟨h1, h2⟩ := List.nodup_cons.mp hn
    rw [List.map_cons, List.sum_cons]
    by_cases e : a = x
    · subst e
      have : (ls.map fun l => if a = l then 1 else 0).sum = 0 := by
        have h3 : ls.map (fun l => if a = l then 1 else 0) = ls.map (fun _ => (0 : Nat)) := List.map_congr_left fun l hl => if_neg fun e => h1 (by rw [e]; exact hl)
        rw [h3]
        clear h3 ih h1 h2 hn
        induction ls with
        | nil => rfl
        | cons y ls ih => simpa using ih
      rw [this]
      simp
    · rw [if_neg e]
      have := ih h2
      omega
theorem flat_len (f : Int × Int → Int) (g : Int × Int → Int) {ls : List Int} (hn : ls.Nodup) : ∀ E : Arr, (ls.flatMap fun l => (E.filter fun p => decide (f p = l)).map g).length ≤ E.length
  | [] => by
    have : (ls.flatMap fun l => (([] : Arr).filter fun p => decide (f p = l)).map g) = [] := by simp
    rw [this]
    exact Nat.le_refl _
  | p :: E => by
    have ih := flat_len f g hn E
    have h1 := sum_one hn (f p)
    rw [List.length_flatMap] at ih ⊢
    have e : (ls.map fun l => (((p :: E).filter fun p => decide (f p = l)).map g).length).sum = (ls.map fun l => if f p = l then 1 else 0).sum + (ls.map fun l => ((E.filter fun p => decide (f p = l)).map g).length).sum := by
      clear ih h1 hn
      induction ls with
      | nil => rfl
      | cons x ls ih2 =>
        simp only [List.map_cons, List.sum_cons]
        rw [ih2]
        have : (((p :: E).filter fun p => decide (f p = x)).map g).length = (if f p = x then 1 else 0) + ((E.filter fun p => decide (f p = x)).map g).length := by
          by_cases e : f p = x
          · rw [List.filter_cons_of_pos (by simpa using e), if_pos e, List.map_cons, List.length_cons]
            omega
          · rw [List.filter_cons_of_neg (by simpa using e), if_neg e]
            omega
        rw [this]
        omega
    rw [e, List.length_cons]
    omega
theorem ahead_len {E : Arr} {ls : List Int} (hn : ls.Nodup) : (ls.flatMap (aheadL E)).length ≤ E.length := flat_len (fun p => p.2) (fun p => p.1) hn E
theorem behind_len {E : Arr} {ls : List Int} (hn : ls.Nodup) : (ls.flatMap (behindL E)).length ≤ E.length := flat_len (fun p => p.1) (fun p => p.2) hn E
theorem eIs_app (a b : List Int) : eIs a ++ eIs b = eIs (a ++ b) := (List.map_append).symm
theorem ev_catL {ta tb : TE} {ds : Sl} {a b : List Int} (ha : EvS ta ds (eL a)) (hb : EvS tb ds (eL b)) (h : a.length + b.length ≤ 1000) : EvS (tOp rCat ta tb) ds (eL (a ++ b)) := (ev_op ha hb (rd_cat (by rw [len_eIs, len_eIs]; omega))).cast (by rw [eIs_app])
theorem take_flat {f : Int → List Int} {ls : List Int} {i : Nat} {l : Int} (h : ls[i]? = some l) : (ls.take (i + 1)).flatMap f = (ls.take i).flatMap f ++ f l := by
  rw [List.take_add_one, h, List.flatMap_append]
  simp
theorem nodup_app {n : Nat} {p : Int → Bool} {s : List Int} (hs : s.Nodup) (h : ∀ k, p k = true → k ∉ s) : (lst n p ++ s).Nodup := by
  rw [List.nodup_append]
  refine ⟨nodup_asc (lst_asc _ _), hs, fun a ha c hc e => ?_⟩
  subst e
  exact h a (mem_lst.mp ha).2 hc
theorem r_needs_of (n : Nat) (E : Arr) (one other some : List Int) (W : WebS n E) (S1 : Std n one) (S2 : Std n other) (S : Std n some) (hd : ∀ k ∈ some, k ∉ one ∧ k ∉ other) (N : Sl → Prop) : RunE (t_needs_of P w K) [.dat (eW n E), .dat (eT one), .dat (eT other), .dat (eL some), .non, .non, .non, .non, .non] N fun d _ => d = eL (needL n E one other some) := by
  have h5 := W.web.few
  have ls := std_len S
  obtain ⟨fresh, hf⟩ : ∃ fresh, fresh = lst n fun k => decide (k ∈ other) && !decide (k ∈ one) := ⟨_, rfl⟩
  obtain ⟨old, ho⟩ : ∃ old, old = lst n fun k => decide (k ∈ one) && !decide (k ∈ other) := ⟨_, rfl⟩
  have mf : ∀ k, k ∈ fresh ↔ k ∈ other ∧ k ∉ one := fun k => by
    rw [hf, mem_lst]
    exact ⟨fun h => by simpa using h.2, fun h => ⟨S2.inr k h.1, by simpa using h⟩⟩
  have mo : ∀ k, k ∈ old ↔ k ∈ one ∧ k ∉ other := fun k => by
    rw [ho, mem_lst]
    exact ⟨fun h => by simpa using h.2, fun h => ⟨S1.inr k h.1, by simpa using h⟩⟩
  have nf : (fresh ++ some).Nodup := by
    rw [hf]
    refine nodup_app (nodup_asc S.asc) fun k hk q => ?_
    have := (hd k q).2
    simp [this] at hk
  have no : (old ++ some).Nodup := by
    rw [ho]
    refine nodup_app (nodup_asc S.asc) fun k hk q => ?_
    have := (hd k q).1
    simp [this] at hk
  have lf : fresh.length ≤ 5 := by
    rw [hf]
    exact Nat.le_trans (lst_len _ _) h5
  have lo : old.length ≤ 5 := by
    rw [ho]
    exact Nat.le_trans (lst_len _ _) h5
  have hE := W.len
  refine rn_seq (rn_asg (js := [4, 5]) (ev_call (ea_cons (ev_var rfl) (ea_cons (ev_var rfl) ea_nil)) ⟨n, one, other, rfl, h5, S1, S2, rfl⟩) tg_tup2 ?_)
  rw [← hf, ← ho]
  refine rn_seq (rn_set (d := eL []) (ev_lst ea_nil (by simp)) ?_)
  refine rn_seq (rn_for (eIs (fresh ++ some)) (fun i ds' => ∃ s7, ds' = [.dat (eW n E), .dat (eT one), .dat (eT other), .dat (eL some), .dat (eL fresh), .dat (eL old), .dat (eL (((fresh ++ some).take i).flatMap (aheadL E))), s7, .non]) (it_list (ev_catL (ev_var rfl) (ev_var rfl) (by omega))) ⟨.non, rfl⟩ (fun i x ds' hx ⟨s7, e0⟩ => ?_) fun ds' ⟨s7, e0⟩ => ?_)
  · subst e0
    obtain ⟨l, hl, rfl⟩ := eIs_at hx
    refine ⟨[7], _, tg_name, ?_⟩
    have b1 := ahead_len (E := E) (nf.sublist (List.take_sublist (i + 1) _))
    rw [take_flat hl, List.length_append] at b1
    refine rn_set (ev_catL (ev_var rfl) (ev_call (ea_cons (ev_var rfl) (ea_cons (ev_var rfl) ea_nil)) ⟨n, E, l, rfl, W, rfl⟩) (by omega)) ⟨.dat (.int l), ?_⟩
    rw [take_flat hl]
    rfl
  subst e0
  rw [len_eIs, List.take_length]
  have b1 := ahead_len (E := E) nf
  obtain ⟨A, hA⟩ : ∃ A, A = (fresh ++ some).flatMap (aheadL E) := ⟨_, rfl⟩
  rw [← hA] at b1 ⊢
  refine rn_seq (rn_for (eIs (old ++ some)) (fun i ds' => ∃ s7, ds' = [.dat (eW n E), .dat (eT one), .dat (eT other), .dat (eL some), .dat (eL fresh), .dat (eL old), .dat (eL (A ++ ((old ++ some).take i).flatMap (behindL E))), s7, .non]) (it_list (ev_catL (ev_var rfl) (ev_var rfl) (by omega))) ⟨s7, by simp⟩ (fun i x ds' hx ⟨s7, e0⟩ => ?_) fun ds' ⟨s7, e0⟩ => ?_)
  · subst e0
    obtain ⟨l, hl, rfl⟩ := eIs_at hx
    refine ⟨[7], _, tg_name, ?_⟩
    have b2 := behind_len (E := E) (no.sublist (List.take_sublist (i + 1) _))
    rw [take_flat hl, List.length_append] at b2
    refine rn_set (ev_catL (ev_var rfl) (ev_call (ea_cons (ev_var rfl) (ea_cons (ev_var rfl) ea_nil)) ⟨n, E, l, rfl, W, rfl⟩) (by rw [List.length_append]; omega)) ⟨.dat (.int l), ?_⟩
    rw [take_flat hl, ← List.append_assoc]
    rfl
  subst e0
  rw [len_eIs, List.take_length]
  have b2 := behind_len (E := E) no
  obtain ⟨B, hB⟩ : ∃ B, B = (old ++ some).flatMap (behindL E) := ⟨_, rfl⟩
  rw [← hB] at b2 ⊢
  have lAB : (A ++ B).length ≤ 50 := by
    rw [List.length_append]
    omega
  refine rn_ret (ev_dsort (ns := (A ++ B).filter fun k => !decide (k ∈ one) && !decide (k ∈ other)) (lc1 (A ++ B) .int (fun k => !decide (k ∈ one) && !decide (k ∈ other)) .int (it_list (ev_var rfl)) (by omega) (no_at rfl rfl) (fun k _ => et_and (et_T (ev_op (ev_var rfl) (ev_var rfl) (rd_ninT _ _))) fun _ => et_T (ev_op (ev_var rfl) (ev_var rfl) (rd_ninT _ _))) fun k _ _ => ev_var rfl) ?_ (lst_asc n (needs E one other some)) fun k => ?_) rfl
  · have := List.length_filter_le (fun k => !decide (k ∈ one) && !decide (k ∈ other)) (A ++ B)
    omega
  · rw [mem_lst, needs_iff, List.mem_filter, List.mem_append, hA, hB, List.mem_flatMap, List.mem_flatMap]
    have inr : ∀ k l : Int, (k, l) ∈ E → (0 ≤ k ∧ k < (n : Int)) ∧ 0 ≤ l ∧ l < (n : Int) := fun k l h => by
      have := W.web.up _ h
      simp only at this
      omega
    constructor
    · rintro ⟨_, ⟨h1, h2⟩, q⟩
      refine ⟨q.imp (fun ⟨l, h3, h4⟩ => ⟨l, ?_, mem_ahead.mpr h3⟩) fun ⟨l, h3, h4⟩ => ⟨l, ?_, mem_behind.mpr h3⟩, by simp [h1, h2]⟩
      · rw [List.mem_append, mf]
        exact h4
      · rw [List.mem_append, mo]
        exact h4
    · rintro ⟨q, h⟩
      have h' : k ∉ one ∧ k ∉ other := by simpa using h
      rcases q with ⟨l, h3, h4⟩ | ⟨l, h3, h4⟩
      · rw [List.mem_append, mf] at h3
        exact ⟨(inr k l (mem_ahead.mp h4)).1, h', .inl ⟨l, mem_ahead.mp h4, h3⟩⟩
      · rw [List.mem_append, mo] at h3
        exact ⟨(inr l k (mem_behind.mp h4)).2, h', .inr ⟨l, mem_behind.mp h4, h3⟩⟩
theorem r_spare_in (n : Nat) (E : Arr) (one other : List Int) (W : WebS n E) (S1 : Std n one) (S2 : Std n other) (N : Sl → Prop) : RunE (t_spare_in P w K) [.dat (eW n E), .dat (eT one), .dat (eT other), .non] N fun d _ => d = eL (spareL n E one other) := by
  have h5 := W.web.few
  refine rn_seq (rn_set (d := eL []) (ev_lst ea_nil (by simp)) ?_)
  refine rn_seq (rn_while (fun m ds' => ∃ s, Grows n E one other s ∧ m = n - s.length ∧ ds' = [.dat (eW n E), .dat (eT one), .dat (eT other), .dat (eL s)]) (n - 0) ⟨[], Grows.nil n E one other, rfl, rfl⟩ fun m ds' ⟨s, g, hm, e0⟩ => ?_)
  subst e0
  have ds := std_len g.std
  have hcall : EvS (tCall S_needs_of [] E0 (tCons (tVar 0) (tCons (tVar 1) (tCons (tVar 2) (tCons (tVar 3) tNil))))) [.dat (eW n E), .dat (eT one), .dat (eT other), .dat (eL s)] (eL (needL n E one other s)) :=
    ev_call (ea_cons (ev_var rfl) (ea_cons (ev_var rfl) (ea_cons (ev_var rfl) (ea_cons (ev_var rfl) ea_nil)))) ⟨n, E, one, other, s, rfl, W, S1, S2, g.std, fun k hk => (g.spare k hk).dark, rfl⟩
  refine ⟨_, et_T (ev_op hcall (ev_var rfl) (rd_neL _ _)), fun h => ?_, fun h => ?_⟩
  · have hne : needL n E one other s ≠ s := by simpa using h
    obtain ⟨g2, hlt⟩ := g.step W.web hne
    have l2 := std_len g2.std
    have l3 : (needL n E one other s).length ≤ n := lst_len _ _
    refine rn_set (ev_dsort (ev_catL (ev_var rfl) hcall (by omega)) (by rw [List.length_append]; omega) (lst_asc n _) fun k => ?_) ⟨n - (grow n E one other s).length, by omega, grow n E one other s, g2, rfl, rfl⟩
    rw [mem_lst, List.mem_append, Bool.or_eq_true, decide_eq_true_eq]
    unfold needL
    rw [mem_lst]
    exact ⟨fun h => h.2.imp id fun q => ⟨h.1, q⟩, fun h => h.elim (fun q => ⟨g.std.inr k q, .inl q⟩) fun q => ⟨q.1, .inr q.2⟩⟩
  · have he : needL n E one other s = s := by simpa using h
    exact rn_ret (ev_var rfl) (by rw [g.done W.web he])
theorem r_lit_in (n : Nat) (E : Arr) (one other : List Int) (W : WebS n E) (S1 : Std n one) (S2 : Std n other) (N : Sl → Prop) : RunE (t_lit_in P w K) [.dat (eW n E), .dat (eT one), .dat (eT other)] N fun d _ => d = eL (litL n E one other) := by
  have h5 := W.web.few
  have l1 := lst_len n fun k => decide (k ∈ other) && !decide (k ∈ one)
  have l2 : (spareL n E one other).length ≤ n := lst_len n _
  refine rn_ret (ev_cb (ea_cons (ev_catL (ev_op (ev_call (ea_cons (ev_var rfl) (ea_cons (ev_var rfl) ea_nil)) ⟨n, one, other, rfl, h5, S1, S2, rfl⟩) ev_int (rd_ixT atI0)) (ev_call (ea_cons (ev_var rfl) (ea_cons (ev_var rfl) (ea_cons (ev_var rfl) ea_nil))) ⟨n, E, one, other, rfl, W, S1, S2, rfl⟩) (by omega)) ea_nil) (rc_sortedL (ms := litL n E one other) (perm_lst (nodup_app (nodup_asc (lst_asc _ _)) fun k h q => ?_) fun k => ?_) (le_asc (lst_asc _ _)))) rfl
  · have := ((mem_spareL W.web).mp q).dark.2
    simp [this] at h
  · rw [List.mem_append, mem_lst, mem_spareL W.web, litB_iff]
    unfold Lit
    constructor
    · rintro (⟨h1, h2⟩ | h)
      · exact ⟨h1, .inl (by simpa using h2)⟩
      · exact ⟨h.inr W.web, .inr h⟩
    · rintro ⟨h1, h2 | h2⟩
      · exact .inl ⟨h1, by simpa using h2⟩
      · exact .inr h2
theorem r_out_in (n : Nat) (E : Arr) (one other : List Int) (W : WebS n E) (S1 : Std n one) (S2 : Std n other) (N : Sl → Prop) : RunE (t_out_in P w K) [.dat (eW n E), .dat (eT one), .dat (eT other)] N fun d _ => d = eL (outL n E one other) := by
  have h5 := W.web.few
  have l1 := lst_len n fun k => decide (k ∈ one) && !decide (k ∈ other)
  have l2 : (spareL n E one other).length ≤ n := lst_len n _
  refine rn_ret (ev_cb (ea_cons (ev_catL (ev_op (ev_call (ea_cons (ev_var rfl) (ea_cons (ev_var rfl) ea_nil)) ⟨n, one, other, rfl, h5, S1, S2, rfl⟩) ev_int (rd_ixT atI1)) (ev_call (ea_cons (ev_var rfl) (ea_cons (ev_var rfl) (ea_cons (ev_var rfl) ea_nil))) ⟨n, E, one, other, rfl, W, S1, S2, rfl⟩) (by omega)) ea_nil) (rc_sortedL (ms := outL n E one other) (perm_lst (nodup_app (nodup_asc (lst_asc _ _)) fun k h q => ?_) fun k => ?_) (le_asc (lst_asc _ _)))) rfl
  · have := ((mem_spareL W.web).mp q).dark.1
    simp [this] at h
  · rw [List.mem_append, mem_lst, mem_spareL W.web, outB_iff]
    unfold Out
    constructor
    · rintro (⟨h1, h2⟩ | h)
      · exact ⟨h1, .inl (by simpa using h2)⟩
      · exact ⟨h.inr W.web, .inr h⟩
    · rintro ⟨h1, h2 | h2⟩
      · exact .inl ⟨h1, by simpa using h2⟩
      · exact .inr h2
end
end Hk
set_option Elab.async false
set_option linter.all false
set_option maxRecDepth 100000
set_option maxHeartbeats 1000000
set_option autoImplicit false
/-! HkZ4: the readings kept, prices. -/
namespace Hk
open PySem PySem.Spec PyProof.Rows L2
section
variable {P : Program} {w : World} {K : PySem.W.Frag}
theorem r_need_prices (n : Nat) (E : Arr) (p : Prc) (W : WebS n E) (HP : Prices n p) (N : Sl → Prop) (hN : ∀ ds, N ds) (R : PyData → Sl → Prop) : RunE (t_need_prices P w K) [.dat (eW n E), .dat (ePr p), .non, .non] N R := by
  refine rn_seq (rn_if (b := false) ((et_or (a := false) (b := false) (et_not (et_B (ev_isTup (ev_var rfl)))) fun _ => (et_T (ev_op (ev_cb (ea_cons (ev_var rfl) ea_nil) (rc_lenT _)) (ev_op (ev_var rfl) ev_int (rd_ixT atI0)) (rd_neI _ _))).cast ?_)) (fun h => by cases h) fun _ => rn_next ?_)
  · rw [List.length_map, HP.len]
    simp
  refine rn_for (p.map eP) (fun i ds' => ∃ s2, ds' = [.dat (eW n E), .dat (ePr p), s2, .non]) (it_tup (ev_var rfl)) ⟨.non, rfl⟩ (fun i x ds' hx ⟨s2, e0⟩ => ?_) fun ds' _ => hN ds'
  subst e0
  rw [List.getElem?_map] at hx
  cases hp : p[i]? with
  | none =>
    rw [hp] at hx
    cases hx
  | some q =>
    rw [hp] at hx
    cases hx
    have hq := HP.inr q (List.mem_of_getElem? hp)
    refine ⟨[2], _, tg_name, ?_⟩
    refine rn_seq (rn_if (b := false) (et_or (a := false) (b := false) (et_not (et_B (ev_isTup (ev_var rfl)))) fun _ => et_T (ev_op (ev_cb (ea_cons (ev_var rfl) ea_nil) (rc_lenT _)) ev_int (rd_neI _ _))) (fun h => by cases h) fun _ => rn_next ?_)
    refine rn_if (b := false) ((et_T (ev_op (lc1 [q.1, q.2] .int (fun k => !inB (.int k) 0 1000) .int (it_tup (ev_var rfl)) (by simp) (no_at rfl rfl) (fun k _ => et_not (et_B (ev_is_in (ev_var rfl) ev_int ev_int))) fun k _ _ => ev_var rfl) (ev_lst ea_nil (by simp)) (rd_neL _ []))).cast ?_) (fun h => by cases h) fun _ => rn_next ⟨.dat (eP q), rfl⟩
    have h1 : inB (.int q.1) 0 1000 = true := inB_in (by omega)
    have h2 : inB (.int q.2) 0 1000 = true := inB_in (by omega)
    rw [List.filter_eq_nil_iff.mpr]
    · rfl
    · intro k hk
      rcases List.mem_cons.mp hk with e | hk
      · rw [e, h1]
        decide
      · rw [List.mem_singleton.mp hk, h2]
        decide
theorem price_at {n : Nat} {p : Prc} (HP : Prices n p) {k : Int} (h : 0 ≤ k ∧ k < (n : Int)) : atI (p.map eP) k = some (eP (p.getD k.toNat (0, 0))) := by
  obtain ⟨j, rfl⟩ : ∃ j : Nat, k = (j : Int) := ⟨k.toNat, by omega⟩
  have hj : j < p.length := by rw [HP.len]; omega
  refine atI_nat ?_
  rw [List.getElem?_map, List.getElem?_eq_getElem hj, Int.toNat_natCast, List.getD_eq_getElem?_getD, List.getElem?_eq_getElem hj]
  rfl
theorem r_cost_in (n : Nat) (E : Arr) (one other : List Int) (p : Prc) (W : WebS n E) (S1 : Std n one) (S2 : Std n other) (HP : Prices n p) (N : Sl → Prop) : RunE (t_cost_in P w K) [.dat (eW n E), .dat (eT one), .dat (eT other), .dat (ePr p), .non, .non] N fun d _ => d = .int (costOf n E p one other) := by
  have h5 := W.web.few
  have l1 : (litL n E one other).length ≤ n := lst_len _ _
  have l2 : (outL n E one other).length ≤ n := lst_len _ _
  refine rn_seq (rn_set (d := .int (sumP n (litB E one other) (pL p))) (ev_cb (ea_cons (EvE.cast (lc1 (litL n E one other) .int (fun _ => true) (fun k => .int (pL p k)) (it_list (ev_call (ea_cons (ev_var rfl) (ea_cons (ev_var rfl) (ea_cons (ev_var rfl) ea_nil))) ⟨n, E, one, other, rfl, W, S1, S2, rfl⟩)) (by omega) (no_at rfl rfl) (fun k _ => et_yes) fun k hk _ => ev_op (ev_op (ev_var rfl) (ev_var rfl) (rd_ixT (price_at HP (mem_lst.mp hk).1))) ev_int (rd_ixT atI0)) (d' := eL ((litL n E one other).map (pL p))) ?_) ea_nil) (rc_sum _)) ?_)
  · rw [filt_all, eL, eIs, List.map_map]
    rfl
  refine rn_ret (ev_op (ev_var rfl) (ev_cb (ea_cons (EvE.cast (lc1 (outL n E one other) .int (fun _ => true) (fun k => .int (pQ p k)) (it_list (ev_call (ea_cons (ev_var rfl) (ea_cons (ev_var rfl) (ea_cons (ev_var rfl) ea_nil))) ⟨n, E, one, other, rfl, W, S1, S2, rfl⟩)) (by omega) (no_at rfl rfl) (fun k _ => et_yes) fun k hk _ => ev_op (ev_op (ev_var rfl) (ev_var rfl) (rd_ixT (price_at HP (mem_lst.mp hk).1))) ev_int (rd_ixT atI1)) (d' := eL ((outL n E one other).map (pQ p))) ?_) ea_nil) (rc_sum _)) rd_I0) rfl
  rw [filt_all, eL, eIs, List.map_map]
  rfl
theorem r_cheapest (n : Nat) (E : Arr) (one other : List Int) (p : Prc) (W : WebS n E) (S1 : Std n one) (S2 : Std n other) (HP : Prices n p) (N : Sl → Prop) : RunE (t_cheapest P w K) [.dat (eW n E), .dat (eT one), .dat (eT other), .dat (ePr p)] N fun d _ => d = .int (costOf n E p one other) :=
  rn_seq (rn_drop (ev_call (ea_cons (ev_var rfl) (ea_cons (ev_var rfl) (ea_cons (ev_var rfl) ea_nil))) ⟨n, E, one, other, rfl, W, S1, S2, rfl⟩) (rn_seq (rn_drop (ev_call (ea_cons (ev_var rfl) (ea_cons (ev_var rfl) ea_nil)) ⟨n, E, p, rfl, W, HP, rfl⟩)
    (rn_ret (ev_call (ea_cons (ev_var rfl) (ea_cons (ev_var rfl) (ea_cons (ev_var rfl) (ea_cons (ev_var rfl) ea_nil)))) ⟨n, E, one, other, p, rfl, W, S1, S2, HP, rfl⟩) rfl))))
theorem rgV_rng (n : Nat) : rgV 0 (n : Int) = (rng n).map V.int := by
  unfold rgV rng
  rw [List.map_map, Int.sub_zero, Int.toNat_natCast]
  exact List.map_congr_left fun i _ => by
    show V.int (0 + (i : Int)) = V.int (i : Int)
    rw [Int.zero_add]
theorem ev_listRg {te : TE} {ds : Sl} {n : Nat} (h : EvS te ds (.int (n : Int))) (hn : n ≤ 1000) : EvS (tLstRg (tRg1 te)) ds (eL (rng n)) := fun F O σ H Q w0 hs k =>
  h F O σ H _ w0 hs fun v d ds2 O2 H2 t r ⟨e1, e2⟩ => by
    subst e1 e2
    cases r
    refine ⟨(n : Int), rfl, RgOk.of_le (by omega) (by omega) (by omega) (by omega), fun q hq => ?_⟩
    rw [rgV_rng]
    exact k _ _ _ O2 _ (t.more (Evl.Ex.new hq)) (rp_newL t.own hq (RpAll.ints _ _)) ⟨rfl, rfl⟩
theorem ev_stand {E : XK} {te : TE} {ds : Sl} {n : Nat} (h : EvS te ds (.int (n : Int))) (hn : n ≤ 5) : EvS (tCall S_standings [] E (tCons (tLstRg (tRg1 te)) tNil)) ds (.list ((psort n).map eT)) := ev_call (ea_cons (ev_listRg h (by omega)) ea_nil) ⟨n, hn, rfl, rfl⟩
theorem psort_le {n : Nat} (h : n ≤ 5) : (psort n).length ≤ 32 := by
  rw [psort_len]
  exact Nat.le_trans (Nat.pow_le_pow_right (by decide) h) (by decide)
theorem r_price_paper (n : Nat) (E : Arr) (one : List Int) (p : Prc) (W : WebS n E) (S1 : Std n one) (HP : Prices n p) (N : Sl → Prop) : RunE (t_price_paper P w K) [.dat (eW n E), .dat (eT one), .dat (ePr p), .non] N fun d _ => d = .tuple (paperL n E p one) := by
  have h5 := W.web.few
  have l := psort_le h5
  refine rn_seq (rn_drop (ev_call (ea_cons (ev_var rfl) (ea_cons (ev_var rfl) ea_nil)) ⟨n, E, one, rfl, W, S1, rfl⟩) (rn_seq (rn_drop (ev_call (ea_cons (ev_var rfl) (ea_cons (ev_var rfl) ea_nil)) ⟨n, E, p, rfl, W, HP, rfl⟩) ?_)))
  refine rn_ret (ev_cb (ea_cons (lc1 (psort n) eT (fun _ => true) (fun s => .tuple [eT s, .int (costOf n E p one s)]) (it_list (ev_stand (ev_op (ev_var rfl) ev_int (rd_ixT atI0)) h5)) (by omega) (no_at rfl rfl) (fun k _ => et_yes) fun s hs _ => ev_tup (ea_cons (ev_var rfl) (ea_cons (ev_call (ea_cons (ev_var rfl) (ea_cons (ev_var rfl) (ea_cons (ev_var rfl) (ea_cons (ev_var rfl) ea_nil)))) ⟨n, E, one, s, p, rfl, W, S1, mem_psort.mp hs, HP, rfl⟩) ea_nil)) (by simp)) ea_nil) (rc_tuple _)) ?_
  rw [filt_all]
  rfl
theorem r_dearest (n : Nat) (E : Arr) (one : List Int) (p : Prc) (W : WebS n E) (S1 : Std n one) (HP : Prices n p) (N : Sl → Prop) : RunE (t_dearest P w K) [.dat (eW n E), .dat (eT one), .dat (ePr p), .non, .non] N fun d _ => d = .tuple [.int (-(dearM n E p one).1), eT (dearM n E p one).2] := by
  have h5 := W.web.few
  have l := psort_le h5
  obtain ⟨q, r, hqr⟩ : ∃ q r, dearL n E p one = q :: r := by
    cases h : dearL n E p one with
    | nil =>
      have := congrArg List.length h
      unfold dearL at this
      rw [List.length_map, psort_len] at this
      have h2 := Nat.two_pow_pos n
      rw [this] at h2
      exact absurd h2 (by decide)
    | cons q r => exact ⟨q, r, rfl⟩
  have hm : dearM n E p one = minC q r := by
    unfold dearM
    rw [hqr]
  refine rn_seq (rn_drop (ev_call (ea_cons (ev_var rfl) (ea_cons (ev_var rfl) ea_nil)) ⟨n, E, one, rfl, W, S1, rfl⟩) (rn_seq (rn_drop (ev_call (ea_cons (ev_var rfl) (ea_cons (ev_var rfl) ea_nil)) ⟨n, E, p, rfl, W, HP, rfl⟩) ?_)))
  refine rn_seq (rn_set (d := eC (dearM n E p one)) (ev_cb (ea_cons (EvE.cast (lc1 (psort n) eT (fun _ => true) (fun s => .tuple [.int (-costOf n E p one s), eT s]) (it_list (ev_stand (ev_op (ev_var rfl) ev_int (rd_ixT atI0)) h5)) (by omega) (no_at rfl rfl) (fun k _ => et_yes) fun s hs _ => ev_tup (ea_cons (ev_un (ev_call (ea_cons (ev_var rfl) (ea_cons (ev_var rfl) (ea_cons (ev_var rfl) (ea_cons (ev_var rfl) ea_nil)))) ⟨n, E, one, s, p, rfl, W, S1, mem_psort.mp hs, HP, rfl⟩) ru_I) (ea_cons (ev_var rfl) ea_nil)) (by simp)) (d' := .list ((q :: r).map eC)) ?_) ea_nil) (by rw [hm]; exact rc_minC q r)) ?_)
  · rw [filt_all, ← hqr]
    unfold dearL
    rw [List.map_map]
    rfl
  exact rn_ret (ev_tup (ea_cons (ev_un (ev_op (ev_var rfl) ev_int (rd_ixT atI0)) ru_I) (ea_cons (ev_op (ev_var rfl) ev_int (rd_ixT atI1)) ea_nil)) (by simp)) rfl
/-! ### shows_cheap -/
theorem line_ne (n : Nat) (E : Arr) (b : List Int) (ws : List Int) : ∃ pre, lineL n E b ws = b :: pre := by
  cases ws with
  | nil => exact ⟨[], rfl⟩
  | cons l ws => exact ⟨_, rfl⟩
theorem line_len (n : Nat) (E : Arr) : ∀ (ws : List Int) (b : List Int), (lineL n E b ws).length ≤ ws.length + 1
  | [], b => by simp [lineL]
  | l :: ws, b => by
    have := line_len n E ws (tog n b l)
    unfold lineL
    split
    · rw [List.length_cons, List.length_cons]
      omega
    · simp
/-- the word can be done: the line is whole -/
theorem line_run (n : Nat) (E : Arr) : ∀ (ws : List Int) (b s : List Int), runW n E b ws = some s → ∃ pre, lineL n E b ws = pre ++ [s] ∧ pre.length = ws.length
  | [], b, s, h => by
    cases h
    exact ⟨[], rfl, rfl⟩
  | l :: ws, b, s, h => by
    unfold runW at h
    split at h
    · rename_i hc
      rw [Bool.and_eq_true] at hc
      obtain ⟨pre, h1, h2⟩ := line_run n E ws (tog n b l) s h
      exact ⟨b :: pre, by rw [lineL_go hc.2, h1]; rfl, by simp [h2]⟩
    · cases h
theorem line_stops (n : Nat) (E : Arr) : ∀ (ws : List Int) (b : List Int), (∀ k ∈ ws, 0 ≤ k ∧ k < (n : Int)) → runW n E b ws = none → (lineL n E b ws).length ≤ ws.length
  | [], b, _, h => by cases h
  | l :: ws, b, hw, h => by
    have hl := hw l List.mem_cons_self
    unfold runW at h
    cases hc : can E b l with
    | true =>
      rw [hc, decide_eq_true hl] at h
      have := line_stops n E ws (tog n b l) (fun k hk => hw k (List.mem_cons_of_mem _ hk)) h
      rw [lineL_go hc, List.length_cons, List.length_cons]
      omega
    | false =>
      rw [lineL_stop hc]
      simp
theorem zip_cost (n : Nat) (E : Arr) (p : Prc) : ∀ (ws : List Int) (b s : List Int), runW n E b ws = some s → (((lineL n E b ws).zip ws).map fun q => pOf p q.1 q.2).sum = wcost n p b ws
  | [], b, s, h => by simp [wcost]
  | l :: ws, b, s, h => by
    unfold runW at h
    split at h
    · rename_i hc
      rw [Bool.and_eq_true] at hc
      rw [lineL_go hc.2, List.zip_cons_cons, List.map_cons, List.sum_cons, zip_cost n E p ws _ s h]
      rfl
    · cases h
theorem intsOf_some : ∀ {xs : List PyData} {ws : List Int}, intsOf xs = some ws → xs = eIs ws
  | [], ws, h => by
    cases h
    rfl
  | .int i :: xs, ws, h => by
    rw [intsOf_int] at h
    cases e : intsOf xs with
    | none =>
      rw [e] at h
      cases h
    | some vs =>
      rw [e] at h
      cases h
      rw [intsOf_some e]
      rfl
  | .none :: _, _, h => by cases h
  | .bool _ :: _, _, h => by cases h
  | .str _ :: _, _, h => by cases h
  | .list _ :: _, _, h => by cases h
  | .tuple _ :: _, _, h => by cases h
  | .dict _ :: _, _, h => by cases h
theorem lampsOf_some {n : Nat} {v : PyData} {ws : List Int} (h : lampsOf n v = some ws) : v = eT ws ∧ ∀ k ∈ ws, 0 ≤ k ∧ k < (n : Int) := by
  cases v with
  | tuple xs =>
    rw [lampsOf_tup] at h
    cases e : intsOf xs with
    | none =>
      rw [e] at h
      cases h
    | some vs =>
      rw [e] at h
      have h' : (if rgAll n vs = true then some vs else none) = some ws := h
      split at h'
      · rename_i hr
        cases h'
        refine ⟨by rw [intsOf_some e], fun k hk => ?_⟩
        have := List.all_eq_true.mp hr k hk
        simpa using this
      · cases h'
  | none => cases h
  | bool _ => cases h
  | int _ => cases h
  | str _ => cases h
  | list _ => cases h
  | dict _ => cases h
theorem odd_len {ws : List Int} (O : Odd (eT ws)) : ws.length ≤ 100 := by
  rcases O with h | ⟨xs, e, _, hl⟩
  · cases h
  · cases e
    rw [len_eIs] at hl
    exact hl
theorem pick_at (a b : Int) (c : Bool) : atI [PyData.int a, .int b] (if c then 1 else 0) = some (.int (if c = true then b else a)) := by
  cases c
  · exact atI0
  · exact atI1
theorem r_shows_cheap (n : Nat) (E : Arr) (one other : List Int) (p : Prc) (v : PyData) (W : WebS n E) (S1 : Std n one) (S2 : Std n other) (HP : Prices n p) (O : Odd v) (N : Sl → Prop) : RunE (t_shows_cheap P w K) [.dat (eW n E), .dat (eT one), .dat (eT other), .dat (ePr p), .dat v, .non, .non, .non, .non] N fun d _ => d = .bool (cheapB n E p one other v) := by
  refine rn_seq (rn_drop (ev_call (ea_cons (ev_var rfl) (ea_cons (ev_var rfl) (ea_cons (ev_var rfl) ea_nil))) ⟨n, E, one, other, rfl, W, S1, S2, rfl⟩) (rn_seq (rn_drop (ev_call (ea_cons (ev_var rfl) (ea_cons (ev_var rfl) ea_nil)) ⟨n, E, p, rfl, W, HP, rfl⟩) ?_)))
  refine rn_seq (rn_if (et_not (et_B (ev_call (ea_cons (ev_var rfl) (ea_cons (ev_var rfl) ea_nil)) ⟨n, E, v, rfl, O, rfl⟩))) (fun h => rn_ret ev_bl ?_) fun h => rn_next ?_)
  · unfold cheapB
    cases e : lampsOf n v with
    | none => rfl
    | some ws =>
      rw [e] at h
      cases h
  cases e : lampsOf n v with
  | none =>
    rw [e] at h
    cases h
  | some ws =>
    obtain ⟨rfl, hw⟩ := lampsOf_some e
    have hl := odd_len O
    have hch : cheapB n E p one other (eT ws) = (match runW n E one ws with | some s => decide (s = other) && decide (wcost n p one ws = costOf n E p one other) | none => false) := by
      unfold cheapB
      first
        | (simp only [e]; done)
        | (simp only [e]; cases runW n E one ws <;> rfl)
    rw [hch]
    obtain ⟨pre0, hp0⟩ := line_ne n E one ws
    have hll := line_len n E ws one
    refine rn_seq (rn_set (ev_call (ea_cons (ev_var rfl) (ea_cons (ev_var rfl) (ea_cons (ev_var rfl) ea_nil))) ⟨n, E, one, ws, rfl, W, S1, hw, hl, rfl⟩) ?_)
    cases hr : runW n E one ws with
    | none =>
      have hs := line_stops n E ws one hw hr
      refine rn_seq (rn_if (b := true) (et_or (a := true) (b := true) ((et_T (ev_op (ev_cb (ea_cons (ev_var rfl) ea_nil) (rc_lenL _)) (ev_cb (ea_cons (ev_var rfl) ea_nil) (rc_lenT _)) rd_B0)).cast ?_) fun h => by cases h) (fun _ => rn_ret ev_bl rfl) fun h => by cases h)
      rw [List.length_map, len_eIs]
      exact decide_eq_true (by omega)
    | some s =>
      obtain ⟨pre, h1, h2⟩ := line_run n E ws one s hr
      have hlast : atI ((lineL n E one ws).map eT) (-1) = some (eT s) := by
        rw [h1, List.map_append]
        exact atI_last _ _
      refine rn_seq (rn_if (b := !decide (s = other)) ((et_or (a := false) (b := !decide (s = other)) ((et_T (ev_op (ev_cb (ea_cons (ev_var rfl) ea_nil) (rc_lenL _)) (ev_cb (ea_cons (ev_var rfl) ea_nil) (rc_lenT _)) rd_B0)).cast ?_) fun _ => et_T (ev_op (ev_op (ev_var rfl) (ev_un ev_int ru_I) (rd_ixL hlast)) (ev_var rfl) (rd_neT _ _))).cast (by rw [Bool.false_or])) (fun h => rn_ret ev_bl ?_) fun h => rn_next ?_)
      · rw [List.length_map, len_eIs, h1, List.length_append, h2]
        exact decide_eq_false (by simp; omega)
      · have : decide (s = other) = false := by simpa using h
        show PyData.bool false = PyData.bool (decide (s = other) && _)
        rw [this]
        rfl
      · have hso : s = other := by simpa using h
        have hz : ((lineL n E one ws).zip ws).length ≤ 40000 := by
          rw [List.length_zip]
          omega
        refine rn_seq (rn_set (d := .int (wcost n p one ws)) (ev_cb (ea_cons (EvE.cast (lc2 ((lineL n E one ws).zip ws) (fun q => eT q.1) (fun q => .int q.2) (fun _ => true) (fun q => .int (pOf p q.1 q.2)) (by decide) ?_ hz (no_at2 rfl rfl rfl rfl) (fun q _ => et_yes) fun q hq _ => EvE.cast (ev_op (ev_op (ev_var rfl) (ev_var rfl) (rd_ixT (price_at HP (hw q.2 (List.of_mem_zip hq).2)))) (ev_cb (ea_cons (ev_op (ev_var rfl) (ev_var rfl) (rd_inT _ _)) ea_nil) (rc_intB _)) (rd_ixT (pick_at _ _ _))) ?_) (d' := eL (((lineL n E one ws).zip ws).map fun q => pOf p q.1 q.2)) ?_) ea_nil) (by rw [← zip_cost n E p ws one s hr]; exact rc_sum _)) ?_)
        · have := it_zipM (K := K) (ta := tCons (tVar 5) (tCons (tVar 4) tNil)) (ds := [.dat (eW n E), .dat (eT one), .dat (eT other), .dat (ePr p), .dat (eT ws), .dat (.list ((lineL n E one ws).map eT)), .non, .non, .non]) (ea_cons (ev_var rfl) (ea_cons (ev_var rfl) ea_nil))
          unfold zipD at this
          rw [List.zip_map, List.map_map] at this
          exact this
        · unfold pOf pQ pL
          by_cases q2 : q.2 ∈ q.1
          · simp [q2]
          · simp [q2]
        · rw [filt_all, eL, eIs, List.map_map]
          rfl
        refine rn_ret (ev_op (ev_var rfl) (ev_call (ea_cons (ev_var rfl) (ea_cons (ev_var rfl) (ea_cons (ev_var rfl) (ea_cons (ev_var rfl) ea_nil)))) ⟨n, E, one, other, p, rfl, W, S1, S2, HP, rfl⟩) (rd_eqI _ _)) ?_
        show PyData.bool _ = PyData.bool (decide (s = other) && _)
        rw [decide_eq_true hso, Bool.true_and]
end
end Hk
set_option Elab.async false
set_option linter.all false
set_option maxRecDepth 100000
set_option maxHeartbeats 1000000
set_option autoImplicit false
/-! HkZ5: the readings kept, the law's own webs. -/
namespace Hk
open PySem PySem.Spec PyProof.Rows L2
section
variable {P : Program} {w : World} {K : PySem.W.Frag}
theorem r_law_changed (n : Nat) (b : List Int) (l : Int) (S : Std n b) (hl : 0 ≤ l ∧ l < (n : Int)) (hn : n ≤ 5) (N : Sl → Prop) : RunE (t_law_changed P w K) [.dat (eT b), .dat (.int l), .non] N fun d _ => d = eT (tog n b l) := by
  have hz : b.length ≤ 5 := Nat.le_trans (std_len S) hn
  refine rn_seq (rn_if (et_T (ev_op (ev_var rfl) (ev_var rfl) (rd_inT _ _))) (fun h => ?_) fun h => rn_next ?_)
  · refine rn_ret (ev_cb (ea_cons (lc1 b .int (fun k => !decide (k = l)) .int (it_tup (ev_var rfl)) (by omega) (no_at rfl rfl) (fun k _ => et_T (ev_op (ev_var rfl) (ev_var rfl) (rd_neI _ _))) fun k _ _ => ev_var rfl) ea_nil) (rc_tuple _)) ?_
    rw [tog_cut S (of_decide_eq_true h)]
  · exact rn_ret (ev_cb (ea_cons (ev_cb (ea_cons (ev_catL (a := b) (b := [l]) (ev_cb (ea_cons (ev_var rfl) ea_nil) (rc_list _)) (ev_lst (ea_cons (ev_var rfl) ea_nil) (by simp)) (by simp; omega)) ea_nil) (rc_sortedL (ms := tog n b l) (tog_add S hl (of_decide_eq_false h)) (le_asc (lst_asc _ _)))) ea_nil) (rc_tuple _)) rfl
theorem it_rngI {ta : TA} {ds : Sl} {x : Int} (h : EaS ta ds [.int x]) (h0 : 0 ≤ x) (h2 : x ≤ 1000) : IterS (iRng1 ta) ds (eIs (rng x.toNat)) := by
  obtain ⟨j, rfl⟩ : ∃ j : Nat, x = (j : Int) := ⟨x.toNat, by omega⟩
  rw [Int.toNat_natCast]
  exact it_rngN h (by omega)
theorem ev_pair {ta tb : TE} {ds : Sl} {i j : Int} (ha : EvS ta ds (.int i)) (hb : EvS tb ds (.int j)) : EvS (tTup (tCons ta (tCons tb tNil))) ds (eP (i, j)) := ev_tup (ea_cons ha (ea_cons hb ea_nil)) (by simp)
theorem r_law_light (n : Nat) (E : Arr) (b : List Int) (W : WebS n E) (S : Std n b) (N : Sl → Prop) : RunE (t_law_light P w K) [.dat (eW n E), .dat (eT b), .non, .non] N fun d _ => d = eL (lst n (canL E b)) := by
  have h5 := W.web.few
  refine rn_ret (lc1 (rng n) .int (fun k => !decide (k ∈ b) && decide (((rng k.toNat).filter fun j => decide ((j, k) ∈ E) && !decide (j ∈ b)) = [])) .int (it_rngN (ea_cons (ev_op (ev_var rfl) ev_int (rd_ixT atI0)) ea_nil) (by omega)) (by rw [rng_len]; omega) (no_at rfl rfl) (fun k hk => et_and (et_T (ev_op (ev_var rfl) (ev_var rfl) (rd_ninT _ _))) fun _ => et_T (ev_op (lc1 (rng k.toNat) .int (fun j => decide ((j, k) ∈ E) && !decide (j ∈ b)) .int (it_rngI (ea_cons (ev_var rfl) ea_nil) (mem_rng.mp hk).1 (by have := (mem_rng.mp hk).2; omega)) (by rw [rng_len]; have := (mem_rng.mp hk).2; omega) (no_at rfl rfl) (fun j _ => et_and (et_T (ev_op (ev_pair (ev_var rfl) (ev_var rfl)) (ev_op (ev_var rfl) ev_int (rd_ixT atI1)) (rd_inP _ _))) fun _ => et_T (ev_op (ev_var rfl) (ev_var rfl) (rd_ninT _ _))) fun j _ _ => ev_var rfl) (ev_lst ea_nil (by simp)) (rd_eqL _ []))) fun k _ _ => ev_var rfl) ?_
  refine congrArg (fun l => PyData.list (eIs l)) (List.filter_congr fun k hk => ?_)
  unfold canL
  refine congrArg _ ?_
  rw [Bool.eq_iff_iff, decide_eq_true_eq, List.filter_eq_nil_iff, allA_iff]
  have hk0 := (mem_rng.mp hk).1
  constructor
  · intro h j hj
    have hu := W.web.up _ hj
    simp only at hu
    have := h j (mem_rng.mpr ⟨hu.1, by omega⟩)
    simpa [hj] using this
  · intro h j _
    by_cases hj : (j, k) ∈ E
    · simp [h j hj]
    · simp [hj]
theorem r_law_quench (n : Nat) (E : Arr) (b : List Int) (W : WebS n E) (S : Std n b) (N : Sl → Prop) : RunE (t_law_quench P w K) [.dat (eW n E), .dat (eT b), .non, .non] N fun d _ => d = eL (lst n (canQ E b)) := by
  have h5 := W.web.few
  refine rn_ret (lc1 b .int (fun k => decide (((rng n).filter fun j => decide ((k, j) ∈ E) && !decide (j ∈ b)) = [])) .int (it_tup (ev_var rfl)) (by have := std_len S; omega) (no_at rfl rfl) (fun k hk => et_T (ev_op (lc1 (rng n) .int (fun j => decide ((k, j) ∈ E) && !decide (j ∈ b)) .int (it_rngN (ea_cons (ev_op (ev_var rfl) ev_int (rd_ixT atI0)) ea_nil) (by omega)) (by rw [rng_len]; omega) (no_at rfl rfl) (fun j _ => et_and (et_T (ev_op (ev_pair (ev_var rfl) (ev_var rfl)) (ev_op (ev_var rfl) ev_int (rd_ixT atI1)) (rd_inP _ _))) fun _ => et_T (ev_op (ev_var rfl) (ev_var rfl) (rd_ninT _ _))) fun j _ _ => ev_var rfl) (ev_lst ea_nil (by simp)) (rd_eqL _ []))) fun k _ _ => ev_var rfl) ?_
  refine congrArg (fun l => PyData.list (eIs l)) (lst_ext (S.asc.filter _) fun k => ?_)
  have hb : decide (((rng n).filter fun j => decide ((k, j) ∈ E) && !decide (j ∈ b)) = []) = true ↔ allB E b k = true := by
    rw [decide_eq_true_eq, List.filter_eq_nil_iff, allB_iff]
    constructor
    · intro h j hj
      have hu := W.web.up _ hj
      simp only at hu
      have := h j (mem_rng.mpr ⟨by omega, hu.2.2⟩)
      simpa [hj] using this
    · intro h j _
      by_cases hj : (k, j) ∈ E
      · simp [h j hj]
      · simp [hj]
  rw [List.mem_filter, hb]
  unfold canQ
  rw [Bool.and_eq_true, decide_eq_true_eq]
  exact ⟨fun h => ⟨S.inr k h.1, h⟩, fun h => h.2⟩
theorem deeds_perm (n : Nat) (E : Arr) (b : List Int) : (deeds n E b).Perm (lst n (canL E b) ++ lst n (canQ E b)) := by
  refine perm_lst ?_ fun k => ?_
  · rw [List.nodup_append]
    refine ⟨nodup_asc (lst_asc _ _), nodup_asc (lst_asc _ _), fun a ha c hc e => ?_⟩
    subst e
    have h1 := (mem_lst.mp ha).2
    have h2 := (mem_lst.mp hc).2
    unfold canL at h1
    unfold canQ at h2
    rw [Bool.and_eq_true] at h1 h2
    have := h2.1
    simp [of_decide_eq_true this] at h1
  · rw [List.mem_append, mem_lst, mem_lst]
    unfold can
    rw [Bool.or_eq_true]
    exact ⟨fun h => h.elim (fun q => ⟨q.1, .inl q.2⟩) fun q => ⟨q.1, .inr q.2⟩, fun ⟨h, q⟩ => q.imp (fun z => ⟨h, z⟩) fun z => ⟨h, z⟩⟩
theorem r_law_after (n : Nat) (E : Arr) (b : List Int) (W : WebS n E) (S : Std n b) (N : Sl → Prop) : RunE (t_law_after P w K) [.dat (eW n E), .dat (eT b), .non] N fun d _ => d = .list (afterL n E b) := by
  have h5 := W.web.few
  have l1 := lst_len n (canL E b)
  have l2 := lst_len n (canQ E b)
  have l3 : (deeds n E b).length ≤ n := lst_len _ _
  refine rn_ret (lc1 (deeds n E b) .int (fun _ => true) (fun k => .tuple [.int k, eT (tog n b k)]) (it_list (ev_cb (ea_cons (ev_catL (ev_call (ea_cons (ev_var rfl) (ea_cons (ev_var rfl) ea_nil)) ⟨n, E, b, rfl, W, S, rfl⟩) (ev_call (ea_cons (ev_var rfl) (ea_cons (ev_var rfl) ea_nil)) ⟨n, E, b, rfl, W, S, rfl⟩) (by omega)) ea_nil) (rc_sortedL (deeds_perm n E b) (le_asc (lst_asc _ _))))) (by omega) (no_at rfl rfl) (fun k _ => et_yes) fun k hk _ => ev_tup (ea_cons (ev_var rfl) (ea_cons (ev_call (ea_cons (ev_var rfl) (ea_cons (ev_var rfl) ea_nil)) ⟨n, b, k, rfl, S, (mem_deeds.mp hk).1, h5, rfl⟩) ea_nil)) (by simp)) ?_
  rw [filt_all]
  rfl
/-! ### lamps that burn for a time -/
theorem r_law_spare (n : Nat) (E : Arr) (one other : List Int) (W : WebS n E) (S1 : Std n one) (S2 : Std n other) (N : Sl → Prop) : RunE (t_law_spare P w K) [.dat (eW n E), .dat (eT one), .dat (eT other), .non, .non, .non, .non, .non, .non, .non] N fun d _ => d = eL (spareL n E one other) := by
  have h5 := W.web.few
  refine rn_seq (rn_asg (js := [3, 4]) (d := .tuple [eL (dark n one other), eL []]) (ev_tup (ea_cons (lc1 (rng n) .int (fun k => !decide (k ∈ one) && !decide (k ∈ other)) .int (it_rngN (ea_cons (ev_op (ev_var rfl) ev_int (rd_ixT atI0)) ea_nil) (by omega)) (by rw [rng_len]; omega) (no_at rfl rfl) (fun k _ => et_and (et_T (ev_op (ev_var rfl) (ev_var rfl) (rd_ninT _ _))) fun _ => et_T (ev_op (ev_var rfl) (ev_var rfl) (rd_ninT _ _))) fun k _ _ => ev_var rfl) (ea_cons (ev_lst ea_nil (by simp)) ea_nil)) (by simp)) tg_tup2 ?_)
  refine rn_seq (rn_for (eIs (rng n)) (fun i ds' => ∃ s5 s6 s7 s8 : Slot, s6.addr = none ∧ ds' = [.dat (eW n E), .dat (eT one), .dat (eT other), .dat (eL (dark n one other)), .dat (eL (passes n E one other i)), s5, s6, s7, s8, .non]) (it_rngN (ea_cons (ev_op (ev_var rfl) ev_int (rd_ixT atI0)) ea_nil) (by omega)) ⟨.non, .non, .non, .non, rfl, rfl⟩ (fun i x ds' hx ⟨s5, s6, s7, s8, h6, e0⟩ => ?_) fun ds' ⟨s5, s6, s7, s8, h6, e0⟩ => ?_)
  · subst e0
    refine ⟨[5], _, tg_name, ?_⟩
    have K0 := (passes_ok W.web (one := one) (other := other) i).1
    obtain ⟨s0, hs0⟩ : ∃ s0, s0 = passes n E one other i := ⟨_, rfl⟩
    have hp1 : passes n E one other (i + 1) = (dark n one other).foldl (turn n E one other) s0 := by
      rw [hs0]
      rfl
    rw [← hs0] at K0 ⊢
    refine rn_for (eIs (dark n one other)) (fun j ds' => ∃ s6 s7 s8 : Slot, s6.addr = none ∧ Sdk n E one other (((dark n one other).take j).foldl (turn n E one other) s0) ∧ ds' = [.dat (eW n E), .dat (eT one), .dat (eT other), .dat (eL (dark n one other)), .dat (eL (((dark n one other).take j).foldl (turn n E one other) s0)), .dat x, s6, s7, s8, .non]) (it_list (ev_var rfl)) ⟨s6, s7, s8, h6, K0, rfl⟩ (fun j y ds' hy ⟨s6, s7, s8, h6, Kj, e0⟩ => ?_) fun ds' ⟨s6, s7, s8, h6, Kj, e0⟩ => ?_
    · subst e0
      obtain ⟨k, hk, rfl⟩ := eIs_at hy
      have kd : k ∈ dark n one other := List.mem_of_getElem? hk
      obtain ⟨⟨k0, k1⟩, kn1, kn2⟩ := mem_dark.mp kd
      have step : ((dark n one other).take (j + 1)).foldl (turn n E one other) s0 = turn n E one other (((dark n one other).take j).foldl (turn n E one other) s0) k := by
        rw [List.take_add_one, hk, List.foldl_append]
        rfl
      have K2 := (Kj.tstep kd).1
      rw [step]
      clear step hp1
      obtain ⟨s, hs⟩ : ∃ s, s = ((dark n one other).take j).foldl (turn n E one other) s0 := ⟨_, rfl⟩
      rw [← hs] at Kj K2 ⊢
      refine ⟨[6], _, tg_name, ?_⟩
      have ls := std_len Kj.std
      refine rn_seq (rn_set (d := eL ((rng n).filter fun l => decide ((k, l) ∈ E) && (decide (l ∈ s) || (decide (l ∈ other) && !decide (l ∈ one))))) (lc1 (rng n) .int (fun l => decide ((k, l) ∈ E) && (decide (l ∈ s) || (decide (l ∈ other) && !decide (l ∈ one)))) .int (it_rngN (ea_cons (ev_op (ev_var rfl) ev_int (rd_ixT atI0)) ea_nil) (by omega)) (by rw [rng_len]; omega) (no_at rfl rfl) (fun l _ => et_and (et_T (ev_op (ev_pair (ev_var rfl) (ev_var rfl)) (ev_op (ev_var rfl) ev_int (rd_ixT atI1)) (rd_inP _ _))) fun _ => et_or (et_T (ev_op (ev_var rfl) (ev_var rfl) (rd_inL _ _))) fun _ => et_and (et_T (ev_op (ev_var rfl) (ev_var rfl) (rd_inT _ _))) fun _ => et_T (ev_op (ev_var rfl) (ev_var rfl) (rd_ninT _ _))) fun l _ _ => ev_var rfl) ?_)
      refine rn_seq (rn_set (d := eL ((rng n).filter fun l => decide ((l, k) ∈ E) && (decide (l ∈ s) || (decide (l ∈ one) && !decide (l ∈ other))))) (lc1 (rng n) .int (fun l => decide ((l, k) ∈ E) && (decide (l ∈ s) || (decide (l ∈ one) && !decide (l ∈ other)))) .int (it_rngN (ea_cons (ev_op (ev_var rfl) ev_int (rd_ixT atI0)) ea_nil) (by omega)) (by rw [rng_len]; omega) (no_at rfl rfl) (fun l _ => et_and (et_T (ev_op (ev_pair (ev_var rfl) (ev_var rfl)) (ev_op (ev_var rfl) ev_int (rd_ixT atI1)) (rd_inP _ _))) fun _ => et_or (et_T (ev_op (ev_var rfl) (ev_var rfl) (rd_inL _ _))) fun _ => et_and (et_T (ev_op (ev_var rfl) (ev_var rfl) (rd_inT _ _))) fun _ => et_T (ev_op (ev_var rfl) (ev_var rfl) (rd_ninT _ _))) fun l _ _ => ev_var rfl) ?_)
      obtain ⟨A, hA⟩ : ∃ A, A = (rng n).filter fun l => decide ((k, l) ∈ E) && (decide (l ∈ s) || (decide (l ∈ other) && !decide (l ∈ one))) := ⟨_, rfl⟩
      obtain ⟨B, hB⟩ : ∃ B, B = (rng n).filter fun l => decide ((l, k) ∈ E) && (decide (l ∈ s) || (decide (l ∈ one) && !decide (l ∈ other))) := ⟨_, rfl⟩
      have lA : A.length ≤ n := by
        rw [hA]
        exact Nat.le_trans (List.length_filter_le _ _) (Nat.le_of_eq (rng_len n))
      have lB : B.length ≤ n := by
        rw [hB]
        exact Nat.le_trans (List.length_filter_le _ _) (Nat.le_of_eq (rng_len n))
      have inr : ∀ k l : Int, (k, l) ∈ E → (0 ≤ k ∧ k < (n : Int)) ∧ 0 ≤ l ∧ l < (n : Int) := fun k l h => by
        have := W.web.up _ h
        simp only at this
        omega
      have eA : A = [] ↔ needsA E one other s k = false := by
        rw [hA, List.filter_eq_nil_iff, ← Bool.not_eq_true, needsA_iff]
        constructor
        · rintro h ⟨l, hl, q⟩
          refine h l (mem_rng.mpr (inr k l hl).2) ?_
          rcases q with ⟨q1, q2⟩ | q
          · simp [hl, q1, q2]
          · simp [hl, q]
        · intro h l _ q
          refine h ⟨l, ?_⟩
          simp only [Bool.and_eq_true, Bool.or_eq_true, decide_eq_true_eq, Bool.not_eq_true', decide_eq_false_iff_not] at q
          exact ⟨q.1, q.2.elim .inr .inl⟩
      have eB : B = [] ↔ needsB E one other s k = false := by
        rw [hB, List.filter_eq_nil_iff, ← Bool.not_eq_true, needsB_iff]
        constructor
        · rintro h ⟨l, hl, q⟩
          refine h l (mem_rng.mpr (inr l k hl).1) ?_
          rcases q with ⟨q1, q2⟩ | q
          · simp [hl, q1, q2]
          · simp [hl, q]
        · intro h l _ q
          refine h ⟨l, ?_⟩
          simp only [Bool.and_eq_true, Bool.or_eq_true, decide_eq_true_eq, Bool.not_eq_true', decide_eq_false_iff_not] at q
          exact ⟨q.1, q.2.elim .inr .inl⟩
      rw [← hA, ← hB]
      have ec : (!decide (k ∈ s) && !decide (A ++ B = [])) = (!decide (k ∈ s) && (needsA E one other s k || needsB E one other s k)) := by
        refine congrArg _ ?_
        rw [Bool.eq_iff_iff]
        simp only [Bool.not_eq_true', decide_eq_false_iff_not, List.append_eq_nil_iff, eA, eB, Bool.or_eq_true]
        cases needsA E one other s k <;> cases needsB E one other s k <;> simp
      refine rn_if (et_and (et_T (ev_op (ev_var rfl) (ev_var rfl) (rd_ninL _ _))) fun _ => et_T (ev_op (ev_catL (ev_var rfl) (ev_var rfl) (by omega)) (ev_lst ea_nil (by simp)) (rd_neL _ []))) (fun h => ?_) fun h => ?_
      · rw [ec] at h
        have ht : turn n E one other s k = lst n fun j => decide (j ∈ s) || (j == k) := if_pos h
        have kns : k ∉ s := by
          rw [Bool.and_eq_true] at h
          simpa using h.1
        rw [ht] at K2 ⊢
        refine rn_set (ev_cb (ea_cons (ev_catL (b := [k]) (ev_var rfl) (ev_lst (ea_cons (ev_var rfl) ea_nil) (by simp)) (by simp; omega)) ea_nil) (rc_sortedL (ms := lst n fun j => decide (j ∈ s) || (j == k)) (perm_lst ?_ fun l => ?_) (le_asc (lst_asc _ _)))) ⟨.dat (.int k), .dat (eL A), .dat (eL B), rfl, K2, rfl⟩
        · rw [List.nodup_append]
          refine ⟨nodup_asc Kj.std.asc, by simp, fun a ha c hc e => ?_⟩
          rw [List.mem_singleton.mp hc] at e
          exact kns (e ▸ ha)
        · rw [List.mem_append, List.mem_singleton, Bool.or_eq_true, decide_eq_true_eq, beq_iff_eq]
          exact ⟨fun h => ⟨h.elim (Kj.std.inr l) fun e => by rw [e]; exact ⟨k0, k1⟩, h⟩, fun h => h.2⟩
      · rw [ec] at h
        have ht : turn n E one other s k = s := turn_no (by rw [h]; exact Bool.false_ne_true)
        rw [ht]
        exact rn_next ⟨.dat (.int k), .dat (eL A), .dat (eL B), rfl, Kj, rfl⟩
    · subst e0
      refine ⟨.dat x, s6, s7, s8, h6, ?_⟩
      rw [hp1, len_eIs, List.take_length]
  · subst e0
    refine rn_ret (ev_var rfl) ?_
    rw [len_eIs, rng_len, passes_spare W.web]
end
end Hk
set_option Elab.async false
set_option linter.all false
set_option maxRecDepth 100000
set_option maxHeartbeats 1000000
set_option autoImplicit false
/-! HkZ6: the readings kept, the law's words. -/
namespace Hk
open PySem PySem.Spec PyProof.Rows L2
section
variable {P : Program} {w : World} {K : PySem.W.Frag}
theorem r_law_deeds (n : Nat) (E : Arr) (one other : List Int) (W : WebS n E) (S1 : Std n one) (S2 : Std n other) (N : Sl → Prop) : RunE (t_law_deeds P w K) [.dat (eW n E), .dat (eT one), .dat (eT other), .non, .non, .non] N fun d _ => d = .list (deedsL n E one other) := by
  have h5 := W.web.few
  have l1 := std_len S1
  have l2 := std_len S2
  have l3 : (spareL n E one other).length ≤ n := lst_len n _
  have l4 : (litL n E one other).length ≤ n := lst_len n _
  have l5 : (outL n E one other).length ≤ n := lst_len n _
  have f1 : ∀ (a b : List Int), (a.filter fun k => !decide (k ∈ b)).length ≤ a.length := fun a b => List.length_filter_le _ _
  have nd : ∀ (a b : List Int), Std n a → (∀ k ∈ a, ∀ q : k ∈ spareL n E one other, k ∈ b) → (spareL n E one other ++ a.filter fun k => !decide (k ∈ b)).Nodup := fun a b Sa h => by
    rw [List.nodup_append]
    refine ⟨nodup_asc (lst_asc _ _), (nodup_asc Sa.asc).filter _, fun x hx c hc e => ?_⟩
    subst e
    obtain ⟨h1, h2⟩ := List.mem_filter.mp hc
    have := h x h1 hx
    simp [this] at h2
  refine rn_seq (rn_set (ev_call (ea_cons (ev_var rfl) (ea_cons (ev_var rfl) (ea_cons (ev_var rfl) ea_nil))) ⟨n, E, one, other, rfl, W, S1, S2, rfl⟩) ?_)
  refine rn_seq (rn_set (d := eL (litL n E one other)) (ev_cb (ea_cons (ev_catL (ev_var rfl) (lc1 other .int (fun k => !decide (k ∈ one)) .int (it_tup (ev_var rfl)) (by omega) (no_at rfl rfl) (fun k _ => et_T (ev_op (ev_var rfl) (ev_var rfl) (rd_ninT _ _))) fun k _ _ => ev_var rfl) (by have := f1 other one; omega)) ea_nil) (rc_sortedL (perm_lst (nd other one S2 fun k h q => absurd h ((mem_spareL W.web).mp q).dark.2) fun k => ?_) (le_asc (lst_asc _ _)))) ?_)
  · rw [List.mem_append, mem_spareL W.web, List.mem_filter, litB_iff]
    unfold Lit
    constructor
    · rintro (h | ⟨h1, h2⟩)
      · exact ⟨h.inr W.web, .inr h⟩
      · exact ⟨S2.inr k h1, .inl ⟨h1, by simpa using h2⟩⟩
    · rintro ⟨_, ⟨h1, h2⟩ | h⟩
      · exact .inr ⟨h1, by simpa using h2⟩
      · exact .inl h
  refine rn_ret (ev_op (lc1 (litL n E one other) .int (fun _ => true) (fun k => .tuple [.bool true, .int k]) (it_list (ev_var rfl)) (by omega) (no_at rfl rfl) (fun k _ => et_yes) fun k _ _ => ev_tup (ea_cons ev_bl (ea_cons (ev_var rfl) ea_nil)) (by simp)) (lc1 (outL n E one other) .int (fun _ => true) (fun k => .tuple [.bool false, .int k]) (it_list (ev_cb (ea_cons (ev_catL (ev_var rfl) (lc1 one .int (fun k => !decide (k ∈ other)) .int (it_tup (ev_var rfl)) (by omega) (no_at rfl rfl) (fun k _ => et_T (ev_op (ev_var rfl) (ev_var rfl) (rd_ninT _ _))) fun k _ _ => ev_var rfl) (by have := f1 one other; omega)) ea_nil) (rc_sortedL (perm_lst (nd one other S1 fun k h q => absurd h ((mem_spareL W.web).mp q).dark.1) fun k => ?_) (le_asc (lst_asc _ _))))) (by omega) (no_at rfl rfl) (fun k _ => et_yes) fun k _ _ => ev_tup (ea_cons ev_bl (ea_cons (ev_var rfl) ea_nil)) (by simp)) (rd_cat ?_)) ?_
  · rw [List.mem_append, mem_spareL W.web, List.mem_filter, outB_iff]
    unfold Out
    constructor
    · rintro (h | ⟨h1, h2⟩)
      · exact ⟨h.inr W.web, .inr h⟩
      · exact ⟨S1.inr k h1, .inl ⟨h1, by simpa using h2⟩⟩
    · rintro ⟨_, ⟨h1, h2⟩ | h⟩
      · exact .inr ⟨h1, by simpa using h2⟩
      · exact .inl h
  · rw [filt_all, filt_all, List.length_map, List.length_map]
    omega
  · rw [filt_all, filt_all]
    rfl
theorem vec_all : ∀ xs : List PyData, (xs.all fun x => !(!isInt x || isBool x)) = (intsOf xs).isSome
  | [] => rfl
  | x :: xs => by
    rw [List.all_cons, vec_all xs]
    cases x with
    | int i =>
      rw [intsOf_int]
      cases intsOf xs <;> rfl
    | none => rfl
    | bool _ => rfl
    | str _ => rfl
    | list _ => rfl
    | tuple _ => rfl
    | dict _ => rfl
theorem filt_nil2 {α : Type} (f : α → Bool) (xs : List α) : decide (xs.filter f = []) = xs.all fun x => !f x := by
  rw [Bool.eq_iff_iff, decide_eq_true_eq, List.filter_eq_nil_iff, List.all_eq_true]
  exact forall₂_congr fun x _ => by simp
theorem r_law_is_vector (ys : List PyData) (hf : ys.all flatD = true) (hl : ys.length ≤ 100) (N : Sl → Prop) : RunE (t_law_is_vector P w K) [.dat (.tuple ys), .dat (.int ys.length), .non] N fun d _ => d = .bool (intsOf ys).isSome := by
  refine rn_seq (rn_if (b := false) (et_or (a := false) (b := false) (et_not (et_B (ev_isTup (ev_var rfl)))) fun _ => (et_T (ev_op (ev_cb (ea_cons (ev_var rfl) ea_nil) (rc_lenT _)) (ev_var rfl) (rd_neI _ _))).cast (by simp)) (fun h => by cases h) fun _ => rn_next ?_)
  refine rn_ret (ev_flatNil (xs := ys.filter fun x => !isInt x || isBool x) (EvE.cast (lc1 ys id (fun x => !isInt x || isBool x) id (by rw [List.map_id]; exact it_tup (ev_var rfl)) (by omega) (no_at rfl rfl) (fun x _ => et_or (et_not (et_B (ev_isi (ev_var rfl) (kb_int x)))) fun _ => et_B (ev_isi (ev_var rfl) (kb_bool x))) fun x _ _ => ev_var rfl) (by rw [List.map_id])) (ev_lst ea_nil (by simp)) (all_sub hf _)) ?_
  rw [filt_nil2, vec_all]
/-! ### a dict of lamps -/
theorem rpKV_get {G : Hp} (k : Int) : ∀ {es : List (Key × V)} {L : List (Int × PyData)}, RpKV G es (L.map fun p => (PyData.int p.1, p.2)) → (match (L.find? fun p => decide (p.1 = k)) with | some p => ∃ v, valV es (.inl k) = some v ∧ Rp G v p.2 | none => valV es (.inl k) = none)
  | _, [], h => by
    cases h
    rfl
  | _, (i, d) :: L, h => by
    have h' : RpKV G _ ((PyData.int i, d) :: L.map fun p => (PyData.int p.1, p.2)) := h
    cases h' with
    | cons r t =>
      have ih := rpKV_get k t
      rename_i v es
      by_cases e : i = k
      · subst e
        rw [List.find?_cons_of_pos (by simp)]
        exact ⟨v, valV_pos (p := ((.inl i : Key), v)) rfl, r⟩
      · rw [List.find?_cons_of_neg (by simpa using e), valV_neg (p := ((.inl i : Key), v)) fun z => e (Sum.inl.inj z)]
        exact ih
abbrev eK (L : List (Int × PyData)) : PyData := .dict (L.map fun p => (PyData.int p.1, p.2))
theorem ev_knin {ti td : TE} {ds : Sl} {k : Int} {L : List (Int × PyData)} (hi : EvS ti ds (.int k)) (hd : EvS td ds (eK L)) : EvS (tDNotIn ti td) ds (.bool (!(L.find? fun p => decide (p.1 = k)).isSome)) := fun F O σ H Q w0 hs kk =>
  hi F O σ H _ w0 hs fun v d ds1 O1 H1 t1 r1 ⟨e1, e2⟩ => by
    subst e1 e2
    refine hd F O1 σ H1 _ t1.own t1.hs fun u d ds2 O2 H2 t2 r2 ⟨e3, e4⟩ => ?_
    subst e3 e4
    cases r1
    cases r2 with
    | dct h1 h2 =>
      have g := rpKV_get k h2
      rename_i a es
      refine ⟨a, _, rfl, .inl ⟨es, .inl k, .inl ((hid_sub _ _) _ _ h1), rfl, rfl⟩, ?_⟩
      have e : (valV es (.inl k : Key)).isSome = (L.find? fun p => decide (p.1 = k)).isSome := by
        cases h : L.find? fun p => decide (p.1 = k) with
        | none =>
          rw [h] at g
          rw [show valV es (.inl k : Key) = none from g]
          rfl
        | some p =>
          rw [h] at g
          obtain ⟨u, hu, _⟩ := g
          rw [hu]
          rfl
      rw [e]
      exact kk _ _ _ O2 H2 (t1.trans t2) (.bl _) ⟨rfl, rfl⟩
theorem ev_kget {ti td : TE} {ds : Sl} {k : Int} {L : List (Int × PyData)} {p : Int × PyData} (hd : EvS td ds (eK L)) (hi : EvS ti ds (.int k)) (hp : (L.find? fun p => decide (p.1 = k)) = some p) : EvS (tDGet td ti) ds p.2 := fun F O σ H Q w0 hs kk =>
  hd F O σ H _ w0 hs fun v d ds1 O1 H1 t1 r1 ⟨e1, e2⟩ => by
    subst e1 e2
    refine hi F O1 σ H1 _ t1.own t1.hs fun u d ds2 O2 H2 t2 r2 ⟨e3, e4⟩ => ?_
    subst e3 e4
    cases r2
    have r1' := Rp.ex t2.up _ r1
    cases r1' with
    | dct h1 h2 =>
      have g := rpKV_get k h2
      rw [hp] at g
      obtain ⟨u, hu, ru⟩ := g
      exact ⟨_, u, rfl, .inl ⟨_, .inl k, .inl ((hid_sub _ _) _ _ h1), rfl, hu.symm⟩, kk _ _ _ O2 H2 (t1.trans t2) ru ⟨rfl, rfl⟩⟩
theorem pairs_of {S : ASet} {H : Hp} : ∀ {vs : List V} {L : List (Int × PyData)}, RpAll (hid S H) vs (L.map fun p => .tuple [.int p.1, p.2]) → ∃ (ps : List Addr) (kvs : List (Key × V)), vs = ps.map V.ref ∧ Paired (fun p kv => SqT K H p [kV kv.1, kv.2]) ps kvs ∧ RpKV (hid S H) kvs (L.map fun p => (PyData.int p.1, p.2)) ∧ kvs.map (·.1) = L.map fun p => (.inl p.1 : Key)
  | _, [], h => by
    cases h
    exact ⟨[], [], rfl, .nil, .nil, rfl⟩
  | _, (i, d) :: L, h => by
    have h' : RpAll (hid S H) _ (.tuple [.int i, d] :: L.map fun p => .tuple [.int p.1, p.2]) := h
    cases h' with
    | cons r t =>
      obtain ⟨ps, kvs, h1, h2, h3, h4⟩ := pairs_of t
      cases r with
      | tup g1 g2 =>
        cases g2 with
        | cons r1 g2 =>
          cases g2 with
          | cons r2 g2 =>
            cases g2
            cases r1
            rename_i a v
            exact ⟨a :: ps, (.inl i, v) :: kvs, by rw [h1]; rfl, .cons (.inl (.inl ((hid_sub _ _) _ _ g1))) h2, .cons r2 h3, by rw [List.map_cons, h4]; rfl⟩
theorem putK_new {kvs : List (Key × V)} {k : Key} {v : V} (h : k ∉ kvs.map (·.1)) : putK kvs k v = kvs ++ [(k, v)] := by
  unfold putK
  rw [if_neg]
  intro q
  obtain ⟨p, hp, e⟩ := List.any_eq_true.mp q
  exact h (List.mem_map.mpr ⟨p, hp, of_decide_eq_true e⟩)
theorem merge_new : ∀ {more kvs : List (Key × V)}, (kvs.map (·.1) ++ more.map (·.1)).Nodup → mergeK kvs more = kvs ++ more
  | [], kvs, _ => by
    rw [List.append_nil]
    rfl
  | p :: more, kvs, h => by
    have h1 : p.1 ∉ kvs.map (·.1) := fun q => by
      rw [List.nodup_append] at h
      exact h.2.2 p.1 q p.1 (by simp) rfl
    show mergeK (putK kvs p.1 p.2) more = _
    rw [putK_new h1, merge_new (by simpa using h)]
    simp
theorem rc_dict (L : List (Int × PyData)) (hn : (L.map (·.1)).Nodup) : RCD (rDictP K) [.list (L.map fun p => .tuple [.int p.1, p.2])] (eK L) := fun S H vs Q w0 r k => by
  cases r with
  | cons r rr =>
    cases rr
    cases r with
    | lst h1 h2 =>
      obtain ⟨ps, kvs, e1, e2, e3, e4⟩ := pairs_of (K := K) h2
      subst e1
      refine ⟨_, ps, kvs, rfl, .of ((hid_sub _ _) _ _ h1), e2, fun p hp => ?_⟩
      have em : mergeK [] kvs = kvs := by
        refine (merge_new ?_).trans (List.nil_append _)
        rw [List.map_nil, List.nil_append, e4]
        have : (L.map fun p => (.inl p.1 : Key)) = (L.map (·.1)).map Sum.inl := by rw [List.map_map] <;> rfl
        rw [this]
        exact List.pairwise_map.mpr (hn.imp fun h e => h (Sum.inl.inj e))
      rw [em]
      have ex : Ex (hid S H) (hid S (upd H p (.dK kvs))) := fun a o q => by
        obtain ⟨n, q⟩ := hid_some q
        rw [hid_in n]
        exact Evl.Ex.new hp a o q
      refine k _ _ (Evl.Ex.new hp) (.dct (es := kvs) ?_ (RpKV.ex ex _ e3))
      rw [hid_in (w0.fresh hp), upd_same]
theorem find_deeds {n : Nat} {E : Arr} {b : List Int} {l : Int} (hl : 0 ≤ l ∧ l < (n : Int)) : (((deeds n E b).map fun k => ((k, eT (tog n b k)) : Int × PyData)).find? fun p => decide (p.1 = l)) = if can E b l = true then some (l, eT (tog n b l)) else none := by
  by_cases hc : can E b l = true
  · rw [if_pos hc]
    have hm : l ∈ deeds n E b := mem_deeds.mpr ⟨hl, hc⟩
    generalize deeds n E b = D at hm
    induction D with
    | nil => cases hm
    | cons x D ih =>
      rw [List.map_cons]
      by_cases e : x = l
      · subst e
        rw [List.find?_cons_of_pos (by simp)]
      · rw [List.find?_cons_of_neg (by simpa using e)]
        exact ih ((List.mem_cons.mp hm).resolve_left fun z => e z.symm)
  · rw [if_neg hc]
    refine List.find?_eq_none.mpr fun p hp => ?_
    obtain ⟨k, hk, rfl⟩ := List.mem_map.mp hp
    intro e
    have : k = l := of_decide_eq_true e
    subst this
    exact hc (mem_deeds.mp hk).2
theorem r_law_leads_to (n : Nat) (E : Arr) (one : List Int) (v : PyData) (W : WebS n E) (S1 : Std n one) (O : Odd v) (N : Sl → Prop) : RunE (t_law_leads_to P w K) [.dat (eW n E), .dat (eT one), .dat v, .non, .non, .non] N fun d _ => d = leadD n E one v := by
  have h5 := W.web.few
  rcases id O with h | ⟨xs, rfl, hf, hl⟩
  · refine rn_seq (rn_if (b := true) (et_or (a := true) (b := true) ((et_not (et_B (ev_isi (ev_var rfl) (kb_tup v)))).cast (by rw [h]; rfl)) fun h => by cases h) (fun _ => rn_ret ev_non ?_) fun h => by cases h)
    cases v with
    | tuple _ => cases h
    | _ => rfl
  have hlead : leadD n E one (.tuple xs) = (match (intsOf xs).bind fun ws => if rgAll n ws = true then some ws else none with | some ws => (match runW n E one ws with | some s => eT s | none => .none) | none => .none) := by
    unfold leadD
    first
      | (rw [lampsOf_tup]; done)
      | (rw [lampsOf_tup]
         generalize (intsOf xs).bind (fun ws => if rgAll n ws = true then some ws else none) = o
         cases o with
         | none => rfl
         | some ws => cases runW n E one ws <;> rfl)
  refine rn_seq (rn_if (et_or (a := false) (et_not (et_B (ev_isTup (ev_var rfl)))) fun _ => et_not (et_B (ev_call (ea_cons (ev_var rfl) (ea_cons (ev_cb (ea_cons (ev_var rfl) ea_nil) (rc_lenT _)) ea_nil)) ⟨xs, rfl, hf, hl, rfl⟩))) (fun h => rn_ret ev_non ?_) fun h => rn_next ?_)
  · rw [hlead]
    cases e : intsOf xs with
    | none => rfl
    | some ws =>
      rw [e] at h
      cases h
  cases e : intsOf xs with
  | none =>
    rw [e] at h
    cases h
  | some ws =>
    have exs := intsOf_some e
    subst exs
    rw [len_eIs] at hl
    rw [e] at hlead
    have hlead : leadD n E one (eT ws) = (match (if rgAll n ws = true then some ws else none) with | some ws => (match runW n E one ws with | some s => eT s | none => .none) | none => .none) := hlead
    refine rn_seq (rn_if (et_T (ev_op (lc1 ws .int (fun k => !(decide (0 ≤ k) && decide (k < (n : Int)))) .int (it_tup (ev_var rfl)) (by omega) (no_at rfl rfl) (fun k _ => et_not (et_T (ev_chain ev_int (ev_var rfl) rd_B0 (fun _ => ev_op (ev_var rfl) ev_int (rd_ixT atI0)) fun _ => rd_B0))) fun k _ _ => ev_var rfl) (ev_lst ea_nil (by simp)) (rd_neL _ []))) (fun h => rn_ret ev_non ?_) fun h => rn_next ?_)
    · rw [filt_nil] at h
      have hr : rgAll n ws = false := by
        cases q : rgAll n ws with
        | false => rfl
        | true =>
          have q' : (ws.all fun k => decide (0 ≤ k) && decide (k < (n : Int))) = true := q
          rw [q'] at h
          cases h
      rw [hlead, if_neg (by rw [hr]; exact Bool.false_ne_true)]
    · rw [filt_nil] at h
      have hr : rgAll n ws = true := by
        cases q : rgAll n ws with
        | true => rfl
        | false =>
          have q' : (ws.all fun k => decide (0 ≤ k) && decide (k < (n : Int))) = false := q
          rw [q'] at h
          cases h
      rw [if_pos hr] at hlead
      have hlead : leadD n E one (eT ws) = (match runW n E one ws with | some s => eT s | none => .none) := hlead
      have hw : ∀ k ∈ ws, 0 ≤ k ∧ k < (n : Int) := fun k hk => by
        have := List.all_eq_true.mp hr k hk
        simpa using this
      rw [hlead]
      refine rn_seq (rn_for (eIs ws) (fun i ds' => ∃ (cur : List Int) (s3 s4 : Slot), s3.addr = none ∧ Std n cur ∧ runW n E one ws = runW n E cur (ws.drop i) ∧ ds' = [.dat (eW n E), .dat (eT cur), .dat (eT ws), s3, s4, .non]) (it_tup (ev_var rfl)) ⟨one, .non, .non, rfl, S1, rfl, rfl⟩ (fun i x ds' hx ⟨cur, s3, s4, h3, Sc, hc, e0⟩ => ?_) fun ds' ⟨cur, s3, s4, h3, Sc, hc, e0⟩ => ?_)
      · subst e0
        obtain ⟨l, hl2, rfl⟩ := eIs_at hx
        obtain ⟨hi, hg⟩ := List.getElem?_eq_some_iff.mp hl2
        have hlr := hw l (hg ▸ List.getElem_mem hi)
        have hd : ws.drop i = l :: ws.drop (i + 1) := by rw [List.drop_eq_getElem_cons hi, hg]
        have ndk : (((deeds n E cur).map fun k => ((k, eT (tog n cur k)) : Int × PyData)).map (·.1)).Nodup := by
          rw [List.map_map]
          have : ((fun p : Int × PyData => p.1) ∘ fun k => ((k, eT (tog n cur k)) : Int × PyData)) = id := rfl
          rw [this, List.map_id]
          exact nodup_asc (lst_asc _ _)
        have hdc : EvS (tCB (rDictP K) (tCons (tCall S_law_after [] E0 (tCons (tVar 0) (tCons (tVar 1) tNil))) tNil)) [.dat (eW n E), .dat (eT cur), .dat (eT ws), .dat (.int l), s4, .non] (eK ((deeds n E cur).map fun k => (k, eT (tog n cur k)))) := by
          refine ev_cb (ea_cons (EvE.cast (ev_call (ea_cons (ev_var rfl) (ea_cons (ev_var rfl) ea_nil)) ⟨n, E, cur, rfl, W, Sc, rfl⟩) ?_) ea_nil) (rc_dict ((deeds n E cur).map fun k => (k, eT (tog n cur k))) ndk)
          unfold afterL
          rw [List.map_map]
          rfl
        refine ⟨[3], _, tg_name, ?_⟩
        refine rn_seq (rn_set hdc ?_)
        have hfd := find_deeds (E := E) (b := cur) hlr
        refine rn_seq (rn_if (et_B (ev_knin (ev_var rfl) (ev_var rfl))) (fun h => rn_ret ev_non ?_) fun h => rn_next ?_)
        · rw [hfd] at h
          have hcn : can E cur l = false := by
            cases q : can E cur l with
            | false => rfl
            | true =>
              rw [q] at h
              cases h
          have hn : runW n E one ws = none := by
            rw [hc, hd, runW, hcn, Bool.and_false, if_neg Bool.false_ne_true]
          rw [hn]
        · rw [hfd] at h
          have hcy : can E cur l = true := by
            cases q : can E cur l with
            | true => rfl
            | false =>
              rw [q] at h
              cases h
          rw [if_pos hcy] at hfd
          refine rn_set (ev_kget (ev_var rfl) (ev_var rfl) hfd) ⟨tog n cur l, .dat (.int l), _, rfl, std_tog _ _ _, ?_, rfl⟩
          rw [hc, hd, runW, hcy, decide_eq_true hlr, Bool.and_self, if_pos rfl]
      · subst e0
        refine rn_ret (ev_var rfl) ?_
        rw [hc, len_eIs, List.drop_length]
        rfl
end
end Hk
set_option Elab.async false
set_option linter.all false
set_option maxRecDepth 100000
set_option maxHeartbeats 1000000
set_option autoImplicit false
/-! HkZ7: the readings kept, alike and the drawing. -/
namespace Hk
open PySem PySem.Spec PyProof.Rows L2
section
variable {P : Program} {w : World} {K : PySem.W.Frag}
def isNon : PyData → Bool
  | .none => true
  | _ => false
theorem ev_isN {te : TE} {ds : Sl} {d : PyData} (h : EvS te ds d) : EvS (tIsN te) ds (.bool (isNon d)) := fun F O σ H Q w0 hs k =>
  h F O σ H _ w0 hs fun v d' ds1 O1 H1 t1 r1 ⟨e1, e2⟩ => by
    subst e1 e2
    have e : decide (v = .non) = isNon d' := by
      cases r1 with
      | non => rfl
      | bl b => rfl
      | int i => rfl
      | lst h1 h2 => rfl
      | tup h1 h2 => rfl
      | dct h1 h2 => rfl
    show Q (.bl (decide (v = .non))) H1
    rw [e]
    exact k _ _ _ O1 H1 t1 (.bl _) ⟨rfl, rfl⟩
theorem rd_self {d : PyData} (h : flatD d = true) : RD (rEqD K) d d (.bool true) := by
  cases d with
  | none => exact rd_eq (x := .none) (y := .none) rfl rfl rfl rfl
  | bool b => exact (by simpa using rd_eqB (K := K) b b)
  | int i => exact (by simpa using rd_eqI (K := K) i i)
  | str _ => cases h
  | list _ => cases h
  | tuple _ => cases h
  | dict _ => cases h
/-- flat data, either text of the body -/
theorem r_alike_flat {d : PyData} (hf : flatD d = true) {t : TS} {N : Sl → Prop} : RunE (tSeq (tIfS (tB (tCB (rIsiT K) (tCons (tVar 1) (tCons (tTup (tCons (tC (.ty "tuple")) (tCons (tC (.ty "list")) tNil))) tNil)))) t tNext)
    (tSeq (tIfS (tOr (tB (tIsN (tVar 1))) (tB (tCB (rIsi K) (tCons (tVar 1) (tCons (tC (.ty "str")) tNil))))) (tRet (tAndV (tOp (rEqD K) (tVar 0) (tVar 1)) (tOp (rEqD K) (tCB (rIsi K) (tCons (tVar 0) (tCons (tC (.ty "str")) tNil))) (tCB (rIsi K) (tCons (tVar 1) (tCons (tC (.ty "str")) tNil)))))) tNext)
    (tRet (tAndV (tCB (rIsi K) (tCons (tVar 0) (tCons (tC (.ty "int")) tNil))) (tAndV (tOp (rEqD K) (tCB (rIsi K) (tCons (tVar 0) (tCons (tC (.ty "bool")) tNil))) (tCB (rIsi K) (tCons (tVar 1) (tCons (tC (.ty "bool")) tNil)))) (tOp (rEqD K) (tVar 0) (tVar 1))))))) [.dat d, .dat d, .non] N fun x _ => x = .bool true := by
  have h2 : (isTup d || isList d) = false := by
    cases d <;> first | rfl | cases hf
  refine rn_seq (rn_if (b := false) ((et_B (ev_isi2 (ev_var rfl) (kb_tup d) (kb_list d))).cast h2) (fun h => by cases h) fun _ => rn_next ?_)
  have hs : isStr d = false := by
    cases d <;> first | rfl | cases hf
  refine rn_seq (rn_if (b := isNon d) ((et_or (et_B (ev_isN (ev_var rfl))) fun _ => et_B (ev_isi (ev_var rfl) (kb_str d))).cast (by rw [hs, Bool.or_false])) (fun h => ?_) fun h => rn_next ?_)
  · exact rn_ret (ev_and (ev_op (ev_var rfl) (ev_var rfl) (rd_self hf)) fun _ => ev_op (ev_isi (ev_var rfl) (kb_str d)) (ev_isi (ev_var rfl) (kb_str d)) (rd_eqB _ _)) (by rw [hs]; rfl)
  · have hi : isInt d = true := by
      cases d <;> first | rfl | (cases h; done) | (cases hf; done)
    exact rn_ret (ev_and (ev_isi (ev_var rfl) (kb_int d)) fun _ => ev_and (ev_op (ev_isi (ev_var rfl) (kb_bool d)) (ev_isi (ev_var rfl) (kb_bool d)) (rd_eqB _ _)) fun _ => ev_op (ev_var rfl) (ev_var rfl) (rd_self hf)) (by rw [hi]; simp)
theorem okD_zero {d : PyData} (h : okD 0 d) : flatD d = true := by
  cases d <;> first | rfl | exact h.elim
theorem r_law_alike0 (d : PyData) (h : okD 0 d) (N : Sl → Prop) : RunE (t_law_alike0 P w K) [.dat d, .dat d, .non] N fun x _ => x = .bool true := r_alike_flat (okD_zero h)
theorem r_law_alike (m : Nat) (d : PyData) (h : okD (m + 1) d) (N : Sl → Prop) : RunE (t_law_alike P w K m) [.dat d, .dat d, .non] N fun x _ => x = .bool true := by
  cases hf : flatD d with
  | true => exact r_alike_flat hf
  | false =>
    obtain ⟨xs, hd, hl, hx⟩ : ∃ xs, (d = .list xs ∨ d = .tuple xs) ∧ xs.length ≤ 1000 ∧ ∀ x ∈ xs, okD m x := by
      cases d with
      | list xs => exact ⟨xs, .inl rfl, h.1, h.2⟩
      | tuple xs => exact ⟨xs, .inr rfl, h.1, h.2⟩
      | none => cases hf
      | bool _ => cases hf
      | int _ => cases hf
      | str _ => exact h.elim
      | dict _ => exact h.elim
    have h2 : (isTup d || isList d) = true := by rcases hd with e | e <;> subst e <;> rfl
    refine rn_seq (rn_if (b := true) ((et_B (ev_isi2 (ev_var rfl) (kb_tup d) (kb_list d))).cast h2) (fun _ => ?_) fun h => by cases h)
    refine rn_seq (rn_if (b := false) ((et_or (et_not (et_B (ev_isi2 (ev_var rfl) (kb_tup d) (kb_list d)))) fun _ => et_T (ev_op (ev_isi (ev_var rfl) (kb_list d)) (ev_isi (ev_var rfl) (kb_list d)) (rd_neB _ _))).cast (by rw [h2]; simp)) (fun h => by cases h) fun _ => rn_next ?_)
    have hlen : ∀ i : Nat, i < 2 → EvS (tCB (Evl.rLenS K) (tCons (tVar i) tNil)) [.dat d, .dat d, .non] (.int xs.length) := fun i hi => by
      have hv : ([.dat d, .dat d, .non] : Sl)[i]? = some (.dat d) := by
        match i, hi with
        | 0, _ => rfl
        | 1, _ => rfl
      rcases hd with e | e <;> subst e
      · exact ev_cb (ea_cons (ev_var hv) ea_nil) (rc_lenL _)
      · exact ev_cb (ea_cons (ev_var hv) ea_nil) (rc_lenT _)
    refine rn_seq (rn_if (b := false) ((et_T (ev_op (hlen 0 (by decide)) (hlen 1 (by decide)) (rd_neI _ _))).cast (by simp)) (fun h => by cases h) fun _ => rn_next ?_)
    refine rn_ret (ev_op (lc1 (rng xs.length) .int (fun _ => false) .int (it_rngN (ea_cons (hlen 1 (by decide)) ea_nil) hl) (by rw [rng_len]; omega) (no_at rfl rfl) (fun k hk => ?_) fun k _ h => by cases h) (ev_lst ea_nil (by simp)) (rd_eqL _ [])) ?_
    · have hkr := mem_rng.mp hk
      obtain ⟨j, rfl⟩ : ∃ j : Nat, k = (j : Int) := ⟨k.toNat, by omega⟩
      have hj : j < xs.length := by omega
      have hat : atI xs (j : Int) = some xs[j] := atI_nat (List.getElem?_eq_getElem hj)
      have hget : ∀ i : Nat, i < 2 → EvS (tOp (rIx K) (tVar i) (tVar 2)) [.dat d, .dat d, .dat (.int (j : Int))] xs[j] := fun i hi => by
        have hv : ([.dat d, .dat d, .dat (.int (j : Int))] : Sl)[i]? = some (.dat d) := by
          match i, hi with
          | 0, _ => rfl
          | 1, _ => rfl
        rcases hd with e | e <;> subst e
        · exact ev_op (ev_var hv) (ev_var rfl) (rd_ixL hat)
        · exact ev_op (ev_var hv) (ev_var rfl) (rd_ixT hat)
      exact (et_not (et_B (ev_call (ea_cons (hget 0 (by decide)) (ea_cons (hget 1 (by decide)) ea_nil)) ⟨xs[j], rfl, hx _ (List.getElem_mem hj), rfl⟩))).cast rfl
    · rw [List.filter_eq_nil_iff.mpr fun _ _ => Bool.false_ne_true]
      rfl
end
end Hk
set_option Elab.async false
set_option linter.all false
set_option maxRecDepth 100000
set_option maxHeartbeats 1000000
set_option autoImplicit false
/-! HkZ8: the readings kept, drawing. -/
namespace Hk
open PySem PySem.Spec PyProof.Rows L2
section
variable {P : Program} {w : World} {K : PySem.W.Frag}
/-- the row stands so, all else as in H -/
structure Rw (K : PySem.W.Frag) (H : Hp) (a sc : Addr) (ns : List Int) (H' : Hp) (i x c : Int) : Prop where
  at_ : H' a = some (.lst [.ref sc, .int i, .int x, .int c])
  oth : ∀ b, b ≠ a → H' b = H b
  sq : ∀ H2 : Hp, (∀ b, b ≠ a → H2 b = H b) → SqL K H2 sc (ns.map V.int)
variable {H H' : Hp} {a sc : Addr} {ns : List Int} {i x c : Int} {σ : L2.St} {Q : VK}
theorem Rw.put (R : Rw K H a sc ns H' i x c) (i' x' c' : Int) : Rw K H a sc ns (upd H' a (.lst [.ref sc, .int i', .int x', .int c'])) i' x' c' :=
  ⟨upd_same, fun b hb => by rw [upd_ne hb]; exact R.oth b hb, R.sq⟩
theorem Rw.get0 (R : Rw K H a sc ns H' i x c) (h0 : σ[0]? = some (some (.ref a))) (q : Q (.ref sc) H') : tOp (rIx K) (tVar 0) (tC (.int 0)) σ H' Q :=
  ⟨_, h0, .inl ⟨a, _, 0, _, rfl, rfl, .of R.at_, atI_nat (j := 0) rfl, q⟩⟩
theorem Rw.get1 (R : Rw K H a sc ns H' i x c) (h0 : σ[0]? = some (some (.ref a))) (q : Q (.int i) H') : tOp (rIx K) (tVar 0) (tC (.int 1)) σ H' Q :=
  ⟨_, h0, .inl ⟨a, _, 1, _, rfl, rfl, .of R.at_, atI_nat (j := 1) rfl, q⟩⟩
theorem Rw.get2 (R : Rw K H a sc ns H' i x c) (h0 : σ[0]? = some (some (.ref a))) (q : Q (.int x) H') : tOp (rIx K) (tVar 0) (tC (.int 2)) σ H' Q :=
  ⟨_, h0, .inl ⟨a, _, 2, _, rfl, rfl, .of R.at_, atI_nat (j := 2) rfl, q⟩⟩
theorem Rw.get3 (R : Rw K H a sc ns H' i x c) (h0 : σ[0]? = some (some (.ref a))) (q : Q (.int c) H') : tOp (rIx K) (tVar 0) (tC (.int 3)) σ H' Q :=
  ⟨_, h0, .inl ⟨a, _, 3, _, rfl, rfl, .of R.at_, atI_nat (j := 3) rfl, q⟩⟩
theorem Rw.set1 {QS : L2.St → Hp → Prop} {v : Int} (R : Rw K H a sc ns H' i x c) (h0 : σ[0]? = some (some (.ref a))) (q : QS σ (upd H' a (.lst [.ref sc, .int v, .int x, .int c]))) : gSub (tVar 0) (tC (.int 1)) L2.rSetL (.int v) σ H' QS :=
  ⟨_, h0, a, _, 1, 1, rfl, rfl, R.at_, rfl, q⟩
theorem Rw.set2 {QS : L2.St → Hp → Prop} {v : Int} (R : Rw K H a sc ns H' i x c) (h0 : σ[0]? = some (some (.ref a))) (q : QS σ (upd H' a (.lst [.ref sc, .int i, .int v, .int c]))) : gSub (tVar 0) (tC (.int 2)) L2.rSetL (.int v) σ H' QS :=
  ⟨_, h0, a, _, 2, 2, rfl, rfl, R.at_, rfl, q⟩
theorem Rw.set3 {QS : L2.St → Hp → Prop} {v : Int} (R : Rw K H a sc ns H' i x c) (h0 : σ[0]? = some (some (.ref a))) (q : QS σ (upd H' a (.lst [.ref sc, .int i, .int x, .int v]))) : gSub (tVar 0) (tC (.int 3)) L2.rSetL (.int v) σ H' QS :=
  ⟨_, h0, a, _, 3, 3, rfl, rfl, R.at_, rfl, q⟩
theorem fmod_rg {v m : Int} (h : 1 ≤ m) : 0 ≤ v.fmod m ∧ v.fmod m < m := ⟨Int.fmod_nonneg_of_pos v (by omega), Int.fmod_lt_of_pos v (by omega)⟩
theorem raw_taken {D : Ends} {m : Int} (R : Rw K H a sc ns H i x c) (hi : 0 ≤ i) (hx : 0 ≤ x) (hm : 1 ≤ m) (hm2 : m ≤ 100000)
    (hrt : ∀ (r : Int) (H' : Hp) (i' x' c' : Int), 0 ≤ r → r < m → 0 ≤ i' → 0 ≤ x' → Rw K H a sc ns H' i' x' c' → D.rt (.int r) H') : t_law_taken P w K D [some (.ref a), some (.int m), none, none] H := by
  have cd : ∀ v : Int, CDivN v m := fun v => ⟨by omega, by omega⟩
  have m0 : m ≠ 0 := by omega
  -- row[3] > 0
  refine R.get3 rfl ⟨c, 0, rfl, rfl, decide (0 < c), rfl, ?_⟩
  cases h3 : decide (0 < c) with
  | true =>
    refine iteT ?_
    refine R.get3 rfl (.inl ⟨c, rfl, _, rfl, c, m, rfl, rfl, m0, ?_⟩)
    refine R.get3 rfl ⟨_, rfl, c, m, rfl, rfl, cd c, ?_⟩
    refine R.set3 rfl ⟨_, rfl, ?_⟩
    exact hrt _ _ i x _ (fmod_rg hm).1 (fmod_rg hm).2 hi hx (R.put _ _ _)
  | false =>
    refine iteF ?_
    refine R.get1 rfl ⟨i, 1, rfl, rfl, ?_⟩
    refine R.set1 rfl ?_
    have R1 := R.put (i + 1) x c
    refine R1.get1 rfl ?_
    refine R1.get0 rfl ⟨sc, _, rfl, .inl (R1.sq _ R1.oth), ?_⟩
    refine ⟨i + 1, _, rfl, rfl, decide (((ns.map V.int).length : Int) < i + 1), rfl, ?_⟩
    cases hl : decide (((ns.map V.int).length : Int) < i + 1) with
    | true =>
      refine iteT ?_
      refine R1.get2 rfl ⟨x, 48271, rfl, rfl, .inr ⟨by decide, by decide⟩, ?_⟩
      refine ⟨_, 11, rfl, rfl, .inl ⟨_, rfl, ?_⟩⟩
      refine ⟨_, 2147483647, rfl, rfl, (by decide : (2147483647 : Int) ≠ 0), ?_⟩
      refine R1.set2 rfl ?_
      have R2 := R1.put (i + 1) ((x * 48271 + 11).fmod 2147483647) c
      refine R2.get2 rfl ⟨_, 7, rfl, rfl, ⟨by decide, by decide⟩, .inl ⟨_, rfl, _, rfl, _, m, rfl, rfl, m0, ?_⟩⟩
      exact hrt _ _ _ _ _ (fmod_rg hm).1 (fmod_rg hm).2 (by omega) (fmod_rg (by decide)).1 R2
    | false =>
      refine iteF ?_
      have hl2 : i + 1 ≤ (ns.length : Int) := by
        have := of_decide_eq_false hl
        rw [List.length_map] at this
        omega
      obtain ⟨j, rfl⟩ : ∃ j : Nat, i = (j : Int) := ⟨i.toNat, by omega⟩
      have hj : j < ns.length := by omega
      refine R1.get0 rfl ?_
      refine R1.get1 rfl ⟨_, 1, rfl, rfl, ?_⟩
      refine .inl ⟨sc, _, ((j : Int) + 1) - 1, .int ns[j], rfl, rfl, R1.sq _ R1.oth, ?_, ?_⟩
      · have e : ((j : Int) + 1) - 1 = (j : Int) := by omega
        rw [e]
        exact atI_nat (by rw [List.getElem?_map, List.getElem?_eq_getElem hj] <;> rfl)
      generalize ns[j] = cell
      refine R1.get2 rfl ⟨x, 48271, rfl, rfl, .inr ⟨by decide, by decide⟩, ?_⟩
      refine ⟨_, rfl, _, cell, rfl, rfl, _, 11, rfl, rfl, .inl ⟨_, rfl, ?_⟩⟩
      refine ⟨_, 2147483647, rfl, rfl, (by decide : (2147483647 : Int) ≠ 0), ?_⟩
      refine R1.set2 rfl ?_
      have R2 := R1.put ((j : Int) + 1) ((x * 48271 + cell + 11).fmod 2147483647) c
      have x2 : 0 ≤ (x * 48271 + cell + 11).fmod 2147483647 := (fmod_rg (by decide)).1
      refine ⟨_, rfl, 10, 18, rfl, rfl, ⟨by decide, by decide, by decide⟩, ?_⟩
      refine ⟨cell, _, rfl, rfl, decide ((10 : Int) ^ (18 : Int).toNat ≤ cell), rfl, ?_⟩
      cases hc : decide ((10 : Int) ^ (18 : Int).toNat ≤ cell) with
      | true =>
        refine iteT ?_
        refine ⟨_, rfl, _, rfl, cell, m, rfl, rfl, cd cell, ?_⟩
        refine R2.set3 rfl ?_
        refine ⟨_, rfl, .inl ⟨_, rfl, _, rfl, cell, m, rfl, rfl, m0, ?_⟩⟩
        exact hrt _ _ _ _ _ (fmod_rg hm).1 (fmod_rg hm).2 (by omega) x2 (R2.put _ _ _)
      | false =>
        refine iteF ?_
        refine ⟨_, rfl, .inl ⟨_, rfl, _, rfl, cell, m, rfl, rfl, m0, ?_⟩⟩
        exact hrt _ _ _ _ _ (fmod_rg hm).1 (fmod_rg hm).2 (by omega) x2 R2
theorem sq_of {S : ASet} {xs : List V} (hS : S a) (h : SqL K (hid S H) sc xs) (H2 : Hp) (e : ∀ b, b ≠ a → H2 b = H b) : SqL K H2 sc xs ∧ SqL K (hid S H2) sc xs := by
  have key : ∀ o, hid S H sc = some o → H2 sc = some o ∧ hid S H2 sc = some o := fun o q => by
    obtain ⟨n, q⟩ := hid_some q
    have ne : sc ≠ a := fun z => n (by rw [z]; exact hS)
    rw [hid_in n, e sc ne]
    exact ⟨q, q⟩
  rcases h with (h | ⟨o, h⟩) | h
  · exact ⟨.inl (.inl (key _ h).1), .inl (.inl (key _ h).2)⟩
  · exact ⟨.inl (.inr ⟨o, (key _ h).1⟩), .inl (.inr ⟨o, (key _ h).2⟩)⟩
  · exact ⟨.inr h, .inr h⟩
theorem sp_taken {vs : List V} {E : XK} (h : S_law_taken K vs H Q E) : t_law_taken P w K { nx := fun _ H' => Q .non H', rt := Q } (start ["_law_row", "_law_many", "_law_found", "_law_cell"] vs) H := by
  obtain ⟨S, a, ws, xs, rfl, na, w0, ⟨sc, i, x, c, ns, h1, h2, h3, h4⟩, r, ⟨m, rfl, hm, hm2⟩, q⟩ := h
  cases r with
  | cons r rr =>
    cases rr
    cases r
    have ha : un S (· = a) a := .inr rfl
    refine raw_taken (K := K) (H := H) (a := a) (sc := sc) (ns := ns) (i := i) (x := x) (c := c) ⟨h1, fun b _ => rfl, fun H2 e => (sq_of ha h2 H2 e).1⟩ h3 h4 hm hm2 fun r H' i' x' c' r0 r1 i0 x0 R => ?_
    refine q (.int r) (.int r) H' (fun b o hb e => by rw [R.oth b hb]; exact e) (fun b z => ?_) ⟨sc, i', x', c', ns, R.at_, (sq_of ha h2 H' R.oth).2, i0, x0⟩ (.int r) ⟨m, r, rfl, rfl, r0, r1⟩
    by_cases e : b = a
    · subst e
      exact ⟨_, R.at_, trivial⟩
    · obtain ⟨o, z1, z2⟩ := w0 b z
      exact ⟨o, by rw [R.oth b e]; exact z1, z2⟩
end
end Hk
set_option Elab.async false
set_option linter.all false
set_option maxRecDepth 100000
set_option maxHeartbeats 1000000
set_option autoImplicit false
/-! HkZ9: the readings kept, what is drawn. -/
namespace Hk
open PySem PySem.Spec PyProof.Rows L2
section
variable {P : Program} {w : World} {K : PySem.W.Frag}
/-- one number below m -/
def Drawn (m : Int) (d : PyData) : Prop := ∃ r : Int, d = .int r ∧ 0 ≤ r ∧ r < m
theorem ee_taken {E : XK} {te : TE} {ds : Sl} {a : Addr} {m : Int} (q : ds[0]? = some (.row K a)) (h : EvS te ds (.int m)) (h1 : 1 ≤ m) (h2 : m ≤ 100000) : EvE (tCall (S_law_taken K) [] E (tCons (tVar 0) (tCons te tNil))) ds fun d ds' => Drawn m d ∧ ds' = ds :=
  ee_callR q ((ea_cons h ea_nil).mono fun xs ds' ⟨e1, e2⟩ => by
    subst e1 e2
    exact ⟨q, ⟨m, rfl, h1, h2⟩, fun z ⟨m', r, e, ez, r0, r1⟩ => by
      cases e
      exact ⟨⟨r, ez, r0, r1⟩, rfl⟩⟩)
theorem ee_pick {E : XK} {te : TE} {ds : Sl} {a : Addr} {ys : List PyData} (q : ds[0]? = some (.row K a)) (h : EvS te ds (.list ys)) (h1 : ys ≠ []) (h2 : ys.length ≤ 1000) : EvE (tCall (S_law_pick K) [] E (tCons (tVar 0) (tCons te tNil))) ds fun d ds' => d ∈ ys ∧ ds' = ds :=
  ee_callR q ((ea_cons h ea_nil).mono fun xs ds' ⟨e1, e2⟩ => by
    subst e1 e2
    exact ⟨q, ⟨ys, rfl, h1, h2⟩, fun z ⟨ys', e, hz⟩ => by
      cases e
      exact ⟨hz, rfl⟩⟩)
theorem r_law_pick (a : Addr) (ys : List PyData) (h1 : ys ≠ []) (h2 : ys.length ≤ 1000) (N : Sl → Prop) : RunE (t_law_pick P w K) [.row K a, .dat (.list ys)] N fun d ds' => d ∈ ys ∧ ds'[0]? = some (.row K a) := by
  have hl : 0 < ys.length := List.length_pos_iff.mpr h1
  refine rne_ret (ee_op (ev_var rfl) fun x ds1 e => ?_)
  obtain ⟨rfl, rfl⟩ := e
  refine (ee_taken rfl (ev_cb (ea_cons (ev_var rfl) ea_nil) (rc_lenL _)) (by omega) (by omega)).mono fun d ds' ⟨⟨r, hr, r0, r1⟩, e⟩ => ?_
  subst hr e
  obtain ⟨j, rfl⟩ : ∃ j : Nat, r = (j : Int) := ⟨r.toNat, by omega⟩
  have hj : j < ys.length := by omega
  exact ⟨ys[j], rd_ixL (atI_nat (List.getElem?_eq_getElem hj)), List.getElem_mem hj, rfl⟩
/-- a comprehension that draws: the slots stay -/
theorem lcN {wi : TI} {tt : TT} {te : TE} {j : Nat} {ds : Sl} (xs : List PyData) (J : Nat → List PyData → Prop) (hi : IterS wi ds xs) (hz : xs.length ≤ 40000) (hno : ∀ s, ds[j]? = some s → s.addr = none) (j0 : J 0 [])
    (hs : ∀ i x acc, xs[i]? = some x → J i acc → EtE tt (ds.set j (.dat x)) fun b ds2 => ds2 = ds.set j (.dat x) ∧ if b = true then EvE te (ds.set j (.dat x)) fun d ds3 => ds3 = ds.set j (.dat x) ∧ J (i + 1) (acc ++ [d]) else J (i + 1) acc) :
    EvE (tLc wi (gName j) tt te [j]) ds fun d ds' => (∃ acc, d = .list acc ∧ J xs.length acc) ∧ ds' = ds := by
  have bk : ∀ x : PyData, Back ds (ds.set j (.dat x)) [j] ds := fun x => ⟨rfl, fun i s q => by
    by_cases e : i = j
    · subst e
      exact .inr ⟨hno s q, .inl q⟩
    · exact .inl ⟨by simpa using e, by rw [List.getElem?_set_ne fun z => e z.symm]; exact q⟩⟩
  refine ee_lc (js := [j]) xs (fun i ds' acc => ds' = ds ∧ J i acc) (hi.mono' fun ys ds' e => ⟨e.1, e.2, j0⟩) hz (fun _ h => h) (fun i x ds' acc hx ⟨e, hJ⟩ => ?_) fun ds' acc ⟨e, hJ⟩ => ⟨⟨acc, rfl, hJ⟩, e⟩
  subst e
  have h : TgS (gName j) x [j] (wipeD ds' [j]) ((wipeD ds' [j]).set j (.dat x)) := tg_name
  have e : (wipeD ds' [j]).set j (.dat x) = ds'.set j (.dat x) := List.set_set _
  rw [e] at h
  refine ⟨_, h, (hs i x acc hx hJ).mono fun b ds2 ⟨e2, h2⟩ => ?_⟩
  subst e2
  cases b with
  | true =>
    rw [if_pos rfl] at h2 ⊢
    exact h2.mono fun d ds3 ⟨e3, h3⟩ => by
      subst e3
      exact ⟨ds', bk x, rfl, h3⟩
  | false =>
    rw [if_neg Bool.false_ne_true] at h2 ⊢
    exact ⟨ds', bk x, rfl, h2⟩
theorem std_snoc {i : Nat} {s : List Int} (S : Std i s) : Std (i + 1) (s ++ [(i : Int)]) := by
  refine ⟨?_, fun k hk => ?_⟩
  · rw [List.pairwise_append]
    refine ⟨S.asc, by simp, fun a ha b hb => ?_⟩
    rw [List.mem_singleton.mp hb]
    exact (S.inr a ha).2
  · rcases List.mem_append.mp hk with h | h
    · have := S.inr k h
      omega
    · rw [List.mem_singleton.mp h]
      omega
theorem std_more {i : Nat} {s : List Int} (S : Std i s) : Std (i + 1) s := ⟨S.asc, fun k hk => by have := S.inr k hk; omega⟩
theorem eIs_snoc (s : List Int) (k : Int) : eIs s ++ [.int k] = eIs (s ++ [k]) := by simp [eIs]
theorem mem3 {d : PyData} {x y z : Int} (h : d ∈ [PyData.int x, .int y, .int z]) : ∃ t, d = .int t ∧ (t = x ∨ t = y ∨ t = z) := by
  rcases List.mem_cons.mp h with e | h
  · exact ⟨x, e, .inl rfl⟩
  · rcases List.mem_cons.mp h with e | h
    · exact ⟨y, e, .inr (.inl rfl)⟩
    · exact ⟨z, List.mem_singleton.mp h, .inr (.inr rfl)⟩
theorem rng_get {n i : Nat} {x : PyData} (h : (eIs (rng n))[i]? = some x) : i < n ∧ x = .int (i : Int) := by
  have hi : i < n := by
    have := (List.getElem?_eq_some_iff.mp h).1
    rwa [len_eIs, rng_len] at this
  rw [rng_at n i hi] at h
  exact ⟨hi, (Option.some.inj h).symm⟩
theorem ee_eq0 {E : XK} {te : TE} {ds : Sl} {a : Addr} {m : Int} (q : ds[0]? = some (.row K a)) (h : EvS te ds (.int m)) (h1 : 1 ≤ m) (h2 : m ≤ 100000) : EvE (tOp (rEqD K) (tCall (S_law_taken K) [] E (tCons (tVar 0) (tCons te tNil))) (tC (.int 0))) ds fun d ds' => ∃ b, d = .bool b ∧ ds' = ds :=
  ee_op (ee_taken q h h1 h2) fun x ds1 ⟨⟨r, hr, _, _⟩, e⟩ => by
    subst hr e
    exact (ev_int (n := 0) (ds := ds1)).mono fun y ds2 e2 => by
      obtain ⟨rfl, rfl⟩ := e2
      exact ⟨_, rd_eqI r 0, _, rfl, rfl⟩
theorem r_law_burning (a : Addr) (n : Nat) (hn : n ≤ 5) (N : Sl → Prop) : RunE (t_law_burning P w K) [.row K a, .dat (.int (n : Int)), .non, .non] N fun d ds' => (∃ s, d = eT s ∧ Std n s) ∧ ds'[0]? = some (.row K a) := by
  refine rn_seq (rne_set ((ee_pick rfl (ev_lst (ea_cons ev_int (ea_cons ev_int (ea_cons ev_int ea_nil))) (by simp)) (by simp) (by simp)).mono fun d ds' ⟨hd, e⟩ => ?_))
  subst e
  obtain ⟨t, rfl, ht⟩ := mem3 hd
  refine rne_ret (ee_cb (eae_cons (lcN (eIs (rng n)) (fun i acc => ∃ s, acc = eIs s ∧ Std i s) (it_rngN (ea_cons (ev_var rfl) ea_nil) (by omega)) (by rw [len_eIs, rng_len]; omega) (no_at rfl rfl) ⟨[], rfl, List.Pairwise.nil, by simp⟩ fun i x acc hx ⟨s, hacc, S⟩ => ?_) fun x ds1 ⟨⟨acc, e, s, hs, S⟩, e1⟩ => ?_))
  · obtain ⟨hi, rfl⟩ := rng_get hx
    subst hacc
    refine ete_T ((ee_eq0 rfl (ev_var rfl) (by omega) (by omega)).mono fun d ds' ⟨b, hb, e⟩ => ⟨b, hb, e, ?_⟩)
    cases b with
    | true =>
      rw [if_pos rfl]
      refine (ev_var (i := 3) rfl).mono fun d' ds3 e3 => ?_
      obtain ⟨rfl, rfl⟩ := e3
      exact ⟨rfl, s ++ [(i : Int)], eIs_snoc _ _, std_snoc S⟩
    | false =>
      rw [if_neg Bool.false_ne_true]
      exact ⟨s, rfl, std_more S⟩
  · subst e hs e1
    rw [len_eIs, rng_len] at S
    exact ea_nil.mono fun ys ds2 e2 => by
      obtain ⟨rfl, rfl⟩ := e2
      exact ⟨_, rc_tuple _, ⟨s, rfl, S⟩, rfl⟩
theorem r_law_prices (a : Addr) (n : Nat) (E : Arr) (hn : n ≤ 5) (N : Sl → Prop) : RunE (t_law_prices P w K) [.row K a, .dat (eW n E), .non, .non] N fun d ds' => (∃ p, d = ePr p ∧ Prices n p) ∧ ds'[0]? = some (.row K a) := by
  refine rn_seq (rne_set ((ee_pick rfl (ev_lst (ea_cons ev_int (ea_cons ev_int (ea_cons ev_int ea_nil))) (by simp)) (by simp) (by simp)).mono fun d ds' ⟨hd, e⟩ => ?_))
  subst e
  obtain ⟨t, rfl, ht⟩ := mem3 hd
  refine rne_ret (ee_cb (eae_cons (lcN (eIs (rng n)) (fun i acc => ∃ p : Prc, acc = p.map eP ∧ Prices i p) (it_rngN (ea_cons (ev_op (ev_var rfl) ev_int (rd_ixT atI0)) ea_nil) (by omega)) (by rw [len_eIs, rng_len]; omega) (no_at rfl rfl) ⟨[], rfl, rfl, by simp⟩ fun i x acc hx ⟨p, hacc, HP⟩ => ?_) fun x ds1 ⟨⟨acc, e, p, hs, HP⟩, e1⟩ => ?_))
  · obtain ⟨hi, rfl⟩ := rng_get hx
    subst hacc
    refine EtE.of et_yes ⟨rfl, ?_⟩
    rw [if_pos rfl]
    refine ee_tup (eae_cons (ee_taken rfl (ev_var rfl) (by omega) (by omega)) fun x ds1 ⟨⟨r, hr, r0, r1⟩, e⟩ => ?_)
    subst hr e
    refine eae_cons (ee_taken rfl (ev_var rfl) (by omega) (by omega)) fun y ds2 ⟨⟨r', hr', r0', r1'⟩, e⟩ => ?_
    subst hr' e
    refine ea_nil.mono fun zs ds3 e3 => ?_
    obtain ⟨rfl, rfl⟩ := e3
    refine ⟨by simp, rfl, p ++ [(r, r')], by simp, by simp [HP.len], fun q hq => ?_⟩
    rcases List.mem_append.mp hq with h | h
    · exact HP.inr q h
    · rw [List.mem_singleton.mp h]
      simp only
      omega
  · subst e hs e1
    rw [len_eIs, rng_len] at HP
    exact ea_nil.mono fun ys ds2 e2 => by
      obtain ⟨rfl, rfl⟩ := e2
      exact ⟨_, rc_tuple _, ⟨p, rfl, HP⟩, rfl⟩
theorem after_ne {n : Nat} {E : Arr} (W : WebS n E) {b : List Int} (S : Std n b) : afterL n E b ≠ [] := by
  obtain ⟨k, hk, hc⟩ := some_deed W.web S
  have : k ∈ deeds n E b := mem_deeds.mpr ⟨hk, hc⟩
  unfold afterL
  intro e
  rw [List.map_eq_nil_iff] at e
  rw [e] at this
  cases this
theorem r_law_word (a : Addr) (n : Nat) (E : Arr) (b : List Int) (W : WebS n E) (S : Std n b) (N : Sl → Prop) : RunE (t_law_word P w K) [.row K a, .dat (eW n E), .dat (eT b), .dat (.int 6), .non, .non, .non, .non] N fun d ds' => (∃ ws : List Int, d = eT ws ∧ ws.length ≤ 6) ∧ ds'[0]? = some (.row K a) := by
  have h5 := W.web.few
  refine rn_seq (rn_par (ea_cons (ev_tup ea_nil (by simp)) (ea_cons (ev_var rfl) ea_nil)) ?_)
  refine rn_seq (rne_for (fun xs i ds' => xs.length ≤ 6 ∧ ∃ (ws cur : List Int) (s6 s7 : Slot), ws.length ≤ i ∧ Std n cur ∧ ds' = [.row K a, .dat (eW n E), .dat (eT b), .dat (.int 6), .dat (eT ws), .dat (eT cur), s6, s7]) (ite_rng1 (eae_cons (ee_taken rfl (ev_op (ev_var rfl) ev_int rd_I0) (by decide) (by decide)) fun x ds1 ⟨⟨r, hr, r0, r1⟩, e⟩ => ?_)) (fun xs i x ds' hx ⟨hl, ws, cur, s6, s7, hw, Sc, e0⟩ => ?_) fun xs ds' ⟨hl, ws, cur, s6, s7, hw, Sc, e0⟩ => ?_)
  · subst hr e
    refine ea_nil.mono fun ys ds2 e2 => ?_
    obtain ⟨rfl, rfl⟩ := e2
    exact ⟨r, rfl, by omega, by omega, by rw [rgD_len]; omega, [], b, .non, .non, Nat.le_refl _, S, rfl⟩
  · subst e0
    have hi : i < xs.length := (List.getElem?_eq_some_iff.mp hx).1
    refine ⟨[6], _, tg_name, ?_⟩
    have la : (afterL n E cur).length ≤ 1000 := by
      unfold afterL deeds
      rw [List.length_map]
      have := lst_len n (can E cur)
      omega
    refine rn_seq (rne_asg ((ee_pick rfl (ev_call (ea_cons (ev_var rfl) (ea_cons (ev_var rfl) ea_nil)) ⟨n, E, cur, rfl, W, Sc, rfl⟩) (after_ne W Sc) la).mono fun d ds' ⟨hd, e⟩ => ?_))
    subst e
    obtain ⟨k, hk, rfl⟩ := List.mem_map.mp hd
    refine ⟨[7, 5], _, tg_tup2, ?_⟩
    refine rn_set ((ev_op (ev_var rfl) (ev_tup (ea_cons (ev_var rfl) ea_nil) (by simp)) (rd_catT (by rw [len_eIs]; simp; omega))).cast (d' := eT (ws ++ [k])) (by rw [eIs_snoc])) ⟨hl, ws ++ [k], tog n cur k, .dat x, .dat (.int k), by simp; omega, std_tog _ _ _, rfl⟩
  · subst e0
    exact rn_ret (ev_var rfl) ⟨⟨ws, rfl, by omega⟩, rfl⟩
end
end Hk
set_option Elab.async false
set_option linter.all false
set_option maxRecDepth 100000
set_option maxHeartbeats 1000000
set_option autoImplicit false
/-! HkZa: the readings kept, the web that is drawn. -/
namespace Hk
open PySem PySem.Spec PyProof.Rows L2
section
variable {P : Program} {w : World} {K : PySem.W.Frag}
theorem rn_par_new {i j : Nat} {te : TE} {ds : Sl} {N : Sl → Prop} {R : PyData → Sl → Prop} (h : EvE te ds fun d ds' => ∀ p, N ((ds'.set i (.dat d)).set j (.own p []))) : RunE (tPar i j (tCons te (tCons (tLst tNil) tNil))) ds N R := fun F O σ H D w0 hs k r =>
  h F O σ H _ w0 hs fun v d ds2 O2 H2 t rp n => ⟨by show 0 ≤ sizeLine; decide, fun p hp => by
    have t2 := t.new (o := .lst []) hp trivial
    refine ⟨v, .ref p, rfl, k _ _ _ _ t2.ext t2.own ?_ (n p)⟩
    have h1 : Hs F (fun a => O2 a ∨ a = p) (upd H2 p (.lst [])) (σ.set i (some v)) (ds2.set i (.dat d)) := t2.hs.set (by rw [hid_new t.own hp]; exact rp)
    refine h1.setOwn (s1 := .own p []) rfl (fun l s q => ?_) ⟨rfl, .inr rfl, [], upd_same, .nil⟩
    by_cases e : i = l
    · subst e
      have hl : i < ds2.length := by
        have := (List.getElem?_eq_some_iff.mp q).1
        rwa [List.length_set] at this
      rw [List.getElem?_set_self hl] at q
      cases q
      exact fun z => by cases z
    · rw [List.getElem?_set_ne e] at q
      exact t.hs.noaddr t.own hp l s q⟩
theorem ete_and {t u : TT} {ds : Sl} {a : Bool} {Pb : Bool → Sl → Prop} (h : EtS t ds a) (h1 : a = true → EtE u ds Pb) (h0 : a = false → Pb false ds) : EtE (tAnd t u) ds Pb := fun F O σ H Q w0 hs k => h F O σ H _ w0 hs fun c ds1 O1 H1 t1 ⟨e1, e2⟩ => by
  subst e1 e2
  cases c with
  | true => exact iteT (h1 rfl F O1 σ H1 Q t1.own t1.hs fun c ds2 O2 H2 t2 p => k c ds2 O2 H2 (t1.trans t2) p)
  | false => exact iteF (k _ _ O1 H1 t1 (h0 rfl))
/-- arrows that rise -/
def Ups (n : Nat) (A : Arr) : Prop := ∀ p ∈ A, 0 ≤ p.1 ∧ p.1 < p.2 ∧ p.2 < (n : Int)
theorem ups_nil (n : Nat) : Ups n [] := fun q h => by cases h
theorem ups_snoc {n : Nat} {A : Arr} (h : Ups n A) {p : Int × Int} (hp : 0 ≤ p.1 ∧ p.1 < p.2 ∧ p.2 < (n : Int)) : Ups n (A ++ [p]) := fun q hq => by
  rcases List.mem_append.mp hq with h' | h'
  · exact h q h'
  · rw [List.mem_singleton.mp h']
    exact hp
def prOf : List Int → Int × Int
  | [a, b] => (a, b)
  | _ => (0, 0)
theorem setargs {S : ASet} {H : Hp} : ∀ {vs : List V} {A : Arr}, RpAll (hid S H) vs (A.map eP) → ∃ ks : List (Addr × List Int), vs = ks.map (fun p => V.ref p.1) ∧ (∀ p ∈ ks, H p.1 = some (.tup (p.2.map V.int))) ∧ ks.map (·.2) = A.map fun p => [p.1, p.2]
  | _, [], h => by
    cases h
    exact ⟨[], rfl, by simp, rfl⟩
  | _, q :: A, h => by
    have h' : RpAll (hid S H) _ (eP q :: A.map eP) := h
    cases h' with
    | cons r t =>
      obtain ⟨ks, h1, h2, h3⟩ := setargs t
      obtain ⟨u, rfl, hu⟩ := tupI_of (ns := [q.1, q.2]) r
      refine ⟨(u, [q.1, q.2]) :: ks, by rw [h1]; rfl, fun p hp => ?_, by rw [List.map_cons, h3]; rfl⟩
      rcases List.mem_cons.mp hp with e | hp
      · subst e
        exact hu
      · exact h2 p hp
theorem sqT_ex {H H' : Hp} {a : Addr} {xs : List V} (e : Ex H H') (h : SqT K H a xs) : SqT K H' a xs := h.imp (fun r => r.imp (fun q => e _ _ q) fun ⟨o, q⟩ => ⟨o, e _ _ q⟩) id
/-- sorted(set(l)), l a list of arrows -/
theorem ee_psort {te : TE} {ds : Sl} {A : Arr} {n : Nat} (h : EvS te ds (.list (A.map eP))) (hu : Ups n A) (hn : n ≤ 5) (hl : A.length < 64) : EvE (tCB (rSortedT K P w) (tCons (tCB (rSetOfT K P w) (tCons te tNil)) tNil)) ds fun d ds' => (∃ E : Arr, d = .list (E.map eP) ∧ (E.Pairwise fun p q => p.1 < q.1 ∨ (p.1 = q.1 ∧ p.2 < q.2)) ∧ ∀ p ∈ E, p ∈ A) ∧ ds' = ds := fun F O σ H Q w0 hs kk =>
  h F O σ H _ w0 hs fun v d ds1 O1 H1 t1 r1 ⟨e1, e2⟩ => by
    subst e1 e2
    cases r1 with
    | lst h1 h2 =>
      obtain ⟨ks, g1, g2, g3⟩ := setargs h2
      subst g1
      have lk : ks.length = A.length := by
        have := congrArg List.length g3
        rwa [List.length_map, List.length_map] at this
      have two : ∀ p ∈ ks, ∃ q ∈ A, p.2 = [q.1, q.2] := fun p hp => by
        have : p.2 ∈ A.map fun p => [p.1, p.2] := by
          rw [← g3]
          exact List.mem_map.mpr ⟨p, hp, rfl⟩
        obtain ⟨q, hq, e⟩ := List.mem_map.mp this
        exact ⟨q, hq, e.symm⟩
      refine ⟨_, ks, rfl, .of ((hid_sub _ _) _ _ h1), fun p hp => .inl (.inl (g2 p hp)), by omega, fun a L ha hL hL2 => ?_⟩
      have ex1 : Ex H1 (upd H1 a (SetTO P w a L)) := Evl.Ex.new ha
      refine ⟨a, L, 2, 5, rfl, upd_same, fun p hp => .inl (.inl (ex1 _ _ (g2 p (hL p hp)))), by decide, fun p hp => ?_, fun L' p hp hnd h64 hpw hn2 => ?_⟩
      · obtain ⟨q, hq, e⟩ := two p (hL p hp)
        have := hu q hq
        rw [e]
        refine ⟨rfl, fun m hm => ?_⟩
        rcases List.mem_cons.mp hm with e | hm
        · rw [e]
          omega
        · rw [List.mem_singleton.mp hm]
          omega
      · have ex2 : Ex H1 (upd (upd H1 a (SetTO P w a L)) p (.lst (L'.map fun q => V.ref q.1))) := ex1.trans (Evl.Ex.new hn2)
        have w1 := t1.own.ex ex1
        have inA : ∀ q ∈ L', prOf q.2 ∈ A ∧ q.2 = [(prOf q.2).1, (prOf q.2).2] := fun q hq => by
          obtain ⟨z, hz, e⟩ := two q (hL q (hp.mem_iff.mp hq))
          rw [e]
          exact ⟨hz, rfl⟩
        have rp : RpAll (hid (un F O1) (upd H1 a (SetTO P w a L))) (L'.map fun q => V.ref q.1) ((L'.map fun q => prOf q.2).map eP) := by
          have gen : ∀ M : List (Addr × List Int), (∀ q ∈ M, q ∈ L') → RpAll (hid (un F O1) (upd H1 a (SetTO P w a L))) (M.map fun q => V.ref q.1) ((M.map fun q => prOf q.2).map eP) := fun M => by
            induction M with
            | nil => exact fun _ => .nil
            | cons q M ih =>
              intro hM
              refine .cons ?_ (ih fun z hz => hM z (List.mem_cons_of_mem _ hz))
              have hq := hM q List.mem_cons_self
              obtain ⟨z, hz, e⟩ := two q (hL q (hp.mem_iff.mp hq))
              have hT : TupI (upd H1 a (SetTO P w a L)) (.ref q.1) [z.1, z.2] := ⟨q.1, rfl, by rw [← e]; exact ex1 _ _ (g2 q (hL q (hp.mem_iff.mp hq)))⟩
              have e2 : eP (prOf q.2) = eT [z.1, z.2] := by rw [e] <;> rfl
              show Rp _ (V.ref q.1) (eP (prOf q.2))
              rw [e2]
              exact rp_of_tupI w1 hT
          exact gen L' fun q hq => hq
        refine kk _ _ _ O1 _ (t1.more ex2) (rp_newL w1 hn2 rp) ⟨⟨L'.map fun q => prOf q.2, rfl, ?_, fun q hq => ?_⟩, rfl⟩
        · rw [List.pairwise_map]
          have hne : L'.Pairwise fun q r => q.2 ≠ r.2 := List.pairwise_map.mp hnd
          refine (hne.and hpw).imp_of_mem fun {q r} hq hr ⟨h1, h2⟩ => ?_
          obtain ⟨q1, q2⟩ := inA q hq
          obtain ⟨r1, r2⟩ := inA r hr
          have uq := hu _ q1
          have ur := hu _ r1
          rw [q2, r2] at h1 h2
          generalize prOf q.2 = x at *
          generalize prOf r.2 = y at *
          have c1 : TS.code 5 [x.1, x.2] = x.1 * 5 + x.2 := by simp [TS.code]
          have c2 : TS.code 5 [y.1, y.2] = y.1 * 5 + y.2 := by simp [TS.code]
          rw [c1, c2] at h2
          by_cases e : x.1 = y.1
          · refine .inr ⟨e, ?_⟩
            rcases Int.lt_or_le x.2 y.2 with h | h
            · exact h
            · exact absurd (by rw [e, show x.2 = y.2 by omega]) h1
          · exact .inl (by omega)
        · obtain ⟨z, hz, rfl⟩ := List.mem_map.mp hq
          exact (inA z hz).1
theorem rng1_get {n i : Nat} {x : PyData} (h : (rgD 1 n)[i]? = some x) : i < n ∧ x = .int (1 + (i : Int)) := by
  have hi : i < n := by
    have := (List.getElem?_eq_some_iff.mp h).1
    rwa [rgD_len] at this
  unfold rgD at h
  rw [List.getElem?_map, List.getElem?_range hi] at h
  exact ⟨hi, (Option.some.inj h).symm⟩
theorem rgD_get {lo : Int} {n i : Nat} {x : PyData} (h : (rgD lo n)[i]? = some x) : i < n ∧ x = .int (lo + (i : Int)) := by
  have hi : i < n := by
    have := (List.getElem?_eq_some_iff.mp h).1
    rwa [rgD_len] at this
  unfold rgD at h
  rw [List.getElem?_map, List.getElem?_range hi] at h
  exact ⟨hi, (Option.some.inj h).symm⟩
theorem eP_snoc (A : Arr) (p : Int × Int) : A.map eP ++ [eP p] = (A ++ [p]).map eP := by simp
theorem r_law_web (a : Addr) (N : Sl → Prop) : RunE (t_law_web P w K) [.row K a, .dat (.int 5), .non, .non, .non, .non, .non, .non] N fun d ds' => (∃ n E, d = eW n E ∧ WebS n E) ∧ ds'[0]? = some (.row K a) := by
  refine rn_seq (rne_par (eae_cons (P1 := fun x ds1 => ∃ n : Nat, 1 ≤ n ∧ n ≤ 5 ∧ x = .int (n : Int) ∧ ds1 = [.row K a, .dat (.int 5), .non, .non, .non, .non, .non, .non]) (ee_op (ev_int (n := 1)) fun x ds1 e => ?_) fun x ds1 e => ?_))
  · obtain ⟨rfl, rfl⟩ := e
    refine (ee_taken rfl (ev_var rfl) (by decide) (by decide)).mono fun y ds2 ⟨⟨r, hr, r0, r1⟩, e⟩ => ?_
    subst hr e
    exact ⟨_, rd_I0, (1 + r).toNat, by omega, by omega, by rw [Int.toNat_of_nonneg (by omega)], rfl⟩
  obtain ⟨n, n1, n5, rfl, rfl⟩ := e
  refine eae_cons (ee_taken rfl ev_int (by decide) (by decide)) fun x ds1 ⟨⟨way, hr, _, _⟩, e⟩ => ?_
  subst hr e
  refine ea_nil.mono fun xs ds1 e => ?_
  obtain ⟨rfl, rfl⟩ := e
  refine ⟨_, _, rfl, ?_⟩
  refine rn_seq (rn_par_new ((ee_pick rfl (ev_lst (ea_cons ev_int (ea_cons ev_int (ea_cons ev_int ea_nil))) (by simp)) (by simp) (by simp)).mono fun d ds' ⟨hd, e⟩ p => ?_))
  subst e
  obtain ⟨t, rfl, ht⟩ := mem3 hd
  -- the two loops
  refine rn_seq (rn_for (eIs (rng n)) (fun i ds' => ∃ (A : Arr) (s6 s7 : Slot), s6.addr = none ∧ Ups n A ∧ A.length ≤ 5 * i ∧ ds' = [.row K a, .dat (.int 5), .dat (.int (n : Int)), .dat (.int way), .dat (.int t), .own p (A.map eP), s6, s7]) (it_rngN (ea_cons (ev_var rfl) ea_nil) (by omega)) ⟨[], .non, .non, rfl, ups_nil n, Nat.zero_le _, rfl⟩ (fun i x ds' hx ⟨A, s6, s7, h6, hu, hl, e0⟩ => ?_) fun ds' ⟨A, s6, s7, h6, hu, hl, e0⟩ => ?_)
  · subst e0
    obtain ⟨hi, rfl⟩ := rng_get hx
    refine ⟨[6], _, tg_name, ?_⟩
    refine rn_for (rgD ((i : Int) + 1) ((n : Int) - ((i : Int) + 1)).toNat) (fun j ds' => ∃ (A : Arr) (s7 : Slot), Ups n A ∧ A.length ≤ 5 * i + j ∧ ds' = [.row K a, .dat (.int 5), .dat (.int (n : Int)), .dat (.int way), .dat (.int t), .own p (A.map eP), .dat (.int (i : Int)), s7]) (it_rng2 (ea_cons (ev_op (ev_var rfl) ev_int rd_I0) (ea_cons (ev_var rfl) ea_nil)) (by omega) (by omega) (by omega) (by omega)) ⟨A, s7, hu, by omega, rfl⟩ (fun j y ds' hy ⟨A, s7, hu, hl, e0⟩ => ?_) fun ds' ⟨A, s7, hu, hl, e0⟩ => ?_
    · subst e0
      obtain ⟨hj, rfl⟩ := rgD_get hy
      refine ⟨[7], _, tg_name, ?_⟩
      refine rne_if (ete_and (et_T (ev_op (ev_var rfl) ev_int rd_B0)) (fun _ => ete_T ((ee_eq0 rfl (ev_var rfl) (by omega) (by omega)).mono fun d ds' ⟨b, hb, e⟩ => ⟨b, hb, ?_⟩)) fun _ => ?_)
      · subst e
        refine ⟨fun _ => ?_, fun _ => rn_next ⟨A, _, hu, by omega, rfl⟩⟩
        refine rn_app rfl (ev_pair (ev_var rfl) (ev_var rfl)) (by rw [List.length_map]; omega) ⟨A ++ [((i : Int), (i : Int) + 1 + (j : Int))], .dat (.int ((i : Int) + 1 + (j : Int))), ups_snoc hu (by simp only; omega), by simp; omega, ?_⟩
        rw [← eP_snoc]
        rfl
      · exact ⟨fun h => (by cases h), fun _ => rn_next ⟨A, _, hu, by omega, rfl⟩⟩
    · subst e0
      rw [rgD_len] at hl
      exact ⟨A, .dat (.int (i : Int)), s7, rfl, hu, by omega, rfl⟩
  subst e0
  rw [len_eIs, rng_len] at hl
  refine rn_release (i := 5) rfl ?_
  refine rn_seq ?_
  have two : ∀ (A : Arr) (s6 s7 : Slot), s6.addr = none → Ups n A → A.length ≤ 25 → RunE (tSeq (tIfS (tTest (tOp (rEqD K) (tVar 3) (tC (.int 5)))) (tAsg (tLc (iRng2 (tCons (tC (.int 1)) (tCons (tVar 2) tNil))) (gName 6) tYes (tTup (tCons (tCall (S_law_taken K) [] E0 (tCons (tVar 0) (tCons (tVar 6) tNil))) (tCons (tVar 6) tNil))) [6]) (gName 5)) tNext) (tRet (tTup (tCons (tVar 2) (tCons (tCB (rTupleS K) (tCons (tCB (rSortedT K P w) (tCons (tCB (rSetOfT K P w) (tCons (tVar 5) tNil)) tNil)) tNil)) tNil))))) [.row K a, .dat (.int 5), .dat (.int (n : Int)), .dat (.int way), .dat (.int t), .dat (.list (A.map eP)), s6, s7] N fun d ds' => (∃ n E, d = eW n E ∧ WebS n E) ∧ ds'[0]? = some (.row K a) := fun A s6 s7 h6 hu hl => by
    refine rn_seq ?_
    have last : ∀ (A : Arr) (s6 s7 : Slot), Ups n A → A.length ≤ 25 → RunE (tRet (tTup (tCons (tVar 2) (tCons (tCB (rTupleS K) (tCons (tCB (rSortedT K P w) (tCons (tCB (rSetOfT K P w) (tCons (tVar 5) tNil)) tNil)) tNil)) tNil)))) [.row K a, .dat (.int 5), .dat (.int (n : Int)), .dat (.int way), .dat (.int t), .dat (.list (A.map eP)), s6, s7] N fun d ds' => (∃ n E, d = eW n E ∧ WebS n E) ∧ ds'[0]? = some (.row K a) := fun A s6 s7 hu hl => by
      refine rne_ret (ee_tup (eae_cons (ev_var rfl) fun x ds1 e => ?_))
      obtain ⟨rfl, rfl⟩ := e
      refine eae_cons (P1 := fun x ds1 => ∃ E : Arr, x = .tuple (E.map eP) ∧ WebS n E ∧ ds1 = [.row K a, .dat (.int 5), .dat (.int (n : Int)), .dat (.int way), .dat (.int t), .dat (.list (A.map eP)), s6, s7]) (ee_cb (eae_cons (ee_psort (ev_var rfl) hu n5 (by omega)) fun x ds1 ⟨⟨E, hE, h1, h2⟩, e⟩ => ?_)) fun x ds1 e => ?_
      · subst hE e
        refine ea_nil.mono fun ys ds2 e2 => ?_
        obtain ⟨rfl, rfl⟩ := e2
        refine ⟨_, rc_tuple _, E, rfl, ⟨⟨n1, n5, fun q hq => hu q (h2 q hq)⟩, h1, ?_⟩, rfl⟩
        have hnd : E.Nodup := h1.imp fun {p q} h e => by subst e; omega
        exact Nat.le_trans (hnd.length_le_of_subset fun q hq => h2 q hq) hl
      · obtain ⟨E, rfl, W, rfl⟩ := e
        refine ea_nil.mono fun ys ds2 e2 => ?_
        obtain ⟨rfl, rfl⟩ := e2
        exact ⟨by simp, ⟨n, E, rfl, W⟩, rfl⟩
    refine rn_if (et_T (ev_op (ev_var rfl) ev_int (rd_eqI _ _))) (fun _ => ?_) fun _ => rn_next (last A s6 s7 hu hl)
    refine rne_set ((lcN (rgD 1 ((n : Int) - 1).toNat) (fun i acc => ∃ A : Arr, acc = A.map eP ∧ Ups n A ∧ A.length = i) (it_rng2 (ea_cons ev_int (ea_cons (ev_var rfl) ea_nil)) (by decide) (by decide) (by omega) (by omega)) (by rw [rgD_len]; omega) (no_at rfl h6) ⟨[], rfl, ups_nil n, rfl⟩ fun i x acc hx ⟨A, hacc, hu, hl⟩ => ?_).mono fun d ds' ⟨⟨acc, e, A2, hacc, hu, hl⟩, e1⟩ => ?_)
    · obtain ⟨hi, rfl⟩ := rgD_get hx
      subst hacc
      refine EtE.of et_yes ⟨rfl, ?_⟩
      rw [if_pos rfl]
      refine ee_tup (eae_cons (ee_taken rfl (ev_var rfl) (by omega) (by omega)) fun x ds1 ⟨⟨r, hr, r0, r1⟩, e⟩ => ?_)
      subst hr e
      refine eae_cons (ev_var rfl) fun y ds2 e => ?_
      obtain ⟨rfl, rfl⟩ := e
      refine ea_nil.mono fun zs ds3 e3 => ?_
      obtain ⟨rfl, rfl⟩ := e3
      exact ⟨by simp, rfl, A ++ [(r, 1 + (i : Int))], eP_snoc A (r, 1 + (i : Int)), ups_snoc hu (by simp only; omega), by simp [hl]⟩
    · subst e hacc e1
      exact last A2 s6 s7 hu (by rw [hl, rgD_len]; omega)
  refine rn_if (et_T (ev_op (ev_var rfl) ev_int (rd_eqI _ _))) (fun _ => ?_) fun _ => rn_next (two A s6 s7 h6 hu (by omega))
  · refine rn_set (lc1 (rng (n - 1)) .int (fun _ => true) (fun k => eP (k, k + 1)) ?_ (by rw [rng_len]; omega) (no_at rfl ?_) (fun k _ => et_yes) fun k _ _ => ev_pair (ev_var rfl) (ev_op (ev_var rfl) ev_int rd_I0)) ?_
    · have e : (n : Int) - 1 = ((n - 1 : Nat) : Int) := by omega
      exact it_rngN (ea_cons ((ev_op (ev_var rfl) ev_int rd_I0).cast (congrArg PyData.int e)) ea_nil) (by omega)
    · exact h6
    · rw [filt_all]
      have h := two ((rng (n - 1)).map fun k => (k, k + 1)) s6 s7 h6 (fun q hq => ?_) (by rw [List.length_map, rng_len]; omega)
      · rw [List.map_map] at h
        exact h
      · obtain ⟨k, hk, rfl⟩ := List.mem_map.mp hq
        have := mem_rng.mp hk
        simp only
        omega
end
end Hk
set_option Elab.async false
set_option linter.all false
set_option maxRecDepth 100000
set_option maxHeartbeats 1000000
set_option autoImplicit false
/-! HkZb: the readings kept, the law's costs. -/
namespace Hk
open PySem PySem.Spec PyProof.Rows L2
section
variable {P : Program} {w : World} {K : PySem.W.Frag}
theorem lookP_eTab (k : List Int) : ∀ t : Tab, lookP (eTab t) k = (look t k).map PyData.int
  | [] => rfl
  | p :: t => by
    have ih := lookP_eTab k t
    unfold lookP look at ih ⊢
    rw [eTab, List.map_cons]
    by_cases e : p.1 = k
    · rw [List.find?_cons_of_pos (by simpa using e), List.find?_cons_of_pos (by simpa using e)]
      rfl
    · rw [List.find?_cons_of_neg (by simpa using e), List.find?_cons_of_neg (by simpa using e)]
      exact ih
theorem any_eTab (k : List Int) (t : Tab) : ((eTab t).any fun p => decide (p.1 = k)) = t.any fun p => decide (p.1 = k) := by
  rw [eTab, List.any_map]
  rfl
theorem putP_eTab (t : Tab) (k : List Int) (c : Int) : putP (eTab t) k (.int c) = eTab (put t k c) := by
  unfold putP put
  rw [any_eTab]
  by_cases e : (t.any fun p => decide (p.1 = k)) = true
  · rw [if_pos e, if_pos e, eTab, eTab, List.map_map, List.map_map]
    refine List.map_congr_left fun p _ => ?_
    show (if p.1 = k then (p.1, PyData.int c) else (p.1, PyData.int p.2)) = ((if p.1 = k then (p.1, c) else p).1, PyData.int (if p.1 = k then (p.1, c) else p).2)
    by_cases q : p.1 = k
    · rw [if_pos q, if_pos q]
    · rw [if_neg q, if_neg q]
  · rw [if_neg e, if_neg e, eTab, eTab, List.map_append]
    rfl
abbrev eMore (m : List (List Int)) : PTab := m.map fun k => (k, .bool true)
theorem putP_eMore (m : List (List Int)) (k : List Int) : putP (eMore m) k (.bool true) = eMore (addK m k) := by
  unfold putP addK
  have e : ((eMore m).any fun p => decide (p.1 = k)) = decide (k ∈ m) := by
    rw [Bool.eq_iff_iff, List.any_eq_true, decide_eq_true_eq]
    constructor
    · rintro ⟨p, hp, hk⟩
      obtain ⟨j, hj, rfl⟩ := List.mem_map.mp hp
      have : j = k := of_decide_eq_true hk
      rwa [← this]
    · intro h
      exact ⟨(k, .bool true), List.mem_map.mpr ⟨k, h, rfl⟩, by simp⟩
  rw [e]
  by_cases h : k ∈ m
  · rw [if_pos (by simpa using h), if_pos h, eMore, List.map_map]
    refine List.map_congr_left fun j _ => ?_
    show (if j = k then (j, PyData.bool true) else (j, .bool true)) = _
    split <;> rfl
  · rw [if_neg (by simpa using h), if_neg h, eMore, eMore, List.map_append]
    rfl
theorem more_keys (m : List (List Int)) : (eMore m).map (·.1) = m := by
  rw [eMore, List.map_map]
  exact List.map_id _
theorem plain_T : ∀ m : List (List Int), plainAll (m.map eT) = true ∧ PyData.canLayAll0 (m.map eT) = true ∧ PyData.depthAll (m.map eT) ≤ 2
  | [] => ⟨rfl, rfl, by simp [PyData.depthAll]⟩
  | s :: m => by
    obtain ⟨a, b, c⟩ := plain_T m
    refine ⟨?_, ?_, ?_⟩
    · show (plainAll (eIs s) && plainAll (m.map eT)) = true
      rw [plain_ints, a]
      rfl
    · show (PyData.canLayAll0 (eIs s) && PyData.canLayAll0 (m.map eT)) = true
      rw [lay_ints, b]
      rfl
    · show max (PyData.depth (eT s)) (PyData.depthAll (m.map eT)) ≤ 2
      have h := dep_ints s
      have h2 : PyData.depth (eT s) = PyData.depthAll (eIs s) + 1 := dep_tuple _
      omega
theorem shaped_TL (m : List (List Int)) : SeqAt.shaped (.list (m.map eT)) = true := by
  obtain ⟨_, b, c⟩ := plain_T m
  exact shaped_of b (by rw [dep_list]; omega)
def tsort (m : List (List Int)) : List (List Int) := m.mergeSort fun a b => !HT.lexLt b a
theorem tsort_perm (m : List (List Int)) : (tsort m).Perm m := List.mergeSort_perm _ _
theorem tsort_srt (m : List (List Int)) : (tsort m).Pairwise fun x y => HT.lexLt y x = false := by
  have h := List.pairwise_mergeSort (le := fun a b : List Int => !HT.lexLt b a) (fun a b c h1 h2 => ?_) (fun a b => ?_) m
  · exact h.imp fun {a b} q => by simpa using q
  · simp only [Bool.not_eq_true'] at h1 h2 ⊢
    exact (lx_swo (fun x : List Int => x)).tr a b c h1 h2
  · rcases SrtO.bcase (HT.lexLt b a) with q | q
    · rw [q, lx_asym _ _ q]
      rfl
    · rw [q]
      rfl
theorem upd_upd (H : Hp) (a : Addr) (o o' : HO) : upd (upd H a o) a o' = upd H a o' := by
  funext b
  by_cases e : b = a
  · subst e
    rw [upd_same, upd_same]
  · rw [upd_ne e, upd_ne e, upd_ne e]
theorem addK_len (m : List (List Int)) (k : List Int) : (addK m k).length ≤ m.length + 1 := by
  unfold addK
  split
  · omega
  · simp
/-- found, fresh = {one: 0}, [one] -/
theorem rn_costs0 {ds : Sl} {one : List Int} {N : Sl → Prop} {R : PyData → Sl → Prop} (q1 : ds[1]? = some (.dat (eT one))) (kn : ∀ p, N ((ds.set 3 (.tab p [(one, .int 0)])).set 4 (.dat (.list [eT one])))) : RunE (tPar 3 4 (tCons (tDispT1 (tVar 1) (tC (.int 0))) (tCons (tLst (tCons (tVar 1) tNil)) tNil))) ds N R := fun F O σ H D w0 hs kk r => by
  obtain ⟨v, hv, rv⟩ := hs.dat q1
  obtain ⟨b, rfl, hb⟩ := tupI_of rv
  intro p hp
  have ex0 : Ex H (upd H p (.dT [])) := Evl.Ex.new hp
  refine ⟨_, hv, upd_same, b, one.map Sum.inl, .int 0, rfl, by rw [kV_ints]; exact ex0 _ _ hb, ?_⟩
  rw [upd_upd]
  refine ⟨_, hv, ⟨by show 1 ≤ sizeLine; decide, fun l hl => ⟨.ref p, .ref l, rfl, ?_⟩⟩⟩
  have t1 := (To.refl w0 hs).new (o := .dT [(one.map Sum.inl, .int 0)]) hp trivial
  have hnew := hid_new (o := .dT [(one.map Sum.inl, V.int 0)]) w0 hp
  have rv' : Rp (hid (un F fun a => O a ∨ a = p) (upd H p (.dT [(one.map Sum.inl, V.int 0)]))) (.ref b) (eT one) := by
    rw [hnew]
    exact rv
  have h1 : Hs F (fun a => O a ∨ a = p) (upd H p (.dT [(one.map Sum.inl, V.int 0)])) (σ.set 3 (some (.ref p))) (ds.set 3 (.tab p [(one, .int 0)])) :=
    t1.hs.setOwn (s1 := .tab p [(one, .int 0)]) rfl (hs.noaddr w0 hp) ⟨rfl, .inr rfl, _, upd_same, .cons (.int 0) .nil⟩
  have ex2 : Ex (upd H p (.dT [(one.map Sum.inl, V.int 0)])) (upd (upd H p (.dT [(one.map Sum.inl, V.int 0)])) l (.lst [.ref b])) := Evl.Ex.new hl
  have h2 := (h1.ex t1.own ex2).set (i := 4) (rp_newL (ds := [eT one]) t1.own hl (.cons rv' .nil))
  exact kk _ _ _ _ (t1.ext.trans (Ext.of_ex ex2)) (t1.own.ex ex2) h2 (kn p)
/-- what holds while a round goes -/
structure Go (n : Nat) (E : Arr) (p : Prc) (one : List Int) (t : Tab) (s : Tab × List (List Int)) (m : Nat) : Prop where
  good : Good n E p one s.1
  less : Less t s.1
  few : s.2.length ≤ m
theorem go_try {n : Nat} {E : Arr} {p : Prc} {one : List Int} {t : Tab} {s : Tab × List (List Int)} {m : Nat} (HP : Prices n p) (g : Go n E p one t s m) {here : List Int} {ch : Int} (hh : look s.1 here = some ch) {k : Int} (hk : k ∈ deeds n E here) : Go n E p one t (try1 n p here s k) (m + 1) ∧ look (try1 n p here s k).1 here = some ch := by
  obtain ⟨hk1, hk2⟩ := mem_deeds.mp hk
  obtain ⟨a, b, c, _⟩ := relax_ok (m := s.2) HP g.good hh hk1 hk2
  unfold try1
  rw [hh]
  refine ⟨⟨a, g.less.trans b, ?_⟩, c⟩
  have hf := g.few
  have := addK_len s.2 (tog n here k)
  unfold relax
  split
  · show (addK s.2 _).length ≤ m + 1
    omega
  · show s.2.length ≤ m + 1
    omega
theorem costs_core (n : Nat) (E : Arr) (one : List Int) (p : Prc) (W : WebS n E) (S1 : Std n one) (HP : Prices n p) (R : PyData → Sl → Prop) :
    RunE (tSeq (tPar 3 4 (tCons (tDispT1 (tVar 1) (tC (.int 0))) (tCons (tLst (tCons (tVar 1) tNil)) tNil)))
  (tWhile (tTest (tOp (rNeD K) (tVar 4) (tLst tNil))) (tSeq (tAsg tDNewT (gName 5))
  (tSeq (tFor (iList K (tVar 4)) (gName 6) (tFor (iList K (tCall S_law_after [] E0 (tCons (tVar 0) (tCons (tVar 6) tNil)))) (gTup K 2 (gCons (gName 7) (gCons (gName 8) gNil))) (tSeq (tAsg (tOp (rI0 fun i j => .int (i + j)) (tDGet (tVar 3) (tVar 6)) (tOp (rIx K) (tOp (rIx K) (tVar 2) (tVar 7)) (tIf (tTest (tOp (rIn K false) (tVar 7) (tVar 6))) (tC (.int 1)) (tC (.int 0))))) (gName 9))
  (tIfS (tOr (tB (tDNotIn (tVar 8) (tVar 3))) (tTest (tOp (rI0 fun i j => .bl (decide (i < j))) (tVar 9) (tDGet (tVar 3) (tVar 8))))) (tSeq (sDPut (tVar 3) (tVar 8) (tVar 9))
  (sDPut (tVar 5) (tVar 8) (tC (.bl true)))) tNext))))
  (tAsg (tCB rSortedKV (tCons (tKeysV (tVar 5)) tNil)) (gName 4)))))) [.dat (eW n E), .dat (eT one), .dat (ePr p), .non, .non, .non, .non, .non, .non, .non] (fun ds => ∃ q t, ds[3]? = some (.tab q (eTab t)) ∧ Loop n E p one t []) R := by
  have h5 := W.web.few
  have p32 : 2 ^ n ≤ 32 := Nat.le_trans (Nat.pow_le_pow_right (by decide) h5) (by decide)
  refine rn_seq (rn_costs0 rfl fun q => ?_)
  refine rn_while (fun m ds' => ∃ (t : Tab) (fresh : List (List Int)) (s5 s6 s7 s8 s9 : Slot), Loop n E p one t fresh ∧ m = mu n t fresh ∧ ds' = [.dat (eW n E), .dat (eT one), .dat (ePr p), .tab q (eTab t), .dat (.list (fresh.map eT)), s5, s6, s7, s8, s9]) (mu n [(one, 0)] [one]) ⟨[(one, 0)], [one], .non, .non, .non, .non, .non, Loop.start S1, rfl, rfl⟩ fun m ds' ⟨t, fresh, s5, s6, s7, s8, s9, lp, hm, e0⟩ => ?_
  subst e0
  refine ⟨_, et_T (ev_op (ev_var rfl) (ev_lst ea_nil (by simp)) (rd_neNil _ (plain_T fresh).1 (shaped_TL fresh))), fun h => ?_, fun h => ?_⟩
  rotate_left
  · have hf : fresh = [] := by
      have : fresh.map eT = [] := by simpa using h
      exact List.map_eq_nil_iff.mp this
    subst hf
    exact ⟨q, t, rfl, lp⟩
  · have hne : fresh ≠ [] := fun e => by
      subst e
      cases h
    have lf : fresh.length ≤ 32 := by
      have h1 := lp.nodup.length_le_of_subset (l₂ := pset n) fun v hv => by
        obtain ⟨c, hc⟩ := lp.there v hv
        exact mem_pset.mpr (lp.wait.good.word v c hc).1
      rw [pset_len] at h1
      omega
    refine rn_seq (rn_newTab fun q5 => ?_)
    refine rn_seq (rn_for (fresh.map eT) (fun i ds' => ∃ (s6 s7 s8 s9 : Slot), Go n E p one t ((fresh.take i).foldl (round1 n E p) (t, [])) (5 * i) ∧ ds' = [.dat (eW n E), .dat (eT one), .dat (ePr p), .tab q (eTab ((fresh.take i).foldl (round1 n E p) (t, [])).1), .dat (.list (fresh.map eT)), .tab q5 (eMore ((fresh.take i).foldl (round1 n E p) (t, [])).2), s6, s7, s8, s9]) (it_list (ev_var rfl)) ⟨s6, s7, s8, s9, ⟨lp.wait.good, Less.refl t, Nat.zero_le _⟩, rfl⟩ (fun i x ds' hx ⟨s6, s7, s8, s9, go, e0⟩ => ?_) fun ds' ⟨s6, s7, s8, s9, go, e0⟩ => ?_)
    · subst e0
      rw [List.getElem?_map] at hx
      cases hv : fresh[i]? with
      | none =>
        rw [hv] at hx
        cases hx
      | some here =>
        rw [hv] at hx
        cases hx
        have hi : i < fresh.length := (List.getElem?_eq_some_iff.mp hv).1
        have step : (fresh.take (i + 1)).foldl (round1 n E p) (t, []) = round1 n E p ((fresh.take i).foldl (round1 n E p) (t, [])) here := by
          rw [List.take_add_one, hv, List.foldl_append]
          rfl
        rw [step]
        clear step
        obtain ⟨s0, hs0⟩ : ∃ s0, s0 = (fresh.take i).foldl (round1 n E p) (t, []) := ⟨_, rfl⟩
        rw [← hs0] at go ⊢
        obtain ⟨c0, hc0⟩ := lp.there here (List.mem_of_getElem? hv)
        have Sh := (lp.wait.good.word here c0 hc0).1
        obtain ⟨ch, hch, _⟩ := go.less.le here c0 hc0
        refine ⟨[6], _, tg_name, ?_⟩
        refine rn_for (afterL n E here) (fun j ds' => ∃ (s7 s8 s9 : Slot), Go n E p one t (((deeds n E here).take j).foldl (try1 n p here) s0) (5 * i + j) ∧ look (((deeds n E here).take j).foldl (try1 n p here) s0).1 here = some ch ∧ ds' = [.dat (eW n E), .dat (eT one), .dat (ePr p), .tab q (eTab (((deeds n E here).take j).foldl (try1 n p here) s0).1), .dat (.list (fresh.map eT)), .tab q5 (eMore (((deeds n E here).take j).foldl (try1 n p here) s0).2), .dat (eT here), s7, s8, s9]) (it_list (ev_call (ea_cons (ev_var rfl) (ea_cons (ev_var rfl) ea_nil)) ⟨n, E, here, rfl, W, Sh, rfl⟩)) ⟨s7, s8, s9, go, hch, rfl⟩ (fun j y ds' hy ⟨s7, s8, s9, go, hch, e0⟩ => ?_) fun ds' ⟨s7, s8, s9, go, hch, e0⟩ => ?_
        · subst e0
          unfold afterL at hy
          rw [List.getElem?_map] at hy
          cases hk : (deeds n E here)[j]? with
          | none =>
            rw [hk] at hy
            cases hy
          | some k =>
            rw [hk] at hy
            cases hy
            have hkd : k ∈ deeds n E here := List.mem_of_getElem? hk
            have hkr := (mem_deeds.mp hkd).1
            have hj : j < (deeds n E here).length := (List.getElem?_eq_some_iff.mp hk).1
            have hjn : j < 5 := Nat.lt_of_lt_of_le hj (Nat.le_trans (lst_len _ _) h5)
            have step : ((deeds n E here).take (j + 1)).foldl (try1 n p here) s0 = try1 n p here (((deeds n E here).take j).foldl (try1 n p here) s0) k := by
              rw [List.take_add_one, hk, List.foldl_append]
              rfl
            obtain ⟨go2, hch2⟩ := go_try HP go hch hkd
            rw [step]
            clear step
            obtain ⟨s, hs⟩ : ∃ s, s = ((deeds n E here).take j).foldl (try1 n p here) s0 := ⟨_, rfl⟩
            rw [← hs] at go hch go2 hch2 ⊢
            have lt1 := go.good.len
            have lt2 := go.few
            refine ⟨[7, 8], _, tg_tup2, ?_⟩
            have hcost : EvS (tOp (rI0 fun i j => .int (i + j)) (tDGet (tVar 3) (tVar 6)) (tOp (rIx K) (tOp (rIx K) (tVar 2) (tVar 7)) (tIf (tTest (tOp (rIn K false) (tVar 7) (tVar 6))) (tC (.int 1)) (tC (.int 0))))) [.dat (eW n E), .dat (eT one), .dat (ePr p), .tab q (eTab s.1), .dat (.list (fresh.map eT)), .tab q5 (eMore s.2), .dat (eT here), .dat (.int k), .dat (eT (tog n here k)), s9] (.int (ch + pOf p here k)) := by
              refine ev_op (ev_tget rfl (.inl rfl) (ev_var rfl) (d := .int ch) (by rw [lookP_eTab, hch]; rfl)) (EvE.cast (ev_op (ev_op (ev_var rfl) (ev_var rfl) (rd_ixT (price_at HP hkr))) (ev_ite (b := decide (k ∈ here)) (x := .int (if decide (k ∈ here) then 1 else 0)) (et_T (ev_op (ev_var rfl) (ev_var rfl) (rd_inT _ _))) (fun h => by rw [h]; exact ev_int) fun h => by rw [h]; exact ev_int) (rd_ixT (pick_at _ _ _))) ?_) rd_I0
              unfold pOf pQ pL
              by_cases q2 : k ∈ here
              · simp [q2]
              · simp [q2]
            refine rn_seq (rn_set hcost ?_)
            have htry : try1 n p here s k = relax s.1 s.2 (tog n here k) (ch + pOf p here k) := by
              unfold try1
              rw [hch]
              rfl
            rw [htry] at go2 hch2 ⊢
            generalize ch + pOf p here k = cost at go2 hch2 ⊢
            generalize tog n here k = there at go2 hch2 ⊢
            refine rn_if (b := better s.1 there cost) ?_ (fun h => ?_) fun h => ?_
            · cases hl : look s.1 there with
              | none =>
                have hb : better s.1 there cost = true := by unfold better; rw [hl]
                rw [hb]
                exact et_or (a := true) (b := true) ((et_B (ev_tnin rfl (.inl rfl) (ev_var rfl))).cast (by rw [lookP_eTab, hl]; rfl)) fun h => by cases h
              | some d =>
                have hb : better s.1 there cost = decide (cost < d) := by unfold better; rw [hl]
                rw [hb]
                exact (et_or (a := false) ((et_B (ev_tnin rfl (.inl rfl) (ev_var rfl))).cast (by rw [lookP_eTab, hl]; rfl)) fun _ => et_T (ev_op (ev_var rfl) (ev_tget rfl (.inl rfl) (ev_var rfl) (d := .int d) (by rw [lookP_eTab, hl]; rfl)) rd_B0)).cast (Bool.false_or _)
            · have hr : relax s.1 s.2 there cost = (put s.1 there cost, addK s.2 there) := if_pos h
              rw [hr] at go2 hch2 ⊢
              refine rn_seq (rn_tput rfl (ev_var rfl) (ev_var rfl) (by rw [List.length_map]; omega) ?_)
              refine rn_tput rfl ev_bl (ev_var rfl) (by rw [List.length_map]; omega) ⟨.dat (.int k), .dat (eT there), .dat (.int cost), go2, hch2, ?_⟩
              rw [putP_eTab, putP_eMore]
              rfl
            · have hr : relax s.1 s.2 there cost = (s.1, s.2) := if_neg (by rw [h]; exact Bool.false_ne_true)
              rw [hr] at go2 hch2 ⊢
              exact rn_next ⟨.dat (.int k), .dat (eT there), .dat (.int cost), go2, hch2, rfl⟩
        · subst e0
          have hl : (afterL n E here).length = (deeds n E here).length := List.length_map _
          have ld : (deeds n E here).length ≤ 5 := Nat.le_trans (lst_len _ _) h5
          rw [hl, List.take_length] at go ⊢
          exact ⟨.dat (eT here), s7, s8, s9, ⟨go.good, go.less, Nat.le_trans go.few (by omega)⟩, rfl⟩
    · subst e0
      rw [List.length_map, List.take_length] at go ⊢
      have hp : (tsort (rnd n E p t fresh).2).Perm (rnd n E p t fresh).2 := tsort_perm _
      refine rn_set (ev_tkeys rfl (.inl rfl) (by rw [more_keys]; exact tsort_perm _) (tsort_srt _)) ⟨mu n (rnd n E p t fresh).1 (tsort (rnd n E p t fresh).2), ?_, (rnd n E p t fresh).1, tsort (rnd n E p t fresh).2, _, _, _, _, _, (lp.round HP hp).1, rfl, rfl⟩
      rw [hm]
      exact lp.mu_lt HP hne hp
theorem sp_costs {vs : List V} {H : Hp} {Q : VK} {E0 : XK} (h : S_law_costs vs H Q E0) : t_law_costs P w K { nx := fun _ H' => Q .non H', rt := Q } (start ["_law_web_here", "_law_burning_here", "_law_prices_here", "_law_found", "_law_fresh", "_law_more", "_law_here", "_law_lamp", "_law_there", "_law_cost"] vs) H := by
  obtain ⟨S, n, E, one, p, w0, r, W, S1, HP, q⟩ := h
  have e : un S no = S := by
    funext a
    exact propext ⟨fun z => z.elim id False.elim, .inl⟩
  have h0 := start_hs (N := ["_law_web_here", "_law_burning_here", "_law_prices_here", "_law_found", "_law_fresh", "_law_more", "_law_here", "_law_lamp", "_law_there", "_law_cost"]) r
  refine costs_core (K := K) n E one p W S1 HP (fun _ _ => False) S no _ H { nx := fun σ' H' => tRet (tVar 3) { nx := fun _ H' => Q .non H', rt := Q } σ' H', rt := Q } (by rw [e]; exact w0) h0 (fun O2 σ2 H2 ds2 ex own hs ⟨a, t, q3, lp⟩ => ?_) fun v d O2 σ2 H2 ds2 ex own hs rp z => z.elim
  obtain ⟨h1, h2, es, h3, h4⟩ := hs.tab q3
  refine ⟨_, h1, ?_⟩
  refine q a t es H2 ex.ex ?_ h3 (RpTab.ex (hid_le fun b z => z.imp id fun (z : b = a) => by rw [z]; exact h2) h4) lp
  exact (ex.fr a h2).elim False.elim id
end
end Hk
set_option Elab.async false
set_option linter.all false
set_option maxRecDepth 100000
set_option maxHeartbeats 1000000
set_option autoImplicit false
/-! HkZc: the readings kept, the law. -/
namespace Hk
open PySem PySem.Spec PyProof.Rows L2
section
variable {P : Program} {w : World} {K : PySem.W.Frag}
theorem Hs.newAt {F O : ASet} {H H2 : Hp} {σ : L2.St} {ds : Sl} (w0 : Own (un F O) H) (h : Hs F O H σ ds) (ex : Ex H H2) {p : Addr} (hp : H p = none) : Hs F (fun a => O a ∨ a = p) H2 σ ds := by
  have nS := w0.fresh hp
  have e : Ex (hid (un F O) H) (hid (un F fun a => O a ∨ a = p) H2) := fun b o hb => by
    obtain ⟨n, hb⟩ := hid_some hb
    have ne : b ≠ p := fun z => by
      rw [z, hp] at hb
      cases hb
    rw [hid_in fun z => z.elim (fun z => n (.inl z)) fun z => z.elim (fun z => n (.inr z)) ne]
    exact ex b o hb
  refine ⟨fun a fa z => z.elim (h.dj a fa) fun e => nS (by rw [← e]; exact .inl fa), h.len, fun j s q => ?_, h.sep⟩
  obtain ⟨ov, h1, h2⟩ := h.at_ j s q
  refine ⟨ov, h1, ?_⟩
  cases s with
  | non => trivial
  | dat d =>
    obtain ⟨v, z1, z2⟩ := h2
    exact ⟨v, z1, Rp.ex e d z2⟩
  | own b xs =>
    obtain ⟨z1, z2, vs, z3, z4⟩ := h2
    exact ⟨z1, .inl z2, vs, ex _ _ z3, RpAll.ex e _ z4⟩
  | tab b xs =>
    obtain ⟨z1, z2, vs, z3, z4⟩ := h2
    exact ⟨z1, .inl z2, vs, ex _ _ z3, RpTab.ex e z4⟩
  | ftab b od es xs =>
    obtain ⟨z1, z3, z4⟩ := h2
    exact ⟨z1, e _ _ z3, RpTab.ex e z4⟩
  | row K b =>
    obtain ⟨z1, z2, z3⟩ := h2
    obtain ⟨sc, i, x, c, ns, g1, g2⟩ := id z3
    exact ⟨z1, .inl z2, z3.ex e (by rw [g1, ex _ _ g1])⟩
theorem rn_costs {E : XK} {ta : TA} {i : Nat} {ds : Sl} {n : Nat} {A : Arr} {one : List Int} {p : Prc} {N : Sl → Prop} {R : PyData → Sl → Prop} (h : EaS ta ds [eW n A, eT one, ePr p]) (W : WebS n A) (S1 : Std n one) (HP : Prices n p) (kn : ∀ q t, Loop n A p one t [] → N (ds.set i (.tab q (eTab t)))) : RunE (tAsg (tCall S_law_costs [] E ta) (gName i)) ds N R := fun F O σ H D w0 hs k r =>
  h F O σ H _ w0 hs fun vs xs ds1 O1 H1 t1 r1 ⟨e1, e2⟩ => by
    subst e1 e2
    show S_law_costs (vs ++ []) H1 _ E
    rw [List.append_nil]
    refine ⟨un F O1, n, A, one, p, t1.own, r1, W, S1, HP, fun q t es H2 ex hq hes hrt lp => ?_⟩
    have eS : un (un F O1) (· = q) = un F fun a => O1 a ∨ a = q := by
      funext b
      exact propext ⟨fun z => z.elim (fun z => z.imp id .inl) fun z => .inr (.inr z), fun z => z.elim (fun z => .inl (.inl z)) fun z => z.elim (fun z => .inl (.inr z)) .inr⟩
    rw [eS] at hrt
    have h2 := t1.hs.newAt t1.own ex hq
    refine k (fun a => O1 a ∨ a = q) _ H2 _ (t1.ext.trans ⟨fun b o _ hb => ex b o hb, fun b z => z.imp id fun (z : b = q) => by rw [z]; exact hq⟩) (fun b z => ?_) (h2.setOwn (s1 := .tab q (eTab t)) rfl (t1.hs.noaddr t1.own hq) ⟨rfl, .inr rfl, es, hes, hrt⟩) (kn q t lp)
    by_cases e : b = q
    · subst e
      exact ⟨_, hes, trivial⟩
    · obtain ⟨o, z1, z2⟩ := t1.own b (z.imp id fun z => z.resolve_right e)
      exact ⟨o, ex _ _ z1, z2⟩
theorem ev_newK {ds : Sl} : EvS tDNewK ds (.dict []) := fun F O σ H Q w0 hs k p hp => by
  refine k _ _ ds O _ ((To.refl w0 hs).more (Evl.Ex.new hp)) (.dct (es := []) ?_ .nil) ⟨rfl, rfl⟩
  rw [hid_in (w0.fresh hp), upd_same]
theorem rd_twice (xs : List PyData) (h : xs.length ≤ 1000) : RD (rTwice K) (.tuple xs) (.int 2) (.tuple (xs ++ xs)) := fun S H a b Q w0 ra rb k => by
  cases rb
  cases ra with
  | tup h1 h2 =>
    refine ⟨_, _, rfl, rfl, .inl (.inl ((hid_sub S H) _ _ h1)), by rw [h2.length]; exact h, fun e => ?_, fun _ p hp => k _ _ (Evl.Ex.new hp) (rp_newT w0 hp (h2.append h2))⟩
    subst e
    cases h2
    exact k _ _ (Evl.Ex.refl H) (.tup h1 .nil)
theorem ev_rev {te : TE} {ds : Sl} {xs : List PyData} (h : EvS te ds (.tuple xs)) : EvS (tRevT K te) ds (.tuple xs.reverse) := fun F O σ H Q w0 hs k =>
  h F O σ H _ w0 hs fun v d ds1 O1 H1 t1 r1 ⟨e1, e2⟩ => by
    subst e1 e2
    cases r1 with
    | tup h1 h2 => exact ⟨_, _, rfl, .inl (.inl ((hid_sub _ _) _ _ h1)), fun p hp => k _ _ _ O1 _ (t1.more (Evl.Ex.new hp)) (rp_newT t1.own hp h2.reverse) ⟨rfl, rfl⟩⟩
theorem rd_isB (a b : Bool) : RD rIsB (.bool a) (.bool b) (.bool (decide (a = b))) := rd_of (fun _ => .bl _) fun S H x y Q w0 ra rb q => by
  cases ra
  cases rb
  exact ⟨a, b, rfl, rfl, q⟩
/-! what the values are -/
theorem odd_tup {xs : List PyData} (h : xs.all flatD = true) (hl : xs.length ≤ 100) : Odd (.tuple xs) := .inr ⟨xs, rfl, h, hl⟩
theorem flat_eIs (ws : List Int) : (eIs ws).all flatD = true := by
  rw [List.all_map]
  exact List.all_eq_true.mpr fun _ _ => rfl
theorem flat_app {xs ys : List PyData} (h : xs.all flatD = true) (h2 : ys.all flatD = true) : (xs ++ ys).all flatD = true := by
  rw [List.all_append, h, h2]
  rfl
theorem flat_cut {xs : List PyData} (h : xs.all flatD = true) (lo hi : Option Int) : (cutD xs lo hi).all flatD = true ∧ (cutD xs lo hi).length ≤ xs.length := by
  refine ⟨List.all_eq_true.mpr fun x hx => List.all_eq_true.mp h x (List.drop_subset _ _ (List.take_subset _ _ hx)), ?_⟩
  unfold cutD
  rw [List.length_take, List.length_drop]
  omega
theorem flat_rev {xs : List PyData} (h : xs.all flatD = true) : xs.reverse.all flatD = true := by
  rw [List.all_reverse]
  exact h
theorem intsOf_eIs : ∀ ws : List Int, intsOf (eIs ws) = some ws
  | [] => rfl
  | k :: ws => by
    show intsOf (.int k :: eIs ws) = _
    rw [intsOf_int, intsOf_eIs ws]
    rfl
theorem lampsOf_eT {n : Nat} {ws : List Int} (h : ∀ k ∈ ws, 0 ≤ k ∧ k < (n : Int)) : lampsOf n (eT ws) = some ws := by
  show lampsOf n (.tuple (eIs ws)) = _
  rw [lampsOf_tup, intsOf_eIs]
  have : rgAll n ws = true := List.all_eq_true.mpr fun k hk => by
    have := h k hk
    simp [this]
  show (if rgAll n ws = true then some ws else none) = some ws
  rw [if_pos this]
theorem word_inr {n : Nat} {E : Arr} {one other : List Int} : ∀ k ∈ wordOf n E one other, 0 ≤ k ∧ k < (n : Int) := fun k hk => by
  unfold wordOf at hk
  rcases List.mem_append.mp hk with h | h
  · exact (mem_lst.mp h).1
  · exact (mem_lst.mp h).1
theorem word_cheap {n : Nat} {E : Arr} {p : Prc} {one other : List Int} (W : WebS n E) (S1 : Std n one) (S2 : Std n other) : cheapB n E p one other (eT (wordOf n E one other)) = true := by
  obtain ⟨h1, h2⟩ := word_run (P := p) W.web S1 S2
  unfold cheapB
  rw [lampsOf_eT word_inr]
  simp only [h1, h2]
  simp
theorem ok_ints (m : Nat) (s : List Int) (h : s.length ≤ 1000) : okD (m + 1) (eT s) := ⟨by rw [len_eIs]; exact h, fun x hx => by
  obtain ⟨k, _, rfl⟩ := List.mem_map.mp hx
  cases m <;> exact trivial⟩
theorem ok_paper {n : Nat} {E : Arr} {p : Prc} {one : List Int} (hn : n ≤ 5) : okD 4 (.tuple (paperL n E p one)) := by
  refine ⟨?_, fun x hx => ?_⟩
  · unfold paperL
    rw [List.length_map]
    have := psort_le hn
    omega
  · obtain ⟨s, hs, rfl⟩ := List.mem_map.mp hx
    refine ⟨by simp, fun y hy => ?_⟩
    rcases List.mem_cons.mp hy with e | hy
    · rw [e]
      exact ok_ints 1 s (by have := std_len (mem_psort.mp hs); omega)
    · rw [List.mem_singleton.mp hy]
      trivial
end
end Hk
set_option Elab.async false
set_option linter.all false
set_option maxRecDepth 100000
set_option maxHeartbeats 1000000
set_option autoImplicit false
/-! HkZd: the readings kept, the law's end. -/
namespace Hk
open PySem PySem.Spec PyProof.Rows L2
section
variable {P : Program} {w : World} {K : PySem.W.Frag}
theorem ev_alike {E : XK} {ta tb : TE} {ds : Sl} {d : PyData} (ha : EvS ta ds d) (hb : EvS tb ds d) (h : okD 4 d) : EvS (tCall (S_law_alike 4) [] E (tCons ta (tCons tb tNil))) ds (.bool true) := ev_call (ea_cons ha (ea_cons hb ea_nil)) ⟨d, rfl, h, rfl⟩
theorem ev_cost {tk : TE} {ds : Sl} {q : Addr} {t : Tab} {n : Nat} {A : Arr} {one s : List Int} {p : Prc} (W : WebS n A) (S1 : Std n one) (HP : Prices n p) (lp : Loop n A p one t []) {sl : Slot} (h6 : ds[6]? = some sl) (it : IsTab sl q (eTab t)) (hk : EvS tk ds (eT s)) (hs : Std n s) : EvS (tDGet (tVar 6) tk) ds (.int (costOf n A p one s)) :=
  ev_tget h6 it hk (by rw [lookP_eTab, lp.least W.web HP S1 hs]; rfl)
/-- one of the values -/
theorem law_value (a q : Addr) (t : Tab) (n : Nat) (A : Arr) (one other : List Int) (p : Prc) (W : WebS n A) (S1 : Std n one) (S2 : Std n other) (HP : Prices n p) (lp : Loop n A p one t []) (v : PyData) (O : Odd v) (s7 s8 s9 s10 s12 s13 s14 s15 s16 s17 s18 : Slot) (N : Sl → Prop) (R : PyData → Sl → Prop)
    (hN : ∀ s12 s13 s14 s15, N [.non, .row K a, .dat (eW n A), .dat (eT one), .dat (eT other), .dat (ePr p), .tab q (eTab t), s7, s8, s9, s10, .dat v, s12, s13, s14, s15, s16, s17, s18]) :
    RunE (tSeq (tAsg (tOp (rEqD K) (tCall S_law_leads_to [] E0 (tCons (tVar 2) (tCons (tVar 3) (tCons (tVar 11) tNil)))) (tVar 4)) (gName 12))
  (tSeq (tIfS (tB (tVar 12)) (tSeq (tPar 13 14 (tCons (tVar 3) (tCons (tC (.int 0)) tNil)))
  (tSeq (tFor (iTup K (tVar 11)) (gName 15) (tPar 14 13 (tCons (tOp (rI0 fun i j => .int (i + j)) (tVar 14) (tOp (rIx K) (tOp (rIx K) (tVar 5) (tVar 15)) (tIf (tTest (tOp (rIn K false) (tVar 15) (tVar 13))) (tC (.int 1)) (tC (.int 0))))) (tCons (tCall S_law_changed [] E0 (tCons (tVar 13) (tCons (tVar 15) tNil))) tNil))))
  (tAsg (tOp (rEqD K) (tVar 14) (tDGet (tVar 6) (tVar 4))) (gName 12)))) tNext)
  (tIfS (tNot (tB (tCall (S_law_alike 4) [] E0 (tCons (tCall S_shows_cheap [] E0 (tCons (tVar 2) (tCons (tVar 3) (tCons (tVar 4) (tCons (tVar 5) (tCons (tVar 11) tNil)))))) (tCons (tVar 12) tNil))))) (tRet (tC (.bl false))) tNext))) [.non, .row K a, .dat (eW n A), .dat (eT one), .dat (eT other), .dat (ePr p), .tab q (eTab t), s7, s8, s9, s10, .dat v, s12, s13, s14, s15, s16, s17, s18] N R := by
  have h5 := W.web.few
  have last : ∀ s13 s14 s15 : Slot, RunE (tIfS (tNot (tB (tCall (S_law_alike 4) [] E0 (tCons (tCall S_shows_cheap [] E0 (tCons (tVar 2) (tCons (tVar 3) (tCons (tVar 4) (tCons (tVar 5) (tCons (tVar 11) tNil)))))) (tCons (tVar 12) tNil))))) (tRet (tC (.bl false))) tNext) [.non, .row K a, .dat (eW n A), .dat (eT one), .dat (eT other), .dat (ePr p), .tab q (eTab t), s7, s8, s9, s10, .dat v, .dat (.bool (cheapB n A p one other v)), s13, s14, s15, s16, s17, s18] N R := fun s13 s14 s15 =>
    rn_if (b := false) ((et_not (et_B (ev_alike (d := .bool (cheapB n A p one other v)) (ev_call (ea_cons (ev_var rfl) (ea_cons (ev_var rfl) (ea_cons (ev_var rfl) (ea_cons (ev_var rfl) (ea_cons (ev_var rfl) ea_nil))))) ⟨n, A, one, other, p, v, rfl, W, S1, S2, HP, O, rfl⟩) (ev_var rfl) trivial))).cast rfl) (fun h => by cases h) fun _ => rn_next (hN _ _ _ _)
  have hcall : EvS (tCall S_law_leads_to [] E0 (tCons (tVar 2) (tCons (tVar 3) (tCons (tVar 11) tNil)))) [.non, .row K a, .dat (eW n A), .dat (eT one), .dat (eT other), .dat (ePr p), .tab q (eTab t), s7, s8, s9, s10, .dat v, s12, s13, s14, s15, s16, s17, s18] (leadD n A one v) := ev_call (ea_cons (ev_var rfl) (ea_cons (ev_var rfl) (ea_cons (ev_var rfl) ea_nil))) ⟨n, A, one, v, rfl, W, S1, O, rfl⟩
  have no : ∀ X : TS, leadD n A one v = .none → cheapB n A p one other v = false → RunE (tSeq (tAsg (tOp (rEqD K) (tCall S_law_leads_to [] E0 (tCons (tVar 2) (tCons (tVar 3) (tCons (tVar 11) tNil)))) (tVar 4)) (gName 12)) (tSeq (tIfS (tB (tVar 12)) X tNext) (tIfS (tNot (tB (tCall (S_law_alike 4) [] E0 (tCons (tCall S_shows_cheap [] E0 (tCons (tVar 2) (tCons (tVar 3) (tCons (tVar 4) (tCons (tVar 5) (tCons (tVar 11) tNil)))))) (tCons (tVar 12) tNil))))) (tRet (tC (.bl false))) tNext))) [.non, .row K a, .dat (eW n A), .dat (eT one), .dat (eT other), .dat (ePr p), .tab q (eTab t), s7, s8, s9, s10, .dat v, s12, s13, s14, s15, s16, s17, s18] N R := fun X e e2 => by
    rw [e] at hcall
    refine rn_seq (rn_set (ev_op hcall (ev_var rfl) (rd_eqNT other)) ?_)
    have l := last s13 s14 s15
    rw [e2] at l
    exact rn_seq (rn_if (b := false) (et_B (ev_var rfl)) (fun h => by cases h) fun _ => rn_next l)
  cases hl : lampsOf n v with
  | none =>
    refine no _ ?_ ?_
    · unfold leadD
      rw [hl]
    · unfold cheapB
      rw [hl]
  | some ws =>
    cases hr : runW n A one ws with
    | none =>
      refine no _ ?_ ?_
      · unfold leadD
        simp only [hl, hr]
      · unfold cheapB
        simp only [hl, hr]
    | some s =>
      obtain ⟨rfl, hw⟩ := lampsOf_some hl
      have hlead : leadD n A one (eT ws) = eT s := by
        unfold leadD
        simp only [hl, hr]
      have hch : cheapB n A p one other (eT ws) = (decide (s = other) && decide (wcost n p one ws = costOf n A p one other)) := by
        unfold cheapB
        simp only [hl, hr]
      rw [hlead] at hcall
      refine rn_seq (rn_set (ev_op hcall (ev_var rfl) (rd_eqT s other)) ?_)
      refine rn_seq (rn_if (et_B (ev_var rfl)) (fun h => ?_) fun h => rn_next ?_)
      · have hso : s = other := of_decide_eq_true h
        refine rn_seq (rn_par (ea_cons (ev_var rfl) (ea_cons ev_int ea_nil)) ?_)
        refine rn_seq (rn_for (eIs ws) (fun i ds' => ∃ (cur : List Int) (c : Int) (s15 : Slot), Std n cur ∧ runW n A cur (ws.drop i) = some s ∧ c + wcost n p cur (ws.drop i) = wcost n p one ws ∧ ds' = [.non, .row K a, .dat (eW n A), .dat (eT one), .dat (eT other), .dat (ePr p), .tab q (eTab t), s7, s8, s9, s10, .dat (eT ws), .dat (.bool (decide (s = other))), .dat (eT cur), .dat (.int c), s15, s16, s17, s18]) (it_tup (ev_var rfl)) ⟨one, 0, s15, S1, hr, by rw [List.drop_zero]; omega, rfl⟩ (fun i x ds' hx ⟨cur, c, s15, Sc, hc, hcost, e0⟩ => ?_) fun ds' ⟨cur, c, s15, Sc, hc, hcost, e0⟩ => ?_)
        · subst e0
          obtain ⟨l, hl2, rfl⟩ := eIs_at hx
          obtain ⟨hi, hg⟩ := List.getElem?_eq_some_iff.mp hl2
          have hlr := hw l (hg ▸ List.getElem_mem hi)
          have hd : ws.drop i = l :: ws.drop (i + 1) := by rw [List.drop_eq_getElem_cons hi, hg]
          rw [hd] at hc hcost
          have hcan : can A cur l = true := by
            cases q2 : can A cur l with
            | true => rfl
            | false =>
              rw [runW, q2, Bool.and_false, if_neg Bool.false_ne_true] at hc
              cases hc
          rw [runW, hcan, decide_eq_true hlr, Bool.and_self, if_pos rfl] at hc
          refine ⟨[15], _, tg_name, ?_⟩
          refine rn_par (x := .int (c + pOf p cur l)) (y := eT (tog n cur l)) (ea_cons (ev_op (ev_var rfl) (EvE.cast (ev_op (ev_op (ev_var rfl) (ev_var rfl) (rd_ixT (price_at HP hlr))) (ev_ite (b := decide (l ∈ cur)) (x := .int (if decide (l ∈ cur) then 1 else 0)) (et_T (ev_op (ev_var rfl) (ev_var rfl) (rd_inT _ _))) (fun h => by rw [h]; exact ev_int) fun h => by rw [h]; exact ev_int) (rd_ixT (pick_at _ _ _))) ?_) rd_I0) (ea_cons (ev_call (ea_cons (ev_var rfl) (ea_cons (ev_var rfl) ea_nil)) ⟨n, cur, l, rfl, Sc, hlr, h5, rfl⟩) ea_nil)) ⟨tog n cur l, c + pOf p cur l, .dat (.int l), std_tog _ _ _, hc, ?_, rfl⟩
          · unfold pOf pQ pL
            by_cases q2 : l ∈ cur
            · simp [q2]
            · simp [q2]
          · rw [← hcost, wcost]
            omega
        · subst e0
          rw [len_eIs, List.drop_length] at hcost
          have hcost : c = wcost n p one ws := by
            rw [← hcost]
            show c = c + 0
            omega
          refine rn_set (d := .bool (cheapB n A p one other (eT ws))) (EvE.cast (ev_op (ev_var rfl) (ev_cost W S1 HP lp rfl (.inl rfl) (ev_var rfl) S2) (rd_eqI _ _)) ?_) (last _ _ _)
          rw [hch, hso, hcost]
          simp
      · have l := last s13 s14 s15
        rw [hch, h, Bool.false_and] at l
        have h' : decide (s = other) = false := h
        rw [h']
        exact l
end
end Hk
set_option Elab.async false
set_option linter.all false
set_option maxRecDepth 100000
set_option maxHeartbeats 1000000
set_option autoImplicit false
/-! HkZe: the readings kept, the whole law. -/
namespace Hk
open PySem PySem.Spec PyProof.Rows L2
section
variable {P : Program} {w : World} {K : PySem.W.Frag}
theorem keys_eTab (t : Tab) : (eTab t).map (·.1) = keysT t := by
  rw [eTab, List.map_map]
  rfl
theorem ev_best {q : Addr} {t : Tab} {n : Nat} {A : Arr} {one : List Int} {p : Prc} {ds : Sl} (W : WebS n A) (S1 : Std n one) (HP : Prices n p) (lp : Loop n A p one t []) (h6 : ds[6]? = some (.tab q (eTab t))) (h16 : ds[16]? = some .non) (hn : ∀ (j : Nat) (b : Addr) (od : Obj) (es : List (List Key × V)) (xs : PTab), ds[j]? ≠ some (Slot.ftab b od es xs)) :
    EvS (tCB (rMinD K) (tCons (tLockE (tLc (iKeysTM (tVar 6)) (gName 16) tYes (tTup (tCons (tOp (rI0 fun i j => .int (i - j)) (tC (.int 0)) (tDGet (tVar 6) (tVar 16))) (tCons (tVar 16) tNil))) [16])) tNil)) ds (eC (dearM n A p one)) := by
  have kp := lp.keys W.web HP S1
  have kl : (keysT t).length = 2 ^ n := kp.length_eq.trans (pset_len n)
  have l16 : 16 < ds.length := (List.getElem?_eq_some_iff.mp h16).1
  have l6 : 6 < ds.length := (List.getElem?_eq_some_iff.mp h6).1
  have kd : ((keysT t).map fun s => (-costOf n A p one s, s)).Perm (dearL n A p one) := (kp.trans (psort_perm n).symm).map _
  obtain ⟨x, l, hx⟩ : ∃ x l, (keysT t).map (fun s => (-costOf n A p one s, s)) = x :: l := by
    cases h : (keysT t).map fun s => (-costOf n A p one s, s) with
    | nil =>
      have := congrArg List.length h
      rw [List.length_map, kl] at this
      have h2 := Nat.two_pow_pos n
      rw [this] at h2
      exact absurd h2 (by decide)
    | cons x l => exact ⟨x, l, rfl⟩
  have hm : dearM n A p one = minC x l := by
    unfold dearM
    cases h : dearL n A p one with
    | nil =>
      rw [h, hx] at kd
      exact absurd kd.length_eq (by simp)
    | cons y m =>
      rw [h, hx] at kd
      exact (minC_perm kd).symm
  refine ev_cb (ea_cons (EvE.cast (d := .list (((keysT t).filter fun _ => true).map fun s => .tuple [.int (0 - costOf n A p one s), eT s])) (d' := .list ((x :: l).map eC)) (ev_lock h6 hn fun od es => ?_) ?_) ea_nil) (by rw [hm]; exact rc_minC x l)
  · have hi : IterS (iKeysTM (tVar 6)) (ds.set 6 (.ftab q od es (eTab t))) ((keysT t).map eT) := by
      have := it_tkeys (i := 6) (a := q) (od := od) (es := es) (t := eTab t) (ds := ds.set 6 (.ftab q od es (eTab t))) (by rw [List.getElem?_set_self l6])
      rw [keys_eTab] at this
      exact this
    have p32 : (keysT t).length ≤ 32 := by
      rw [kl]
      exact Nat.le_trans (Nat.pow_le_pow_right (by decide) W.web.few) (by decide)
    refine lc1 (keysT t) eT (fun _ => true) (fun s => .tuple [.int (0 - costOf n A p one s), eT s]) hi (by omega) (no_at (t := .non) (by rw [List.getElem?_set_ne (by decide)]; exact h16) rfl) (fun s _ => et_yes) fun s hs _ => ?_
    have Ss : Std n s := mem_pset.mp (kp.mem_iff.mp hs)
    have v16 : ((ds.set 6 (.ftab q od es (eTab t))).set 16 (.dat (eT s)))[16]? = some (.dat (eT s)) := by
      rw [List.getElem?_set_self (by rw [List.length_set]; exact l16)]
    have v6 : ((ds.set 6 (.ftab q od es (eTab t))).set 16 (.dat (eT s)))[6]? = some (.ftab q od es (eTab t)) := by
      rw [List.getElem?_set_ne (by decide), List.getElem?_set_self l6]
    exact ev_tup (ea_cons (ev_op ev_int (ev_cost W S1 HP lp v6 (.inr ⟨od, es, rfl⟩) (ev_var v16) Ss) rd_I0) (ea_cons (ev_var v16) ea_nil)) (by simp)
  · rw [filt_all, ← hx, List.map_map]
    refine congrArg PyData.list (List.map_congr_left fun s _ => ?_)
    show PyData.tuple [.int (0 - costOf n A p one s), eT s] = .tuple [.int (-costOf n A p one s), eT s]
    rw [Int.zero_sub]
theorem ev_paper {q : Addr} {t : Tab} {n : Nat} {A : Arr} {one : List Int} {p : Prc} {ds : Sl} (W : WebS n A) (S1 : Std n one) (HP : Prices n p) (lp : Loop n A p one t []) (h6 : ds[6]? = some (.tab q (eTab t))) (h16 : ds[16]? = some .non) :
    EvS (tCB (rTupleS K) (tCons (tLc (iList K (tCB rSortedKV (tCons (tKeysV (tVar 6)) tNil))) (gName 16) tYes (tTup (tCons (tVar 16) (tCons (tDGet (tVar 6) (tVar 16)) tNil))) [16]) tNil)) ds (.tuple (paperL n A p one)) := by
  have kp := lp.keys W.web HP S1
  have l16 : 16 < ds.length := (List.getElem?_eq_some_iff.mp h16).1
  have pl := psort_le W.web.few
  refine ev_cb (ea_cons (EvE.cast (d' := .list (paperL n A p one)) (lc1 (psort n) eT (fun _ => true) (fun s => .tuple [eT s, .int (costOf n A p one s)]) (it_list (ev_tkeys h6 (.inl rfl) (by rw [keys_eTab]; exact (psort_perm n).trans kp.symm) (psort_srt n))) (by omega) (no_at h16 rfl) (fun s _ => et_yes) fun s hs _ => ?_) ?_) ea_nil) (rc_tuple _)
  · have v16 : (ds.set 16 (.dat (eT s)))[16]? = some (.dat (eT s)) := by
      rw [List.getElem?_set_self l16]
    have v6 : (ds.set 16 (.dat (eT s)))[6]? = some (.tab q (eTab t)) := by
      rw [List.getElem?_set_ne (by decide)]
      exact h6
    exact ev_tup (ea_cons (ev_var v16) (ea_cons (ev_cost W S1 HP lp v6 (.inl rfl) (ev_var v16) (mem_psort.mp hs)) ea_nil)) (by simp)
  · rw [filt_all]
    rfl
theorem ev_word {n : Nat} {A : Arr} {one other : List Int} {E : XK} {ta : TA} {ds : Sl} (W : WebS n A) (S1 : Std n one) (S2 : Std n other) (h : EaS ta ds [eW n A, eT one, eT other]) (h17 : ds[17]? = some .non) (h18 : ds[18]? = some .non) :
    EvS (tCB (rTupleS K) (tCons (tLc (iList K (tCall S_law_deeds [] E ta)) (gTup K 2 (gCons (gName 17) (gCons (gName 18) gNil))) tYes (tVar 18) [17, 18]) tNil)) ds (eT (wordOf n A one other)) := by
  have h5 := W.web.few
  have l4 : (litL n A one other).length ≤ n := lst_len n _
  have l5 : (outL n A one other).length ≤ n := lst_len n _
  have l18 : 18 < ds.length := (List.getElem?_eq_some_iff.mp h18).1
  refine ev_cb (ea_cons (EvE.cast (d' := .list (eIs (wordOf n A one other))) (lc2 (((litL n A one other).map fun k => (true, k)) ++ (outL n A one other).map fun k => (false, k)) (fun x => .bool x.1) (fun x => .int x.2) (fun _ => true) (fun x => .int x.2) (by decide) (it_list (EvE.cast (ev_call h ⟨n, A, one, other, rfl, W, S1, S2, rfl⟩) ?_)) ?_ (no_at2 h17 rfl h18 rfl) (fun x _ => et_yes) fun x _ _ => ev_var ?_) ?_) ea_nil) (rc_tuple _)
  · unfold deedsL
    rw [List.map_append, List.map_map, List.map_map]
    rfl
  · rw [List.length_append, List.length_map, List.length_map]
    omega
  · rw [List.getElem?_set_self (by rw [List.length_set]; exact l18)]
  · rw [filt_all, List.map_append, List.map_map, List.map_map]
    unfold wordOf eIs
    rw [List.map_append]
    rfl
theorem r_law_rest (a : Addr) (N : Sl → Prop) : RunE (t_law_rest P w K) [.non, .row K a, .non, .non, .non, .non, .non, .non, .non, .non, .non, .non, .non, .non, .non, .non, .non, .non, .non] N fun d _ => d = .bool true := by
  refine rn_seq (rne_set (ee_callR (a := a) rfl ((ea_cons ev_int ea_nil).mono fun xs ds' ⟨e1, e2⟩ => ?_)))
  subst e1 e2
  refine ⟨rfl, rfl, fun z ⟨n, A, ez, W⟩ => ?_⟩
  subst ez
  have h5 := W.web.few
  refine rn_seq (rne_par3 (eae_cons (P1 := fun d ds1 => ∃ s, d = eT s ∧ Std n s ∧ ds1 = [.non, .row K a, .dat (eW n A), .non, .non, .non, .non, .non, .non, .non, .non, .non, .non, .non, .non, .non, .non, .non, .non]) (ee_callR (a := a) rfl ((ea_cons (ev_op (ev_var rfl) ev_int (rd_ixT atI0)) ea_nil).mono fun xs ds' ⟨e1, e2⟩ => ?_)) fun x ds1 ⟨one, ex, S1, e1⟩ => ?_))
  · subst e1 e2
    refine ⟨rfl, ⟨n, rfl, h5⟩, fun z ⟨n', s, en, ez, S⟩ => ⟨s, ez, ?_, rfl⟩⟩
    have : (n : Int) = (n' : Int) := by
      have := List.cons.inj en
      exact PyData.int.inj this.1
    have e : n' = n := by omega
    subst e
    exact S
  subst ex e1
  refine eae_cons (P1 := fun d ds1 => ∃ s, d = eT s ∧ Std n s ∧ ds1 = [.non, .row K a, .dat (eW n A), .non, .non, .non, .non, .non, .non, .non, .non, .non, .non, .non, .non, .non, .non, .non, .non]) (ee_callR (a := a) rfl ((ea_cons (ev_op (ev_var rfl) ev_int (rd_ixT atI0)) ea_nil).mono fun xs ds' ⟨e1, e2⟩ => ?_)) fun x ds1 ⟨other, ex, S2, e1⟩ => ?_
  · subst e1 e2
    refine ⟨rfl, ⟨n, rfl, h5⟩, fun z ⟨n', s, en, ez, S⟩ => ⟨s, ez, ?_, rfl⟩⟩
    have : (n : Int) = (n' : Int) := by
      have := List.cons.inj en
      exact PyData.int.inj this.1
    have e : n' = n := by omega
    subst e
    exact S
  subst ex e1
  refine eae_cons (P1 := fun d ds1 => ∃ p, d = ePr p ∧ Prices n p ∧ ds1 = [.non, .row K a, .dat (eW n A), .non, .non, .non, .non, .non, .non, .non, .non, .non, .non, .non, .non, .non, .non, .non, .non]) (ee_callR (a := a) rfl ((ea_cons (ev_var rfl) ea_nil).mono fun xs ds' ⟨e1, e2⟩ => ?_)) fun x ds1 ⟨p, ex, HP, e1⟩ => ?_
  · subst e1 e2
    refine ⟨rfl, ⟨n, A, rfl, h5⟩, fun z ⟨n', A', p, en, ez, HP⟩ => ⟨p, ez, ?_, rfl⟩⟩
    have h1 := (List.cons.inj en).1
    have h2 : (n : Int) = (n' : Int) := by
      have := (List.cons.inj (PyData.tuple.inj h1)).1
      exact PyData.int.inj this
    have e : n' = n := by omega
    subst e
    exact HP
  subst ex e1
  refine ea_nil.mono fun xs ds1 e => ?_
  obtain ⟨rfl, rfl⟩ := e
  refine ⟨_, _, _, rfl, ?_⟩
  refine rn_seq (rn_costs (ea_cons (ev_var rfl) (ea_cons (ev_var rfl) (ea_cons (ev_var rfl) ea_nil))) W S1 HP fun q t lp => ?_)
  -- price_paper
  refine rn_seq (rn_if (b := false) ((et_not (et_B (ev_alike (d := .tuple (paperL n A p one)) (ev_call (ea_cons (ev_var rfl) (ea_cons (ev_var rfl) (ea_cons (ev_var rfl) ea_nil))) ⟨n, A, one, p, rfl, W, S1, HP, rfl⟩) (ev_paper W S1 HP lp rfl rfl) (ok_paper h5)))).cast rfl) (fun h => by cases h) fun _ => rn_next ?_)
  refine rn_seq (rn_set (ev_best W S1 HP lp rfl rfl fun j b od es xs => ?_) ?_)
  · intro h
    match j, h with
    | 0, h => cases h
    | 1, h => cases h
    | 2, h => cases h
    | 3, h => cases h
    | 4, h => cases h
    | 5, h => cases h
    | 6, h => cases h
    | 7, h => cases h
    | 8, h => cases h
    | 9, h => cases h
    | 10, h => cases h
    | 11, h => cases h
    | 12, h => cases h
    | 13, h => cases h
    | 14, h => cases h
    | 15, h => cases h
    | 16, h => cases h
    | 17, h => cases h
    | 18, h => cases h
  -- cheapest
  refine rn_seq (rn_if (b := false) ((et_not (et_B (ev_alike (d := .int (costOf n A p one other)) (ev_call (ea_cons (ev_var rfl) (ea_cons (ev_var rfl) (ea_cons (ev_var rfl) (ea_cons (ev_var rfl) ea_nil)))) ⟨n, A, one, other, p, rfl, W, S1, S2, HP, rfl⟩) (ev_cost W S1 HP lp rfl (.inl rfl) (ev_var rfl) S2) trivial))).cast rfl) (fun h => by cases h) fun _ => rn_next ?_)
  -- dearest
  have ms : (dearM n A p one).2.length ≤ 1000 := by
    have hm : dearM n A p one ∈ dearL n A p one ∨ dearM n A p one = (0, []) := by
      unfold dearM
      cases h : dearL n A p one with
      | nil => exact .inr rfl
      | cons x l => exact .inl (minC_ok l x).1
    rcases hm with hm | hm
    · obtain ⟨s, hs, e⟩ := List.mem_map.mp hm
      rw [← e]
      have := std_len (mem_psort.mp hs)
      show s.length ≤ 1000
      omega
    · rw [hm]
      exact Nat.zero_le _
  refine rn_seq (rn_if (b := false) ((et_not (et_B (ev_alike (d := .tuple [.int (-(dearM n A p one).1), eT (dearM n A p one).2]) (ev_call (ea_cons (ev_var rfl) (ea_cons (ev_var rfl) (ea_cons (ev_var rfl) ea_nil))) ⟨n, A, one, p, rfl, W, S1, HP, rfl⟩) (EvE.cast (ev_tup (ea_cons (ev_op ev_int (ev_op (ev_var rfl) ev_int (rd_ixT atI0)) rd_I0) (ea_cons (ev_op (ev_var rfl) ev_int (rd_ixT atI1)) ea_nil)) (by simp)) (by rw [Int.zero_sub])) ⟨by simp, fun x hx => ?_⟩))).cast rfl) (fun h => by cases h) fun _ => rn_next ?_)
  · rcases List.mem_cons.mp hx with e | hx
    · rw [e]
      trivial
    · rw [List.mem_singleton.mp hx]
      exact ok_ints 2 _ ms
  -- the word
  refine rn_seq (rn_set (ev_word W S1 S2 (ea_cons (ev_var rfl) (ea_cons (ev_var rfl) (ea_cons (ev_var rfl) ea_nil))) rfl rfl) ?_)
  have wl : (wordOf n A one other).length ≤ 10 := by
    unfold wordOf litL outL
    rw [List.length_append]
    have := lst_len n (litB A one other)
    have := lst_len n (outB A one other)
    omega
  have wc := word_cheap (p := p) W S1 S2
  have Ow : Odd (eT (wordOf n A one other)) := odd_tup (flat_eIs _) (by rw [len_eIs]; omega)
  generalize wordOf n A one other = ws at wl wc Ow ⊢
  generalize dearM n A p one = best
  have fw := flat_eIs ws
  have lw : (eIs ws).length = ws.length := len_eIs ws
  have f1 := flat_cut fw (some 1) none
  have f2 := flat_cut fw (some (-1)) none
  refine rn_seq (rn_set (d := .list [eT ws, .none, .tuple [], .list (eIs ws), .int 3, .dict [], .tuple (cutD (eIs ws) (some 1) none), .tuple (eIs ws ++ (cutD (eIs ws) (some (-1)) none ++ cutD (eIs ws) (some (-1)) none)), .tuple (eIs ws).reverse, .tuple [.none], .tuple [.int 9]])
    (ev_lst (ea_cons (ev_var rfl) (ea_cons ev_non (ea_cons (ev_tup ea_nil (by simp)) (ea_cons (ev_cb (ea_cons (ev_var rfl) ea_nil) (rc_list _)) (ea_cons ev_int (ea_cons ev_newK (ea_cons (ev_sl (ev_var rfl) (eo_some ev_int) eo_none sl_D) (ea_cons (ev_op (ev_var rfl) (ev_op (ev_sl (ev_var rfl) (eo_some (ev_un ev_int ru_I)) eo_none sl_D) ev_int (rd_twice _ (by omega))) (rd_catT (by rw [List.length_append]; omega))) (ea_cons (ev_rev (ev_var rfl)) (ea_cons (ev_tup (ea_cons ev_non ea_nil) (by simp)) (ea_cons (ev_tup (ea_cons ev_int ea_nil) (by simp)) ea_nil))))))))))) (by simp)) ?_)
  refine rn_seq (rn_setN (en_cat (ys := [.tuple [.bool true], .tuple (eIs ws ++ [.bool true])]) (ev_var rfl) (ev_lst (ea_cons (ev_tup (ea_cons ev_bl ea_nil) (by simp)) (ea_cons (ev_op (ev_var rfl) (ev_tup (ea_cons ev_bl ea_nil) (by simp)) (rd_catT (by simp; omega))) ea_nil)) (by simp)) (by simp)) fun q9 => ?_)
  refine rn_seq (rn_for (rgD 0 4) (fun i ds' => ∃ (vals : List PyData) (s10 : Slot), (∀ v ∈ vals, Odd v) ∧ vals.length ≤ 13 + i ∧ ds' = [.non, .row K a, .dat (eW n A), .dat (eT one), .dat (eT other), .dat (ePr p), .tab q (eTab t), .dat (eC best), .dat (eT ws), .own q9 vals, s10, .non, .non, .non, .non, .non, .non, .non, .non]) (it_rng1 (ea_cons ev_int ea_nil) (by decide) (by decide)) ⟨_, .non, fun v hv => ?_, ?_, rfl⟩ (fun i x ds' hx ⟨vals, s10, hv, hl, e0⟩ => ?_) fun ds' ⟨vals, s10, hv, hl, e0⟩ => ?_)
  · have fcat := flat_app fw (flat_app f2.1 f2.1)
    have o1 : Odd (.tuple (cutD (eIs ws) (some 1) none)) := odd_tup f1.1 (by omega)
    have o2 : Odd (.tuple (eIs ws ++ (cutD (eIs ws) (some (-1)) none ++ cutD (eIs ws) (some (-1)) none))) := odd_tup fcat (by rw [List.length_append, List.length_append]; omega)
    have o3 : Odd (.tuple (eIs ws).reverse) := odd_tup (flat_rev fw) (by rw [List.length_reverse]; omega)
    have o4 : Odd (.tuple (eIs ws ++ [.bool true])) := odd_tup (flat_app fw rfl) (by rw [List.length_append]; simp; omega)
    rcases List.mem_append.mp hv with h | h
    · simp only [List.mem_cons, List.not_mem_nil, or_false] at h
      rcases h with e | e | e | e | e | e | e | e | e | e | e <;> rw [e]
      · exact Ow
      · exact .inl rfl
      · exact odd_tup rfl (by simp)
      · exact .inl rfl
      · exact .inl rfl
      · exact .inl rfl
      · exact o1
      · exact o2
      · exact o3
      · exact odd_tup rfl (by simp)
      · exact odd_tup rfl (by simp)
    · simp only [List.mem_cons, List.not_mem_nil, or_false] at h
      rcases h with e | e <;> rw [e]
      · exact odd_tup rfl (by simp)
      · exact o4
  · simp
  · subst e0
    refine ⟨[10], _, tg_name, ?_⟩
    have hi : i < 4 := by
      have := (List.getElem?_eq_some_iff.mp hx).1
      rwa [rgD_len] at this
    refine rne_app ⟨q9, vals, rfl⟩ (ee_callR (a := a) rfl ((ea_cons (ev_var rfl) (ea_cons (ev_var rfl) (ea_cons ev_int ea_nil))).mono fun xs ds1 ⟨e1, e2⟩ => ?_))
    subst e1 e2
    refine ⟨rfl, ⟨n, A, one, rfl, W, S1⟩, fun z ⟨us, ez, hu⟩ => ?_⟩
    subst ez
    refine ⟨q9, vals, rfl, ⟨vals, rfl⟩, by omega, vals ++ [eT us], .dat x, fun v hv2 => ?_, by simp; omega, rfl⟩
    rcases List.mem_append.mp hv2 with h | h
    · exact hv v h
    · rw [List.mem_singleton.mp h]
      exact odd_tup (flat_eIs _) (by rw [len_eIs]; omega)
  subst e0
  rw [rgD_len] at hl
  refine rn_release (i := 9) rfl ?_
  refine rn_seq (rn_for vals (fun i ds' => ∃ s11 s12 s13 s14 s15 : Slot, ds' = [.non, .row K a, .dat (eW n A), .dat (eT one), .dat (eT other), .dat (ePr p), .tab q (eTab t), .dat (eC best), .dat (eT ws), .dat (.list vals), s10, s11, s12, s13, s14, s15, .non, .non, .non]) (it_list (ev_var rfl)) ⟨.non, .non, .non, .non, .non, rfl⟩ (fun i v ds' hx ⟨s11, s12, s13, s14, s15, e0⟩ => ?_) fun ds' ⟨s11, s12, s13, s14, s15, e0⟩ => ?_)
  · subst e0
    refine ⟨[11], _, tg_name, ?_⟩
    exact law_value a q t n A one other p W S1 S2 HP lp v (hv v (List.mem_of_getElem? hx)) _ _ _ _ _ _ _ _ _ _ _ _ _ fun s12 s13 s14 s15 => ⟨_, _, _, _, _, rfl⟩
  · subst e0
    refine rn_ret (ev_op (ev_call (ea_cons (ev_var rfl) (ea_cons (ev_var rfl) (ea_cons (ev_var rfl) (ea_cons (ev_var rfl) (ea_cons (ev_var rfl) ea_nil))))) ⟨n, A, one, other, p, _, rfl, W, S1, S2, HP, Ow, rfl⟩) ev_bl (rd_isB _ _)) ?_
    rw [wc]
    rfl
theorem sp_law {vs : List V} {H : Hp} {Q : VK} {E0 : XK} (h : S_law K vs H Q E0) : t_law P w K { nx := fun _ H' => Q .non H', rt := Q } (start ["_law_script", "_law_row", "_law_web_here", "_law_one", "_law_other", "_law_prices_here", "_law_costs_here", "_law_best", "_law_word_here", "_law_values", "_law_turn", "_law_value", "_law_due", "_law_here", "_law_whole", "_law_lamp", "_law_there", "_law_sort", "_law_k"] vs) H := by
  obtain ⟨sc, ns, rfl, hs, q⟩ := h
  refine ⟨_, rfl, by show 4 ≤ sizeLine; decide, fun p hp => ?_⟩
  have hrow : RowIs K (hid (un no (· = p)) (upd H p (.lst [.ref sc, .int 0, .int 9639, .int 0]))) (upd H p (.lst [.ref sc, .int 0, .int 9639, .int 0])) p := by
    refine ⟨sc, 0, 9639, 0, ns, upd_same, ?_, by decide, by decide⟩
    have key : ∀ o, H sc = some o → hid (un no (· = p)) (upd H p (.lst [.ref sc, .int 0, .int 9639, .int 0])) sc = some o := fun o e => by
      have ne : sc ≠ p := ne_of_none e hp
      rw [hid_in fun z => z.elim False.elim ne, upd_ne ne]
      exact e
    exact hs.imp (fun z => z.imp (key _) fun ⟨o, z⟩ => ⟨o, key _ z⟩) id
  have hw : Own (un no (· = p)) (upd H p (.lst [.ref sc, .int 0, .int 9639, .int 0])) := fun b z => by
    have e : b = p := z.elim False.elim id
    subst e
    exact ⟨_, upd_same, trivial⟩
  have key : ∀ (i : Nat) (s : Slot), ([.non, .row K p, .non, .non, .non, .non, .non, .non, .non, .non, .non, .non, .non, .non, .non, .non, .non, .non, .non] : Sl)[i]? = some s → (i = 1 ∧ s = .row K p) ∨ s = .non := fun i s q => by
    match i, q with
    | 0, q => exact .inr (by cases q; rfl)
    | 1, q => exact .inl ⟨rfl, by cases q; rfl⟩
    | i + 2, q =>
      have : s ∈ List.replicate 17 Slot.non := List.mem_of_getElem? (i := i) q
      exact .inr (List.mem_replicate.mp this).2
  refine r_law_rest (P := P) (w := w) p (fun _ => False) no (· = p) _ _ _ hw ⟨fun _ z => z.elim, rfl, fun i s q => ?_, fun i j s t b q1 q2 e1 e2 => ?_⟩ (fun _ _ _ _ _ _ _ z => z.elim) fun v d O2 σ2 H2 ds2 ex own hs rp e => ?_
  · rcases key i s q with ⟨rfl, rfl⟩ | rfl
    · exact ⟨_, rfl, rfl, rfl, hrow⟩
    · have hi : i < 19 := (List.getElem?_eq_some_iff.mp q).1
      exact ⟨_, List.getElem?_eq_getElem (by exact hi), trivial⟩
  · rcases key i s q1 with ⟨rfl, _⟩ | rfl
    · rcases key j t q2 with ⟨rfl, _⟩ | rfl
      · rfl
      · cases e2
    · cases e1
  · subst e
    cases rp
    exact q H2
end
end Hk
set_option Elab.async false
set_option linter.all false
set_option maxRecDepth 100000
set_option maxHeartbeats 0
namespace Hk
open PySem PySem.Spec PyProof.Rows L2
def topS (i : Nat) : Stmt := PySem.Challenge.pw_handons_k39_whole_prices.main.body.getD i (.Pass ⟨0, 0, 0, 0⟩)
abbrev s_is_in : Stmt := topS 6
abbrev s_is_arrow : Stmt := topS 9
abbrev s_need_web : Stmt := topS 10
abbrev s_need_burning : Stmt := topS 11
abbrev s_need_both : Stmt := topS 12
abbrev s_need_two : Stmt := topS 13
abbrev s_ahead_in : Stmt := topS 14
abbrev s_behind_in : Stmt := topS 15
abbrev s_standings : Stmt := topS 16
abbrev s_light_in : Stmt := topS 19
abbrev s_quench_in : Stmt := topS 20
abbrev s_changed : Stmt := topS 21
abbrev s_doable : Stmt := topS 22
abbrev s_is_lamps : Stmt := topS 23
abbrev s_line_in : Stmt := topS 24
abbrev s_sides : Stmt := topS 26
abbrev s_needs_of : Stmt := topS 27
abbrev s_spare_in : Stmt := topS 28
abbrev s_lit_in : Stmt := topS 29
abbrev s_out_in : Stmt := topS 30
abbrev s_need_prices : Stmt := topS 33
abbrev s_cost_in : Stmt := topS 34
abbrev s_cheapest : Stmt := topS 35
abbrev s_price_paper : Stmt := topS 36
abbrev s_dearest : Stmt := topS 37
abbrev s_shows_cheap : Stmt := topS 38
abbrev s_law_taken : Stmt := topS 40
abbrev s_law_pick : Stmt := topS 41
abbrev s_law_web : Stmt := topS 42
abbrev s_law_burning : Stmt := topS 43
abbrev s_law_prices : Stmt := topS 44
abbrev s_law_changed : Stmt := topS 45
abbrev s_law_light : Stmt := topS 46
abbrev s_law_quench : Stmt := topS 47
abbrev s_law_after : Stmt := topS 48
abbrev s_law_costs : Stmt := topS 49
abbrev s_law_alike : Stmt := topS 50
abbrev s_law_spare : Stmt := topS 51
abbrev s_law_deeds : Stmt := topS 52
abbrev s_law_word : Stmt := topS 53
abbrev s_law_is_vector : Stmt := topS 54
abbrev s_law_leads_to : Stmt := topS 55
abbrev s_law : Stmt := topS 56
def d_is_in : He.DefD := ⟨("is_in", none), "is_in", "is_in", defArgs s_is_in, defBody s_is_in, defScope s_is_in, [], []⟩
def d_is_arrow : He.DefD := ⟨("is_arrow", none), "is_arrow", "is_arrow", defArgs s_is_arrow, defBody s_is_arrow, defScope s_is_arrow, [], []⟩
def d_need_web : He.DefD := ⟨("need_web", none), "need_web", "need_web", defArgs s_need_web, defBody s_need_web, defScope s_need_web, [], []⟩
def d_need_burning : He.DefD := ⟨("need_burning", none), "need_burning", "need_burning", defArgs s_need_burning, defBody s_need_burning, defScope s_need_burning, [], []⟩
def d_need_both : He.DefD := ⟨("need_both", none), "need_both", "need_both", defArgs s_need_both, defBody s_need_both, defScope s_need_both, [], []⟩
def d_need_two : He.DefD := ⟨("need_two", none), "need_two", "need_two", defArgs s_need_two, defBody s_need_two, defScope s_need_two, [], []⟩
def d_ahead_in : He.DefD := ⟨("ahead_in", none), "ahead_in", "ahead_in", defArgs s_ahead_in, defBody s_ahead_in, defScope s_ahead_in, [], []⟩
def d_behind_in : He.DefD := ⟨("behind_in", none), "behind_in", "behind_in", defArgs s_behind_in, defBody s_behind_in, defScope s_behind_in, [], []⟩
def d_standings : He.DefD := ⟨("standings", none), "standings", "standings", defArgs s_standings, defBody s_standings, defScope s_standings, [], []⟩
def d_light_in : He.DefD := ⟨("light_in", none), "light_in", "light_in", defArgs s_light_in, defBody s_light_in, defScope s_light_in, [], []⟩
def d_quench_in : He.DefD := ⟨("quench_in", none), "quench_in", "quench_in", defArgs s_quench_in, defBody s_quench_in, defScope s_quench_in, [], []⟩
def d_changed : He.DefD := ⟨("changed", none), "changed", "changed", defArgs s_changed, defBody s_changed, defScope s_changed, [], []⟩
def d_doable : He.DefD := ⟨("doable", none), "doable", "doable", defArgs s_doable, defBody s_doable, defScope s_doable, [], []⟩
def d_is_lamps : He.DefD := ⟨("is_lamps", none), "is_lamps", "is_lamps", defArgs s_is_lamps, defBody s_is_lamps, defScope s_is_lamps, [], []⟩
def d_line_in : He.DefD := ⟨("line_in", none), "line_in", "line_in", defArgs s_line_in, defBody s_line_in, defScope s_line_in, [], []⟩
def d_sides : He.DefD := ⟨("sides", none), "sides", "sides", defArgs s_sides, defBody s_sides, defScope s_sides, [], []⟩
def d_needs_of : He.DefD := ⟨("needs_of", none), "needs_of", "needs_of", defArgs s_needs_of, defBody s_needs_of, defScope s_needs_of, [], []⟩
def d_spare_in : He.DefD := ⟨("spare_in", none), "spare_in", "spare_in", defArgs s_spare_in, defBody s_spare_in, defScope s_spare_in, [], []⟩
def d_lit_in : He.DefD := ⟨("lit_in", none), "lit_in", "lit_in", defArgs s_lit_in, defBody s_lit_in, defScope s_lit_in, [], []⟩
def d_out_in : He.DefD := ⟨("out_in", none), "out_in", "out_in", defArgs s_out_in, defBody s_out_in, defScope s_out_in, [], []⟩
def d_need_prices : He.DefD := ⟨("need_prices", none), "need_prices", "need_prices", defArgs s_need_prices, defBody s_need_prices, defScope s_need_prices, [], []⟩
def d_cost_in : He.DefD := ⟨("cost_in", none), "cost_in", "cost_in", defArgs s_cost_in, defBody s_cost_in, defScope s_cost_in, [], []⟩
def d_cheapest : He.DefD := ⟨("cheapest", none), "cheapest", "cheapest", defArgs s_cheapest, defBody s_cheapest, defScope s_cheapest, [], []⟩
def d_price_paper : He.DefD := ⟨("price_paper", none), "price_paper", "price_paper", defArgs s_price_paper, defBody s_price_paper, defScope s_price_paper, [], []⟩
def d_dearest : He.DefD := ⟨("dearest", none), "dearest", "dearest", defArgs s_dearest, defBody s_dearest, defScope s_dearest, [], []⟩
def d_shows_cheap : He.DefD := ⟨("shows_cheap", none), "shows_cheap", "shows_cheap", defArgs s_shows_cheap, defBody s_shows_cheap, defScope s_shows_cheap, [], []⟩
def d_law_taken : He.DefD := ⟨("_law_taken", none), "_law_taken", "_law_taken", defArgs s_law_taken, defBody s_law_taken, defScope s_law_taken, [], []⟩
def d_law_pick : He.DefD := ⟨("_law_pick", none), "_law_pick", "_law_pick", defArgs s_law_pick, defBody s_law_pick, defScope s_law_pick, [], []⟩
def d_law_web : He.DefD := ⟨("_law_web", none), "_law_web", "_law_web", defArgs s_law_web, defBody s_law_web, defScope s_law_web, [], []⟩
def d_law_burning : He.DefD := ⟨("_law_burning", none), "_law_burning", "_law_burning", defArgs s_law_burning, defBody s_law_burning, defScope s_law_burning, [], []⟩
def d_law_prices : He.DefD := ⟨("_law_prices", none), "_law_prices", "_law_prices", defArgs s_law_prices, defBody s_law_prices, defScope s_law_prices, [], []⟩
def d_law_changed : He.DefD := ⟨("_law_changed", none), "_law_changed", "_law_changed", defArgs s_law_changed, defBody s_law_changed, defScope s_law_changed, [], []⟩
def d_law_light : He.DefD := ⟨("_law_light", none), "_law_light", "_law_light", defArgs s_law_light, defBody s_law_light, defScope s_law_light, [], []⟩
def d_law_quench : He.DefD := ⟨("_law_quench", none), "_law_quench", "_law_quench", defArgs s_law_quench, defBody s_law_quench, defScope s_law_quench, [], []⟩
def d_law_after : He.DefD := ⟨("_law_after", none), "_law_after", "_law_after", defArgs s_law_after, defBody s_law_after, defScope s_law_after, [], []⟩
def d_law_costs : He.DefD := ⟨("_law_costs", none), "_law_costs", "_law_costs", defArgs s_law_costs, defBody s_law_costs, defScope s_law_costs, [], []⟩
def d_law_alike : He.DefD := ⟨("_law_alike", none), "_law_alike", "_law_alike", defArgs s_law_alike, defBody s_law_alike, defScope s_law_alike, [], []⟩
def d_law_spare : He.DefD := ⟨("_law_spare", none), "_law_spare", "_law_spare", defArgs s_law_spare, defBody s_law_spare, defScope s_law_spare, [], []⟩
def d_law_deeds : He.DefD := ⟨("_law_deeds", none), "_law_deeds", "_law_deeds", defArgs s_law_deeds, defBody s_law_deeds, defScope s_law_deeds, [], []⟩
def d_law_word : He.DefD := ⟨("_law_word", none), "_law_word", "_law_word", defArgs s_law_word, defBody s_law_word, defScope s_law_word, [], []⟩
def d_law_is_vector : He.DefD := ⟨("_law_is_vector", none), "_law_is_vector", "_law_is_vector", defArgs s_law_is_vector, defBody s_law_is_vector, defScope s_law_is_vector, [], []⟩
def d_law_leads_to : He.DefD := ⟨("_law_leads_to", none), "_law_leads_to", "_law_leads_to", defArgs s_law_leads_to, defBody s_law_leads_to, defScope s_law_leads_to, [], []⟩
def d_law : He.DefD := ⟨("law", none), "law", "law", defArgs s_law, defBody s_law, defScope s_law, [], []⟩
def fnL : List He.DefD := [d_is_in, d_is_arrow, d_need_web, d_need_burning, d_need_both, d_need_two, d_ahead_in, d_behind_in, d_standings, d_light_in, d_quench_in, d_changed, d_doable, d_is_lamps, d_line_in, d_sides, d_needs_of, d_spare_in, d_lit_in, d_out_in, d_need_prices, d_cost_in, d_cheapest, d_price_paper, d_dearest, d_shows_cheap, d_law_taken, d_law_pick, d_law_web, d_law_burning, d_law_prices, d_law_changed, d_law_light, d_law_quench, d_law_after, d_law_costs, d_law_alike, d_law_spare, d_law_deeds, d_law_word, d_law_is_vector, d_law_leads_to, d_law]
def faL : List He.Fa := [.glo "is_in", .glo "is_arrow", .glo "need_web", .glo "need_burning", .glo "need_both", .glo "need_two", .glo "ahead_in", .glo "behind_in", .glo "standings", .glo "light_in", .glo "quench_in", .glo "changed", .glo "doable", .glo "is_lamps", .glo "line_in", .glo "sides", .glo "needs_of", .glo "spare_in", .glo "lit_in", .glo "out_in", .glo "need_prices", .glo "cost_in", .glo "cheapest", .glo "price_paper", .glo "dearest", .glo "shows_cheap", .glo "_law_taken", .glo "_law_pick", .glo "_law_web", .glo "_law_burning", .glo "_law_prices", .glo "_law_changed", .glo "_law_light", .glo "_law_quench", .glo "_law_after", .glo "_law_costs", .glo "_law_alike", .glo "_law_spare", .glo "_law_deeds", .glo "_law_word", .glo "_law_is_vector", .glo "_law_leads_to", .glo "law", .free "isinstance", .free "int", .free "bool", .free "tuple", .free "len", .free "enumerate", .free "sorted", .free "range", .free "set", .free "sum", .free "list", .free "min", .free "zip", .free "str", .free "dict", .int "MOST_LAMPS" 9, .int "MOST_WORD" 200, .int "MOST_PRICE" 1000]
def lo1 : List PySem.Str := ["HandError", "BadWeb", "BadBurning", "BadPrices", "is_in", "MOST_LAMPS", "is_arrow", "need_web", "need_burning", "need_both", "need_two", "ahead_in", "behind_in", "standings", "MOST_WORD", "light_in", "quench_in", "changed", "doable", "is_lamps", "line_in", "sides", "needs_of", "spare_in"]
def lo2 : List PySem.Str := ["lit_in", "out_in", "MOST_PRICE", "need_prices", "cost_in", "cheapest", "price_paper", "dearest", "shows_cheap", "_law_taken", "_law_pick", "_law_web", "_law_burning", "_law_prices", "_law_changed", "_law_light", "_law_quench", "_law_after", "_law_costs", "_law_alike", "_law_spare", "_law_deeds", "_law_word", "_law_is_vector", "_law_leads_to"]
def looseL : List PySem.Str := lo1 ++ lo2
abbrev RR : PySem.W.OpenRow := PySem.W.OpenLaw.row PySem.Challenge.rw_handons_k39_whole_prices
abbrev hk : PySem.W.Hook := He.hookD 4 faL fnL
def ob (s : PySem.W.SharedT) : He.AlD := He.obsDG 4 faL fnL (HandSHeadRun.getT s)
theorem ob_eq (s : PySem.W.SharedT) : ob s = hk.obs s.abs := He.obsDG_eq (HandSHeadRun.getT_eq s)
theorem run (w : World) : HandSHeadRun.RunEq RR (PySem.W.view RR.prog [56]) hk ob 3000 looseL w := by
  intro os
  kernel_rfl
end Hk
set_option Elab.async false
set_option linter.all false
set_option maxRecDepth 100000
set_option maxHeartbeats 4000000
set_option autoImplicit false
/-! HkT: the facts of the top, by name (printed by gen/txt.py). -/
namespace Hk
open PySem PySem.Spec PyProof.Rows L2
structure Txt (K : PySem.W.Frag) (mg : PySem.Str → Option Value) where
  f_is_in : Addr
  d_is_in : FuncData
  F_is_in : FnP K "is_in" s_is_in f_is_in d_is_in
  g_is_in : mg "is_in" = some (.ref f_is_in)
  f_is_arrow : Addr
  d_is_arrow : FuncData
  F_is_arrow : FnP K "is_arrow" s_is_arrow f_is_arrow d_is_arrow
  g_is_arrow : mg "is_arrow" = some (.ref f_is_arrow)
  f_need_web : Addr
  d_need_web : FuncData
  F_need_web : FnP K "need_web" s_need_web f_need_web d_need_web
  g_need_web : mg "need_web" = some (.ref f_need_web)
  f_need_burning : Addr
  d_need_burning : FuncData
  F_need_burning : FnP K "need_burning" s_need_burning f_need_burning d_need_burning
  g_need_burning : mg "need_burning" = some (.ref f_need_burning)
  f_need_both : Addr
  d_need_both : FuncData
  F_need_both : FnP K "need_both" s_need_both f_need_both d_need_both
  g_need_both : mg "need_both" = some (.ref f_need_both)
  f_need_two : Addr
  d_need_two : FuncData
  F_need_two : FnP K "need_two" s_need_two f_need_two d_need_two
  g_need_two : mg "need_two" = some (.ref f_need_two)
  f_ahead_in : Addr
  d_ahead_in : FuncData
  F_ahead_in : FnP K "ahead_in" s_ahead_in f_ahead_in d_ahead_in
  g_ahead_in : mg "ahead_in" = some (.ref f_ahead_in)
  f_behind_in : Addr
  d_behind_in : FuncData
  F_behind_in : FnP K "behind_in" s_behind_in f_behind_in d_behind_in
  g_behind_in : mg "behind_in" = some (.ref f_behind_in)
  f_standings : Addr
  d_standings : FuncData
  F_standings : FnP K "standings" s_standings f_standings d_standings
  g_standings : mg "standings" = some (.ref f_standings)
  f_light_in : Addr
  d_light_in : FuncData
  F_light_in : FnP K "light_in" s_light_in f_light_in d_light_in
  g_light_in : mg "light_in" = some (.ref f_light_in)
  f_quench_in : Addr
  d_quench_in : FuncData
  F_quench_in : FnP K "quench_in" s_quench_in f_quench_in d_quench_in
  g_quench_in : mg "quench_in" = some (.ref f_quench_in)
  f_changed : Addr
  d_changed : FuncData
  F_changed : FnP K "changed" s_changed f_changed d_changed
  g_changed : mg "changed" = some (.ref f_changed)
  f_doable : Addr
  d_doable : FuncData
  F_doable : FnP K "doable" s_doable f_doable d_doable
  g_doable : mg "doable" = some (.ref f_doable)
  f_is_lamps : Addr
  d_is_lamps : FuncData
  F_is_lamps : FnP K "is_lamps" s_is_lamps f_is_lamps d_is_lamps
  g_is_lamps : mg "is_lamps" = some (.ref f_is_lamps)
  f_line_in : Addr
  d_line_in : FuncData
  F_line_in : FnP K "line_in" s_line_in f_line_in d_line_in
  g_line_in : mg "line_in" = some (.ref f_line_in)
  f_sides : Addr
  d_sides : FuncData
  F_sides : FnP K "sides" s_sides f_sides d_sides
  g_sides : mg "sides" = some (.ref f_sides)
  f_needs_of : Addr
  d_needs_of : FuncData
  F_needs_of : FnP K "needs_of" s_needs_of f_needs_of d_needs_of
  g_needs_of : mg "needs_of" = some (.ref f_needs_of)
  f_spare_in : Addr
  d_spare_in : FuncData
  F_spare_in : FnP K "spare_in" s_spare_in f_spare_in d_spare_in
  g_spare_in : mg "spare_in" = some (.ref f_spare_in)
  f_lit_in : Addr
  d_lit_in : FuncData
  F_lit_in : FnP K "lit_in" s_lit_in f_lit_in d_lit_in
  g_lit_in : mg "lit_in" = some (.ref f_lit_in)
  f_out_in : Addr
  d_out_in : FuncData
  F_out_in : FnP K "out_in" s_out_in f_out_in d_out_in
  g_out_in : mg "out_in" = some (.ref f_out_in)
  f_need_prices : Addr
  d_need_prices : FuncData
  F_need_prices : FnP K "need_prices" s_need_prices f_need_prices d_need_prices
  g_need_prices : mg "need_prices" = some (.ref f_need_prices)
  f_cost_in : Addr
  d_cost_in : FuncData
  F_cost_in : FnP K "cost_in" s_cost_in f_cost_in d_cost_in
  g_cost_in : mg "cost_in" = some (.ref f_cost_in)
  f_cheapest : Addr
  d_cheapest : FuncData
  F_cheapest : FnP K "cheapest" s_cheapest f_cheapest d_cheapest
  g_cheapest : mg "cheapest" = some (.ref f_cheapest)
  f_price_paper : Addr
  d_price_paper : FuncData
  F_price_paper : FnP K "price_paper" s_price_paper f_price_paper d_price_paper
  g_price_paper : mg "price_paper" = some (.ref f_price_paper)
  f_dearest : Addr
  d_dearest : FuncData
  F_dearest : FnP K "dearest" s_dearest f_dearest d_dearest
  g_dearest : mg "dearest" = some (.ref f_dearest)
  f_shows_cheap : Addr
  d_shows_cheap : FuncData
  F_shows_cheap : FnP K "shows_cheap" s_shows_cheap f_shows_cheap d_shows_cheap
  g_shows_cheap : mg "shows_cheap" = some (.ref f_shows_cheap)
  f__law_taken : Addr
  d__law_taken : FuncData
  F__law_taken : FnP K "_law_taken" s_law_taken f__law_taken d__law_taken
  g__law_taken : mg "_law_taken" = some (.ref f__law_taken)
  f__law_pick : Addr
  d__law_pick : FuncData
  F__law_pick : FnP K "_law_pick" s_law_pick f__law_pick d__law_pick
  g__law_pick : mg "_law_pick" = some (.ref f__law_pick)
  f__law_web : Addr
  d__law_web : FuncData
  F__law_web : FnP K "_law_web" s_law_web f__law_web d__law_web
  g__law_web : mg "_law_web" = some (.ref f__law_web)
  f__law_burning : Addr
  d__law_burning : FuncData
  F__law_burning : FnP K "_law_burning" s_law_burning f__law_burning d__law_burning
  g__law_burning : mg "_law_burning" = some (.ref f__law_burning)
  f__law_prices : Addr
  d__law_prices : FuncData
  F__law_prices : FnP K "_law_prices" s_law_prices f__law_prices d__law_prices
  g__law_prices : mg "_law_prices" = some (.ref f__law_prices)
  f__law_changed : Addr
  d__law_changed : FuncData
  F__law_changed : FnP K "_law_changed" s_law_changed f__law_changed d__law_changed
  g__law_changed : mg "_law_changed" = some (.ref f__law_changed)
  f__law_light : Addr
  d__law_light : FuncData
  F__law_light : FnP K "_law_light" s_law_light f__law_light d__law_light
  g__law_light : mg "_law_light" = some (.ref f__law_light)
  f__law_quench : Addr
  d__law_quench : FuncData
  F__law_quench : FnP K "_law_quench" s_law_quench f__law_quench d__law_quench
  g__law_quench : mg "_law_quench" = some (.ref f__law_quench)
  f__law_after : Addr
  d__law_after : FuncData
  F__law_after : FnP K "_law_after" s_law_after f__law_after d__law_after
  g__law_after : mg "_law_after" = some (.ref f__law_after)
  f__law_costs : Addr
  d__law_costs : FuncData
  F__law_costs : FnP K "_law_costs" s_law_costs f__law_costs d__law_costs
  g__law_costs : mg "_law_costs" = some (.ref f__law_costs)
  f__law_alike : Addr
  d__law_alike : FuncData
  F__law_alike : FnP K "_law_alike" s_law_alike f__law_alike d__law_alike
  g__law_alike : mg "_law_alike" = some (.ref f__law_alike)
  f__law_spare : Addr
  d__law_spare : FuncData
  F__law_spare : FnP K "_law_spare" s_law_spare f__law_spare d__law_spare
  g__law_spare : mg "_law_spare" = some (.ref f__law_spare)
  f__law_deeds : Addr
  d__law_deeds : FuncData
  F__law_deeds : FnP K "_law_deeds" s_law_deeds f__law_deeds d__law_deeds
  g__law_deeds : mg "_law_deeds" = some (.ref f__law_deeds)
  f__law_word : Addr
  d__law_word : FuncData
  F__law_word : FnP K "_law_word" s_law_word f__law_word d__law_word
  g__law_word : mg "_law_word" = some (.ref f__law_word)
  f__law_is_vector : Addr
  d__law_is_vector : FuncData
  F__law_is_vector : FnP K "_law_is_vector" s_law_is_vector f__law_is_vector d__law_is_vector
  g__law_is_vector : mg "_law_is_vector" = some (.ref f__law_is_vector)
  f__law_leads_to : Addr
  d__law_leads_to : FuncData
  F__law_leads_to : FnP K "_law_leads_to" s_law_leads_to f__law_leads_to d__law_leads_to
  g__law_leads_to : mg "_law_leads_to" = some (.ref f__law_leads_to)
  n_bool : mg "bool" = none
  n_dict : mg "dict" = none
  n_enumerate : mg "enumerate" = none
  n_int : mg "int" = none
  n_isinstance : mg "isinstance" = none
  n_len : mg "len" = none
  n_list : mg "list" = none
  n_min : mg "min" = none
  n_range : mg "range" = none
  n_set : mg "set" = none
  n_sorted : mg "sorted" = none
  n_str : mg "str" = none
  n_sum : mg "sum" = none
  n_tuple : mg "tuple" = none
  n_zip : mg "zip" = none
  k_MOST_LAMPS : Tok
  c_MOST_LAMPS : mg "MOST_LAMPS" = some (.int 9 k_MOST_LAMPS)
  k_MOST_WORD : Tok
  c_MOST_WORD : mg "MOST_WORD" = some (.int 200 k_MOST_WORD)
  k_MOST_PRICE : Tok
  c_MOST_PRICE : mg "MOST_PRICE" = some (.int 1000 k_MOST_PRICE)
section
variable {K : PySem.W.Frag} {mg : PySem.Str → Option Value}
abbrev Txt.v_MOST_LAMPS (_ : Txt K mg) : Int := 9
abbrev Txt.v_MOST_WORD (_ : Txt K mg) : Int := 200
abbrev Txt.v_MOST_PRICE (_ : Txt K mg) : Int := 1000
theorem bn1 {f : Addr} {fd : FuncData} {x : PySem.Str} {st : Stmt} {x0 : PySem.Str} (F : FnP K x st f fd) (h : ∀ (kV doc pm : Value) (an : Option Addr) (cdv ct : Value) (us : List Value), us.length = [x0].length → bindArgs (PySem.W.fnOf x x (defArgs st) (defBody st) (defScope st) .none kV doc pm an cdv ct) ⟨us, []⟩ = pure ([x0].zip us)) : Binds K fd [x0] [] := F.bindsN h
theorem bn2 {f : Addr} {fd : FuncData} {x : PySem.Str} {st : Stmt} {x0 x1 : PySem.Str} (F : FnP K x st f fd) (h : ∀ (kV doc pm : Value) (an : Option Addr) (cdv ct : Value) (us : List Value), us.length = [x0, x1].length → bindArgs (PySem.W.fnOf x x (defArgs st) (defBody st) (defScope st) .none kV doc pm an cdv ct) ⟨us, []⟩ = pure ([x0, x1].zip us)) : Binds K fd [x0, x1] [] := F.bindsN h
theorem bn3 {f : Addr} {fd : FuncData} {x : PySem.Str} {st : Stmt} {x0 x1 x2 : PySem.Str} (F : FnP K x st f fd) (h : ∀ (kV doc pm : Value) (an : Option Addr) (cdv ct : Value) (us : List Value), us.length = [x0, x1, x2].length → bindArgs (PySem.W.fnOf x x (defArgs st) (defBody st) (defScope st) .none kV doc pm an cdv ct) ⟨us, []⟩ = pure ([x0, x1, x2].zip us)) : Binds K fd [x0, x1, x2] [] := F.bindsN h
theorem bn4 {f : Addr} {fd : FuncData} {x : PySem.Str} {st : Stmt} {x0 x1 x2 x3 : PySem.Str} (F : FnP K x st f fd) (h : ∀ (kV doc pm : Value) (an : Option Addr) (cdv ct : Value) (us : List Value), us.length = [x0, x1, x2, x3].length → bindArgs (PySem.W.fnOf x x (defArgs st) (defBody st) (defScope st) .none kV doc pm an cdv ct) ⟨us, []⟩ = pure ([x0, x1, x2, x3].zip us)) : Binds K fd [x0, x1, x2, x3] [] := F.bindsN h
theorem bn5 {f : Addr} {fd : FuncData} {x : PySem.Str} {st : Stmt} {x0 x1 x2 x3 x4 : PySem.Str} (F : FnP K x st f fd) (h : ∀ (kV doc pm : Value) (an : Option Addr) (cdv ct : Value) (us : List Value), us.length = [x0, x1, x2, x3, x4].length → bindArgs (PySem.W.fnOf x x (defArgs st) (defBody st) (defScope st) .none kV doc pm an cdv ct) ⟨us, []⟩ = pure ([x0, x1, x2, x3, x4].zip us)) : Binds K fd [x0, x1, x2, x3, x4] [] := F.bindsN h
end
theorem _root_.L2.Room.units1 {k : Nat} {A : Around} (r : Room k A) : A.units + 1 < cLine := hu_of r
theorem _root_.L2.Room.units65 {k : Nat} {A : Around} (r : Room k A) : A.units + 65 < cLine := by
  have := r.un
  omega
end Hk
set_option Elab.async false
set_option linter.all false
set_option maxRecDepth 100000
set_option maxHeartbeats 4000000
set_option autoImplicit false
/-! HkW: each def keeps its promise (printed by gen/walks.py). -/
namespace Hk
open PySem PySem.Spec PyProof.Rows L2
section
variable {P : Program} {w : World} {K : PySem.W.Frag} {mg : PySem.Str → Option Value} {base : Heap}
theorem sc_is_in : FnScope ["value", "least", "most"] ["value", "least", "most"] (defScope s_is_in) := ⟨rfl, rfl, rfl, by decide +kernel, rfl, by decide +kernel, by decide +kernel⟩
theorem bd_is_in (T : Txt K mg) : Binds K T.d_is_in ["value", "least", "most"] [] := bn3 T.F_is_in fun _ _ _ _ _ _ us hl => match us, hl with | [_, _, _], _ => rfl
theorem ok_is_in (T : Txt K mg) : FnOk P w K mg base CX0 1 T.f_is_in T.d_is_in ["value", "least", "most"] S_is_in := by
  have nd := (sc_is_in).nd
  refine ok_pure (k := 0) T.F_is_in sc_is_in (fun xs z h => by
    obtain ⟨v, lo, hi, rfl, rfl⟩ := h
    rfl) fun cdv A outer s H E hr => ⟨t_is_in P w K, (pss_one (ps_ret (pe_and (pe_callB call_isi (by rfl) T.n_isinstance PyProof.Rows.boot_isinstance (pa_cons (pv 0) (pa_cons (pe_bltn (v := .ty "int") (u := .type "int") (by rfl) T.n_int (by decide +kernel) rfl) pa_nil))) (pe_and (pe_not (pe_callB call_isi (by rfl) T.n_isinstance PyProof.Rows.boot_isinstance (pa_cons (pv 0) (pa_cons (pe_bltn (v := .ty "bool") (u := .type "bool") (by rfl) T.n_bool (by decide +kernel) rfl) pa_nil)))) (pe_one (pe_chain op_le op_le (pv 1) (pv 0) (pv 2))))))), fun xs z h => by
    obtain ⟨v, lo, hi, rfl, rfl⟩ := h
    exact r_is_in v lo hi _⟩
theorem sc_is_arrow : FnScope ["value", "many", "one"] ["value", "many"] (defScope s_is_arrow) := ⟨rfl, rfl, rfl, by decide +kernel, rfl, by decide +kernel, by decide +kernel⟩
theorem bd_is_arrow (T : Txt K mg) : Binds K T.d_is_arrow ["value", "many"] [] := bn2 T.F_is_arrow fun _ _ _ _ _ _ us hl => match us, hl with | [_, _], _ => rfl
theorem ok_is_arrow (T : Txt K mg) : FnOk P w K mg base CX0 2 T.f_is_arrow T.d_is_arrow ["value", "many"] S_is_arrow := by
  have nd := (sc_is_arrow).nd
  refine ok_pure (k := 1) T.F_is_arrow sc_is_arrow (fun xs z h => by
    obtain ⟨p, n, rfl, hp, rfl⟩ := h
    rfl) fun cdv A outer s H E hr => ⟨t_is_arrow P w K, (pss_cons (ps_if (PW.pt (pw_or (pt_not (pt_val (pe_callB call_isi (by rfl) T.n_isinstance PyProof.Rows.boot_isinstance (pa_cons (pv 0) (pa_cons (pe_bltn (v := .ty "tuple") (u := .type "tuple") (by rfl) T.n_tuple (by decide +kernel) rfl) pa_nil))))) (pw_or1 (pt_cmpR (op_neD hr.units) (pe_callB (r := Evl.rLenS K) call_len_seq (by rfl) T.n_len PySem.boot_len (pa_cons (pv 0) pa_nil)) pe_int (nomark _))))) (pss_one (ps_ret pe_bl)) pss_nil)
  (pss_one (ps_ret (pe_and (pe_cmpR (op_eqD hr.units) (pe_lc (own := [("one", 2)]) (g := (gName 2)) (tt := (tNot (tB (tCall S_is_in [] E0 (tCons (tVar 2) (tCons (tC (.int 0)) (tCons (tOp (rI0 fun i j => .int (i - j)) (tVar 1) (tC (.int 1))) tNil))))))) (te := (tVar 2)) rfl nd (by exact (pi_tup (pv 0))) (blkOk_by (by kernel_rfl)) (fun _ _ _ _ _ => by exact (pg_name (i := 2) nd rfl (by first | exact Or.inl rfl | exact Or.inr rfl))) (fun _ _ _ _ _ => by exact (pts_one (pt_not (pt_val (pe_call (ok_is_in T) (hr.mono (by decide)) (by rfl) T.g_is_in T.F_is_in.kp (bd_is_in T) .nil pass0 (pa_cons (pv 2) (pa_cons pe_int (pa_cons (pe_op op_sub (pv 1) pe_int) pa_nil)))))))) (fun _ _ _ _ _ => by exact (pv 2))) (pe_lst pa_nil) (nomark _)) (pe_one (pe_cmpR op_lt (pe_ix ix_seq (pv 0) pe_int (fun _ _ => rfl)) (pe_ix ix_seq (pv 0) pe_int (fun _ _ => rfl)) (nomark _))))))), fun xs z h => by
    obtain ⟨p, n, rfl, hp, rfl⟩ := h
    exact r_is_arrow p n hp _⟩
theorem sc_need_web : FnScope ["web", "index", "one"] ["web"] (defScope s_need_web) := ⟨rfl, rfl, rfl, by decide +kernel, rfl, by decide +kernel, by decide +kernel⟩
theorem bd_need_web (T : Txt K mg) : Binds K T.d_need_web ["web"] [] := bn1 T.F_need_web fun _ _ _ _ _ _ us hl => match us, hl with | [_], _ => rfl
theorem ok_need_web (T : Txt K mg) : FnOk P w K mg base CX0 3 T.f_need_web T.d_need_web ["web"] S_need_web := by
  have nd := (sc_need_web).nd
  refine ok_pure (k := 2) T.F_need_web sc_need_web (fun xs z h => by
    obtain ⟨n, E, rfl, W, rfl⟩ := h
    rfl) fun cdv A outer s H E hr => ⟨t_need_web P w K, (pss_cons (ps_if (PW.pt (pw_or (pt_not (pt_val (pe_callB call_isi (by rfl) T.n_isinstance PyProof.Rows.boot_isinstance (pa_cons (pv 0) (pa_cons (pe_bltn (v := .ty "tuple") (u := .type "tuple") (by rfl) T.n_tuple (by decide +kernel) rfl) pa_nil))))) (pw_or (pt_cmpR (op_neD hr.units) (pe_callB (r := Evl.rLenS K) call_len_seq (by rfl) T.n_len PySem.boot_len (pa_cons (pv 0) pa_nil)) pe_int (nomark _)) (pw_or1 (pt_not (pt_val (pe_callB call_isi (by rfl) T.n_isinstance PyProof.Rows.boot_isinstance (pa_cons (pe_ix ix_seq (pv 0) pe_int (fun _ _ => rfl)) (pa_cons (pe_bltn (v := .ty "tuple") (u := .type "tuple") (by rfl) T.n_tuple (by decide +kernel) rfl) pa_nil))))))))) pss_never pss_nil)
  (pss_cons (ps_if (pt_not (pt_val (pe_call (ok_is_in T) (hr.mono (by decide)) (by rfl) T.g_is_in T.F_is_in.kp (bd_is_in T) .nil pass0 (pa_cons (pe_ix ix_seq (pv 0) pe_int (fun _ _ => rfl)) (pa_cons pe_int (pa_cons (pe_glob (v := .int 9) (by rfl) T.c_MOST_LAMPS ⟨_, rfl⟩) pa_nil)))))) pss_never pss_nil)
  (pss_one (ps_for PassesOwn.never rfl (pi_enumT (by rfl) T.n_enumerate (pa_cons (pe_ix ix_seq (pv 0) pe_int (fun _ _ => rfl)) pa_nil)) (pg_tup rfl (pgs_cons (pg_name (i := 1) nd rfl (by first | exact Or.inl rfl | exact Or.inr rfl)) (pgs_cons (pg_name (i := 2) nd rfl (by first | exact Or.inl rfl | exact Or.inr rfl)) pgs_nil))) (pss_one (ps_if (PW.pt (pw_or (pt_not (pt_val (pe_call (ok_is_arrow T) (hr.mono (by decide)) (by rfl) T.g_is_arrow T.F_is_arrow.kp (bd_is_arrow T) .nil pass0 (pa_cons (pv 2) (pa_cons (pe_ix ix_seq (pv 0) pe_int (fun _ _ => rfl)) pa_nil))))) (pw_or1 (PW.pt (pw_and (pt_cmpR op_gt (pv 1) pe_int (nomark _)) (pw_and1 (pt_cmpR (op_leT hr.units0) (pv 2) (pe_ix ix_seq (pe_ix ix_seq (pv 0) pe_int (fun _ _ => rfl)) (pe_op op_sub (pv 1) pe_int) (fun _ _ => rfl)) (nomark _)))))))) pss_never pss_nil)))))), fun xs z h => by
    obtain ⟨n, E, rfl, W, rfl⟩ := h
    exact r_need_web n E W _ (fun _ => rfl) _⟩
theorem sc_need_burning : FnScope ["web", "burning", "index", "one"] ["web", "burning"] (defScope s_need_burning) := ⟨rfl, rfl, rfl, by decide +kernel, rfl, by decide +kernel, by decide +kernel⟩
theorem bd_need_burning (T : Txt K mg) : Binds K T.d_need_burning ["web", "burning"] [] := bn2 T.F_need_burning fun _ _ _ _ _ _ us hl => match us, hl with | [_, _], _ => rfl
theorem ok_need_burning (T : Txt K mg) : FnOk P w K mg base CX0 2 T.f_need_burning T.d_need_burning ["web", "burning"] S_need_burning := by
  have nd := (sc_need_burning).nd
  refine ok_pure (k := 1) T.F_need_burning sc_need_burning (fun xs z h => by
    obtain ⟨n, E, s, rfl, S, rfl⟩ := h
    rfl) fun cdv A outer s H E hr => ⟨t_need_burning P w K, (pss_cons (ps_if (pt_not (pt_val (pe_callB call_isi (by rfl) T.n_isinstance PyProof.Rows.boot_isinstance (pa_cons (pv 1) (pa_cons (pe_bltn (v := .ty "tuple") (u := .type "tuple") (by rfl) T.n_tuple (by decide +kernel) rfl) pa_nil))))) pss_never pss_nil)
  (pss_one (ps_for PassesOwn.never rfl (pi_enumT (by rfl) T.n_enumerate (pa_cons (pv 1) pa_nil)) (pg_tup rfl (pgs_cons (pg_name (i := 2) nd rfl (by first | exact Or.inl rfl | exact Or.inr rfl)) (pgs_cons (pg_name (i := 3) nd rfl (by first | exact Or.inl rfl | exact Or.inr rfl)) pgs_nil))) (pss_one (ps_if (PW.pt (pw_or (pt_not (pt_val (pe_call (ok_is_in T) (hr.mono (by decide)) (by rfl) T.g_is_in T.F_is_in.kp (bd_is_in T) .nil pass0 (pa_cons (pv 3) (pa_cons pe_int (pa_cons (pe_op op_sub (pe_ix ix_seq (pv 0) pe_int (fun _ _ => rfl)) pe_int) pa_nil)))))) (pw_or1 (PW.pt (pw_and (pt_cmpR op_gt (pv 2) pe_int (nomark _)) (pw_and1 (pt_cmpR op_le (pv 3) (pe_ix ix_seq (pv 1) (pe_op op_sub (pv 2) pe_int) (fun _ _ => rfl)) (nomark _)))))))) pss_never pss_nil))))), fun xs z h => by
    obtain ⟨n, E, s, rfl, S, rfl⟩ := h
    exact r_need_burning n E s S _ (fun _ => rfl) _⟩
theorem sc_need_both : FnScope ["web", "burning"] ["web", "burning"] (defScope s_need_both) := ⟨rfl, rfl, rfl, by decide +kernel, rfl, by decide +kernel, by decide +kernel⟩
theorem bd_need_both (T : Txt K mg) : Binds K T.d_need_both ["web", "burning"] [] := bn2 T.F_need_both fun _ _ _ _ _ _ us hl => match us, hl with | [_, _], _ => rfl
theorem ok_need_both (T : Txt K mg) : FnOk P w K mg base CX0 4 T.f_need_both T.d_need_both ["web", "burning"] S_need_both := by
  have nd := (sc_need_both).nd
  refine ok_pure (k := 3) T.F_need_both sc_need_both (fun xs z h => by
    obtain ⟨n, E, s, rfl, W, S, rfl⟩ := h
    rfl) fun cdv A outer s H E hr => ⟨t_need_both P w K, (pss_cons (ps_expr (pe_call (ok_need_web T) (hr.mono (by decide)) (by rfl) T.g_need_web T.F_need_web.kp (bd_need_web T) .nil pass0 (pa_cons (pv 0) pa_nil)))
  (pss_one (ps_expr (pe_call (ok_need_burning T) (hr.mono (by decide)) (by rfl) T.g_need_burning T.F_need_burning.kp (bd_need_burning T) .nil pass0 (pa_cons (pv 0) (pa_cons (pv 1) pa_nil)))))), fun xs z h => by
    obtain ⟨n, E, s, rfl, W, S, rfl⟩ := h
    exact r_need_both n E s W S _ (fun _ => rfl) _⟩
theorem sc_need_two : FnScope ["web", "one", "other"] ["web", "one", "other"] (defScope s_need_two) := ⟨rfl, rfl, rfl, by decide +kernel, rfl, by decide +kernel, by decide +kernel⟩
theorem bd_need_two (T : Txt K mg) : Binds K T.d_need_two ["web", "one", "other"] [] := bn3 T.F_need_two fun _ _ _ _ _ _ us hl => match us, hl with | [_, _, _], _ => rfl
theorem ok_need_two (T : Txt K mg) : FnOk P w K mg base CX0 5 T.f_need_two T.d_need_two ["web", "one", "other"] S_need_two := by
  have nd := (sc_need_two).nd
  refine ok_pure (k := 4) T.F_need_two sc_need_two (fun xs z h => by
    obtain ⟨n, E, s, t, rfl, W, S, S2, rfl⟩ := h
    rfl) fun cdv A outer s H E hr => ⟨t_need_two P w K, (pss_cons (ps_expr (pe_call (ok_need_both T) (hr.mono (by decide)) (by rfl) T.g_need_both T.F_need_both.kp (bd_need_both T) .nil pass0 (pa_cons (pv 0) (pa_cons (pv 1) pa_nil))))
  (pss_one (ps_expr (pe_call (ok_need_burning T) (hr.mono (by decide)) (by rfl) T.g_need_burning T.F_need_burning.kp (bd_need_burning T) .nil pass0 (pa_cons (pv 0) (pa_cons (pv 2) pa_nil)))))), fun xs z h => by
    obtain ⟨n, E, s, t, rfl, W, S, S2, rfl⟩ := h
    exact r_need_two n E s t W S S2 _ (fun _ => rfl) _⟩
theorem sc_ahead_in : FnScope ["web", "lamp", "one", "other"] ["web", "lamp"] (defScope s_ahead_in) := ⟨rfl, rfl, rfl, by decide +kernel, rfl, by decide +kernel, by decide +kernel⟩
theorem bd_ahead_in (T : Txt K mg) : Binds K T.d_ahead_in ["web", "lamp"] [] := bn2 T.F_ahead_in fun _ _ _ _ _ _ us hl => match us, hl with | [_, _], _ => rfl
theorem ok_ahead_in (T : Txt K mg) : FnOk P w K mg base CX0 1 T.f_ahead_in T.d_ahead_in ["web", "lamp"] S_ahead_in := by
  have nd := (sc_ahead_in).nd
  refine ok_pure (k := 0) T.F_ahead_in sc_ahead_in (fun xs z h => by
    obtain ⟨n, E, l, rfl, W, rfl⟩ := h
    rfl) fun cdv A outer s H E hr => ⟨t_ahead_in P w K, (pss_one (ps_ret (pe_lc (own := [("one", 2), ("other", 3)]) (g := (gTup K 2 (gCons (gName 2) (gCons (gName 3) gNil)))) (tt := (tTest (tOp (rEqD K) (tVar 3) (tVar 1)))) (te := (tVar 2)) rfl nd (by exact (pi_tup (pe_ix ix_seq (pv 0) pe_int (fun _ _ => rfl)))) (blkOk_by (by kernel_rfl)) (fun _ _ _ _ _ => by exact (pg_tup rfl (pgs_cons (pg_name (i := 2) nd rfl (by first | exact Or.inl rfl | exact Or.inr rfl)) (pgs_cons (pg_name (i := 3) nd rfl (by first | exact Or.inl rfl | exact Or.inr rfl)) pgs_nil)))) (fun _ _ _ _ _ => by exact (pts_one (pt_cmpR (op_eqD hr.units) (pv 3) (pv 1) (nomark _)))) (fun _ _ _ _ _ => by exact (pv 2))))), fun xs z h => by
    obtain ⟨n, E, l, rfl, W, rfl⟩ := h
    exact r_ahead_in n E l W _⟩
theorem sc_behind_in : FnScope ["web", "lamp", "one", "other"] ["web", "lamp"] (defScope s_behind_in) := ⟨rfl, rfl, rfl, by decide +kernel, rfl, by decide +kernel, by decide +kernel⟩
theorem bd_behind_in (T : Txt K mg) : Binds K T.d_behind_in ["web", "lamp"] [] := bn2 T.F_behind_in fun _ _ _ _ _ _ us hl => match us, hl with | [_, _], _ => rfl
theorem ok_behind_in (T : Txt K mg) : FnOk P w K mg base CX0 1 T.f_behind_in T.d_behind_in ["web", "lamp"] S_behind_in := by
  have nd := (sc_behind_in).nd
  refine ok_pure (k := 0) T.F_behind_in sc_behind_in (fun xs z h => by
    obtain ⟨n, E, l, rfl, W, rfl⟩ := h
    rfl) fun cdv A outer s H E hr => ⟨t_behind_in P w K, (pss_one (ps_ret (pe_lc (own := [("one", 2), ("other", 3)]) (g := (gTup K 2 (gCons (gName 2) (gCons (gName 3) gNil)))) (tt := (tTest (tOp (rEqD K) (tVar 2) (tVar 1)))) (te := (tVar 3)) rfl nd (by exact (pi_tup (pe_ix ix_seq (pv 0) pe_int (fun _ _ => rfl)))) (blkOk_by (by kernel_rfl)) (fun _ _ _ _ _ => by exact (pg_tup rfl (pgs_cons (pg_name (i := 2) nd rfl (by first | exact Or.inl rfl | exact Or.inr rfl)) (pgs_cons (pg_name (i := 3) nd rfl (by first | exact Or.inl rfl | exact Or.inr rfl)) pgs_nil)))) (fun _ _ _ _ _ => by exact (pts_one (pt_cmpR (op_eqD hr.units) (pv 2) (pv 1) (nomark _)))) (fun _ _ _ _ _ => by exact (pv 3))))), fun xs z h => by
    obtain ⟨n, E, l, rfl, W, rfl⟩ := h
    exact r_behind_in n E l W _⟩
theorem sc_standings : FnScope ["lamps", "found", "lamp", "one"] ["lamps"] (defScope s_standings) := ⟨rfl, rfl, rfl, by decide +kernel, rfl, by decide +kernel, by decide +kernel⟩
theorem bd_standings (T : Txt K mg) : Binds K T.d_standings ["lamps"] [] := bn1 T.F_standings fun _ _ _ _ _ _ us hl => match us, hl with | [_], _ => rfl
theorem ok_standings (T : Txt K mg) : FnOk P w K mg base CX0 1 T.f_standings T.d_standings ["lamps"] S_standings := by
  have nd := (sc_standings).nd
  refine ok_pure (k := 0) T.F_standings sc_standings (fun xs z h => by
    obtain ⟨n, hn, rfl, rfl⟩ := h
    rfl) fun cdv A outer s H E hr => ⟨t_standings P w K, (pss_cons (ps_set (i := 1) nd rfl (by first | exact Or.inl rfl | exact Or.inr rfl) (pe_lst (pa_cons (pe_tup pa_nil) pa_nil)))
  (pss_cons (ps_for PassesOwn.never rfl (pi_list (pv 0)) (pg_name (i := 2) nd rfl (by first | exact Or.inl rfl | exact Or.inr rfl)) (pss_one (ps_set (i := 1) nd rfl (by first | exact Or.inl rfl | exact Or.inr rfl) (pe_op op_cat (pv 1) (pe_lc (own := [("one", 3)]) (g := (gName 3)) (tt := tYes) (te := (tOp (rCatA K) (tVar 3) (tTup (tCons (tVar 2) tNil)))) rfl nd (by exact (pi_list (pv 1))) (blkOk_by (by kernel_rfl)) (fun _ _ _ _ _ => by exact (pg_name (i := 3) nd rfl (by first | exact Or.inl rfl | exact Or.inr rfl))) (fun _ _ _ _ _ => by exact pts_nil) (fun _ _ _ _ _ => by exact (pe_op op_catA (pv 3) (pe_tup (pa_cons (pv 2) pa_nil)))))))))
  (pss_one (ps_ret (pe_callB (cr_sortedU hr.units) (by rfl) T.n_sorted PyProof.Rows.boot_sorted (pa_cons (pv 1) pa_nil)))))), fun xs z h => by
    obtain ⟨n, hn, rfl, rfl⟩ := h
    exact r_standings n hn _⟩
theorem sc_light_in : FnScope ["web", "burning", "barred", "one", "other", "k"] ["web", "burning"] (defScope s_light_in) := ⟨rfl, rfl, rfl, by decide +kernel, rfl, by decide +kernel, by decide +kernel⟩
theorem bd_light_in (T : Txt K mg) : Binds K T.d_light_in ["web", "burning"] [] := bn2 T.F_light_in fun _ _ _ _ _ _ us hl => match us, hl with | [_, _], _ => rfl
theorem ok_light_in (T : Txt K mg) : FnOk P w K mg base CX0 1 T.f_light_in T.d_light_in ["web", "burning"] S_light_in := by
  have nd := (sc_light_in).nd
  refine ok_pure (k := 0) T.F_light_in sc_light_in (fun xs z h => by
    obtain ⟨n, E, b, rfl, W, S, rfl⟩ := h
    rfl) fun cdv A outer s H E hr => ⟨t_light_in P w K, (pss_cons (ps_set (i := 2) nd rfl (by first | exact Or.inl rfl | exact Or.inr rfl) (pe_lc (own := [("one", 3), ("other", 4)]) (g := (gTup K 2 (gCons (gName 3) (gCons (gName 4) gNil)))) (tt := (tTest (tOp (rIn K true) (tVar 3) (tVar 1)))) (te := (tVar 4)) rfl nd (by exact (pi_tup (pe_ix ix_seq (pv 0) pe_int (fun _ _ => rfl)))) (blkOk_by (by kernel_rfl)) (fun _ _ _ _ _ => by exact (pg_tup rfl (pgs_cons (pg_name (i := 3) nd rfl (by first | exact Or.inl rfl | exact Or.inr rfl)) (pgs_cons (pg_name (i := 4) nd rfl (by first | exact Or.inl rfl | exact Or.inr rfl)) pgs_nil)))) (fun _ _ _ _ _ => by exact (pts_one (pt_cmpR op_notIn_seq (pv 3) (pv 1) (by rfl)))) (fun _ _ _ _ _ => by exact (pv 4))))
  (pss_one (ps_ret (pe_lc (own := [("k", 5)]) (g := (gName 5)) (tt := (tAnd (tTest (tOp (rIn K true) (tVar 5) (tVar 1))) (tTest (tOp (rIn K true) (tVar 5) (tVar 2))))) (te := (tVar 5)) rfl nd (by exact (pi_range1 (by rfl) T.n_range (pa_cons (pe_ix ix_seq (pv 0) pe_int (fun _ _ => rfl)) pa_nil))) (blkOk_by (by kernel_rfl)) (fun _ _ _ _ _ => by exact (pg_name (i := 5) nd rfl (by first | exact Or.inl rfl | exact Or.inr rfl))) (fun _ _ _ _ _ => by exact (pts_one (PW.pt (pw_and (pt_cmpR op_notIn_seq (pv 5) (pv 1) (by rfl)) (pw_and1 (pt_cmpR op_notIn_seq (pv 5) (pv 2) (by rfl))))))) (fun _ _ _ _ _ => by exact (pv 5)))))), fun xs z h => by
    obtain ⟨n, E, b, rfl, W, S, rfl⟩ := h
    exact r_light_in n E b W S _⟩
theorem sc_quench_in : FnScope ["web", "burning", "barred", "one", "other", "k"] ["web", "burning"] (defScope s_quench_in) := ⟨rfl, rfl, rfl, by decide +kernel, rfl, by decide +kernel, by decide +kernel⟩
theorem bd_quench_in (T : Txt K mg) : Binds K T.d_quench_in ["web", "burning"] [] := bn2 T.F_quench_in fun _ _ _ _ _ _ us hl => match us, hl with | [_, _], _ => rfl
theorem ok_quench_in (T : Txt K mg) : FnOk P w K mg base CX0 1 T.f_quench_in T.d_quench_in ["web", "burning"] S_quench_in := by
  have nd := (sc_quench_in).nd
  refine ok_pure (k := 0) T.F_quench_in sc_quench_in (fun xs z h => by
    obtain ⟨n, E, b, rfl, W, S, rfl⟩ := h
    rfl) fun cdv A outer s H E hr => ⟨t_quench_in P w K, (pss_cons (ps_set (i := 2) nd rfl (by first | exact Or.inl rfl | exact Or.inr rfl) (pe_lc (own := [("one", 3), ("other", 4)]) (g := (gTup K 2 (gCons (gName 3) (gCons (gName 4) gNil)))) (tt := (tTest (tOp (rIn K true) (tVar 4) (tVar 1)))) (te := (tVar 3)) rfl nd (by exact (pi_tup (pe_ix ix_seq (pv 0) pe_int (fun _ _ => rfl)))) (blkOk_by (by kernel_rfl)) (fun _ _ _ _ _ => by exact (pg_tup rfl (pgs_cons (pg_name (i := 3) nd rfl (by first | exact Or.inl rfl | exact Or.inr rfl)) (pgs_cons (pg_name (i := 4) nd rfl (by first | exact Or.inl rfl | exact Or.inr rfl)) pgs_nil)))) (fun _ _ _ _ _ => by exact (pts_one (pt_cmpR op_notIn_seq (pv 4) (pv 1) (by rfl)))) (fun _ _ _ _ _ => by exact (pv 3))))
  (pss_one (ps_ret (pe_lc (own := [("k", 5)]) (g := (gName 5)) (tt := (tTest (tOp (rIn K true) (tVar 5) (tVar 2)))) (te := (tVar 5)) rfl nd (by exact (pi_tup (pv 1))) (blkOk_by (by kernel_rfl)) (fun _ _ _ _ _ => by exact (pg_name (i := 5) nd rfl (by first | exact Or.inl rfl | exact Or.inr rfl))) (fun _ _ _ _ _ => by exact (pts_one (pt_cmpR op_notIn_seq (pv 5) (pv 2) (by rfl)))) (fun _ _ _ _ _ => by exact (pv 5)))))), fun xs z h => by
    obtain ⟨n, E, b, rfl, W, S, rfl⟩ := h
    exact r_quench_in n E b W S _⟩
theorem sc_changed : FnScope ["burning", "lamp", "k"] ["burning", "lamp"] (defScope s_changed) := ⟨rfl, rfl, rfl, by decide +kernel, rfl, by decide +kernel, by decide +kernel⟩
theorem bd_changed (T : Txt K mg) : Binds K T.d_changed ["burning", "lamp"] [] := bn2 T.F_changed fun _ _ _ _ _ _ us hl => match us, hl with | [_, _], _ => rfl
theorem ok_changed (T : Txt K mg) : FnOk P w K mg base CX0 1 T.f_changed T.d_changed ["burning", "lamp"] S_changed := by
  have nd := (sc_changed).nd
  refine ok_pure (k := 0) T.F_changed sc_changed (fun xs z h => by
    obtain ⟨n, b, l, rfl, S, hl, hn, rfl⟩ := h
    rfl) fun cdv A outer s H E hr => ⟨t_changed P w K, (pss_cons (ps_if (pt_cmpR op_in_seq (pv 1) (pv 0) (by rfl)) (pss_one (ps_ret (pe_callTy (r := rTupleS K) call_tuple_of (by rfl) T.n_tuple PyProof.Rows.boot_tuple (pa_cons (pe_lc (own := [("k", 2)]) (g := (gName 2)) (tt := (tTest (tOp (rNeD K) (tVar 2) (tVar 1)))) (te := (tVar 2)) rfl nd (by exact (pi_tup (pv 0))) (blkOk_by (by kernel_rfl)) (fun _ _ _ _ _ => by exact (pg_name (i := 2) nd rfl (by first | exact Or.inl rfl | exact Or.inr rfl))) (fun _ _ _ _ _ => by exact (pts_one (pt_cmpR (op_neD hr.units) (pv 2) (pv 1) (nomark _)))) (fun _ _ _ _ _ => by exact (pv 2))) pa_nil)))) pss_nil)
  (pss_one (ps_ret (pe_callTy (r := rTupleS K) call_tuple_of (by rfl) T.n_tuple PyProof.Rows.boot_tuple (pa_cons (pe_callB cr_sortedTI (by rfl) T.n_sorted PyProof.Rows.boot_sorted (pa_cons (pe_op op_catA (pv 0) (pe_tup (pa_cons (pv 1) pa_nil))) pa_nil)) pa_nil))))), fun xs z h => by
    obtain ⟨n, b, l, rfl, S, hl, hn, rfl⟩ := h
    exact r_changed n b l S hl hn _⟩
theorem sc_doable : FnScope ["web", "burning"] ["web", "burning"] (defScope s_doable) := ⟨rfl, rfl, rfl, by decide +kernel, rfl, by decide +kernel, by decide +kernel⟩
theorem bd_doable (T : Txt K mg) : Binds K T.d_doable ["web", "burning"] [] := bn2 T.F_doable fun _ _ _ _ _ _ us hl => match us, hl with | [_, _], _ => rfl
theorem ok_doable (T : Txt K mg) : FnOk P w K mg base CX0 2 T.f_doable T.d_doable ["web", "burning"] S_doable := by
  have nd := (sc_doable).nd
  refine ok_pure (k := 1) T.F_doable sc_doable (fun xs z h => by
    obtain ⟨n, E, b, rfl, W, S, rfl⟩ := h
    rfl) fun cdv A outer s H E hr => ⟨t_doable P w K, (pss_one (ps_ret (pe_callB cr_sortedI (by rfl) T.n_sorted PyProof.Rows.boot_sorted (pa_cons (pe_op op_cat (pe_call (ok_light_in T) (hr.mono (by decide)) (by rfl) T.g_light_in T.F_light_in.kp (bd_light_in T) .nil pass0 (pa_cons (pv 0) (pa_cons (pv 1) pa_nil))) (pe_call (ok_quench_in T) (hr.mono (by decide)) (by rfl) T.g_quench_in T.F_quench_in.kp (bd_quench_in T) .nil pass0 (pa_cons (pv 0) (pa_cons (pv 1) pa_nil)))) pa_nil)))), fun xs z h => by
    obtain ⟨n, E, b, rfl, W, S, rfl⟩ := h
    exact r_doable n E b W S _⟩
theorem sc_is_lamps : FnScope ["web", "value", "one"] ["web", "value"] (defScope s_is_lamps) := ⟨rfl, rfl, rfl, by decide +kernel, rfl, by decide +kernel, by decide +kernel⟩
theorem bd_is_lamps (T : Txt K mg) : Binds K T.d_is_lamps ["web", "value"] [] := bn2 T.F_is_lamps fun _ _ _ _ _ _ us hl => match us, hl with | [_, _], _ => rfl
theorem ok_is_lamps (T : Txt K mg) : FnOk P w K mg base CX0 2 T.f_is_lamps T.d_is_lamps ["web", "value"] S_is_lamps := by
  have nd := (sc_is_lamps).nd
  refine ok_pure (k := 1) T.F_is_lamps sc_is_lamps (fun xs z h => by
    obtain ⟨n, E, v, rfl, O, rfl⟩ := h
    rfl) fun cdv A outer s H E hr => ⟨t_is_lamps P w K, (pss_cons (ps_if (PW.pt (pw_or (pt_not (pt_val (pe_callB call_isi (by rfl) T.n_isinstance PyProof.Rows.boot_isinstance (pa_cons (pv 1) (pa_cons (pe_bltn (v := .ty "tuple") (u := .type "tuple") (by rfl) T.n_tuple (by decide +kernel) rfl) pa_nil))))) (pw_or1 (pt_cmpR op_gt (pe_callB (r := Evl.rLenS K) call_len_seq (by rfl) T.n_len PySem.boot_len (pa_cons (pv 1) pa_nil)) (pe_glob (v := .int 200) (by rfl) T.c_MOST_WORD ⟨_, rfl⟩) (nomark _))))) (pss_one (ps_ret pe_bl)) pss_nil)
  (pss_one (ps_ret (pe_cmpR (op_eqD hr.units) (pe_lc (own := [("one", 2)]) (g := (gName 2)) (tt := (tNot (tB (tCall S_is_in [] E0 (tCons (tVar 2) (tCons (tC (.int 0)) (tCons (tOp (rI0 fun i j => .int (i - j)) (tOp (rIx K) (tVar 0) (tC (.int 0))) (tC (.int 1))) tNil))))))) (te := (tVar 2)) rfl nd (by exact (pi_tup (pv 1))) (blkOk_by (by kernel_rfl)) (fun _ _ _ _ _ => by exact (pg_name (i := 2) nd rfl (by first | exact Or.inl rfl | exact Or.inr rfl))) (fun _ _ _ _ _ => by exact (pts_one (pt_not (pt_val (pe_call (ok_is_in T) (hr.mono (by decide)) (by rfl) T.g_is_in T.F_is_in.kp (bd_is_in T) .nil pass0 (pa_cons (pv 2) (pa_cons pe_int (pa_cons (pe_op op_sub (pe_ix ix_seq (pv 0) pe_int (fun _ _ => rfl)) pe_int) pa_nil)))))))) (fun _ _ _ _ _ => by exact (pv 2))) (pe_lst pa_nil) (nomark _))))), fun xs z h => by
    obtain ⟨n, E, v, rfl, O, rfl⟩ := h
    exact r_is_lamps n E v O _⟩
theorem sc_line_in : FnScope ["web", "burning", "word", "found", "lamp"] ["web", "burning", "word"] (defScope s_line_in) := ⟨rfl, rfl, rfl, by decide +kernel, rfl, by decide +kernel, by decide +kernel⟩
theorem bd_line_in (T : Txt K mg) : Binds K T.d_line_in ["web", "burning", "word"] [] := bn3 T.F_line_in fun _ _ _ _ _ _ us hl => match us, hl with | [_, _, _], _ => rfl
theorem ok_line_in (T : Txt K mg) : FnOk P w K mg base CX0 3 T.f_line_in T.d_line_in ["web", "burning", "word"] S_line_in := by
  have nd := (sc_line_in).nd
  refine ok_pure (k := 2) T.F_line_in sc_line_in (fun xs z h => by
    obtain ⟨n, E, b, ws, rfl, W, S, hw, hl, rfl⟩ := h
    rfl) fun cdv A outer s H E hr => ⟨t_line_in P w K, (pss_cons (ps_set (i := 3) nd rfl (by first | exact Or.inl rfl | exact Or.inr rfl) (pe_lst (pa_cons (pv 1) pa_nil)))
  (pss_cons (ps_for PassesOwn.never rfl (pi_tup (pv 2)) (pg_name (i := 4) nd rfl (by first | exact Or.inl rfl | exact Or.inr rfl)) (pss_cons (ps_if (pt_cmpR op_notIn_seq (pv 4) (pe_call (ok_doable T) (hr.mono (by decide)) (by rfl) T.g_doable T.F_doable.kp (bd_doable T) .nil pass0 (pa_cons (pv 0) (pa_cons (pe_ix ix_seq (pv 3) (pe_un un_neg pe_int) (fun _ _ => rfl)) pa_nil))) (by rfl)) (pss_one (ps_ret (pv 3))) pss_nil)
  (pss_one (ps_expr (pe_bm PySem.F.plainAttrs_list PySem.F.slot_list_append PySem.F.type_list_append mt_append (pv 3) (pa_cons (pe_call (ok_changed T) (hr.mono (by decide)) (by rfl) T.g_changed T.F_changed.kp (bd_changed T) .nil pass0 (pa_cons (pe_ix ix_seq (pv 3) (pe_un un_neg pe_int) (fun _ _ => rfl)) (pa_cons (pv 4) pa_nil))) pa_nil))))))
  (pss_one (ps_ret (pv 3))))), fun xs z h => by
    obtain ⟨n, E, b, ws, rfl, W, S, hw, hl, rfl⟩ := h
    exact r_line_in n E b ws W S hw hl _⟩
theorem sc_sides : FnScope ["one", "other", "k"] ["one", "other"] (defScope s_sides) := ⟨rfl, rfl, rfl, by decide +kernel, rfl, by decide +kernel, by decide +kernel⟩
theorem bd_sides (T : Txt K mg) : Binds K T.d_sides ["one", "other"] [] := bn2 T.F_sides fun _ _ _ _ _ _ us hl => match us, hl with | [_, _], _ => rfl
theorem ok_sides (T : Txt K mg) : FnOk P w K mg base CX0 1 T.f_sides T.d_sides ["one", "other"] S_sides := by
  have nd := (sc_sides).nd
  refine ok_pure (k := 0) T.F_sides sc_sides (fun xs z h => by
    obtain ⟨n, one, other, rfl, hn, S, S2, rfl⟩ := h
    rfl) fun cdv A outer s H E hr => ⟨t_sides P w K, (pss_one (ps_ret (pe_tup (pa_cons (pe_lc (own := [("k", 2)]) (g := (gName 2)) (tt := (tTest (tOp (rIn K true) (tVar 2) (tVar 0)))) (te := (tVar 2)) rfl nd (by exact (pi_tup (pv 1))) (blkOk_by (by kernel_rfl)) (fun _ _ _ _ _ => by exact (pg_name (i := 2) nd rfl (by first | exact Or.inl rfl | exact Or.inr rfl))) (fun _ _ _ _ _ => by exact (pts_one (pt_cmpR op_notIn_seq (pv 2) (pv 0) (by rfl)))) (fun _ _ _ _ _ => by exact (pv 2))) (pa_cons (pe_lc (own := [("k", 2)]) (g := (gName 2)) (tt := (tTest (tOp (rIn K true) (tVar 2) (tVar 1)))) (te := (tVar 2)) rfl nd (by exact (pi_tup (pv 0))) (blkOk_by (by kernel_rfl)) (fun _ _ _ _ _ => by exact (pg_name (i := 2) nd rfl (by first | exact Or.inl rfl | exact Or.inr rfl))) (fun _ _ _ _ _ => by exact (pts_one (pt_cmpR op_notIn_seq (pv 2) (pv 1) (by rfl)))) (fun _ _ _ _ _ => by exact (pv 2))) pa_nil))))), fun xs z h => by
    obtain ⟨n, one, other, rfl, hn, S, S2, rfl⟩ := h
    exact r_sides n one other hn S S2 _⟩
theorem sc_needs_of : FnScope ["web", "one", "other", "some", "fresh", "old", "found", "lamp", "k"] ["web", "one", "other", "some"] (defScope s_needs_of) := ⟨rfl, rfl, rfl, by decide +kernel, rfl, by decide +kernel, by decide +kernel⟩
theorem bd_needs_of (T : Txt K mg) : Binds K T.d_needs_of ["web", "one", "other", "some"] [] := bn4 T.F_needs_of fun _ _ _ _ _ _ us hl => match us, hl with | [_, _, _, _], _ => rfl
theorem ok_needs_of (T : Txt K mg) : FnOk P w K mg base CX0 2 T.f_needs_of T.d_needs_of ["web", "one", "other", "some"] S_needs_of := by
  have nd := (sc_needs_of).nd
  refine ok_pure (k := 1) T.F_needs_of sc_needs_of (fun xs z h => by
    obtain ⟨n, E, one, other, some, rfl, W, S1, S2, S, hd, rfl⟩ := h
    rfl) fun cdv A outer s H E hr => ⟨t_needs_of P w K, (pss_cons (ps_asg (pe_call (ok_sides T) (hr.mono (by decide)) (by rfl) T.g_sides T.F_sides.kp (bd_sides T) .nil pass0 (pa_cons (pv 1) (pa_cons (pv 2) pa_nil))) (pg_tup rfl (pgs_cons (pg_name (i := 4) nd rfl (by first | exact Or.inl rfl | exact Or.inr rfl)) (pgs_cons (pg_name (i := 5) nd rfl (by first | exact Or.inl rfl | exact Or.inr rfl)) pgs_nil))))
  (pss_cons (ps_set (i := 6) nd rfl (by first | exact Or.inl rfl | exact Or.inr rfl) (pe_lst pa_nil))
  (pss_cons (ps_for PassesOwn.never rfl (pi_list (pe_op op_cat (pv 4) (pv 3))) (pg_name (i := 7) nd rfl (by first | exact Or.inl rfl | exact Or.inr rfl)) (pss_one (ps_set (i := 6) nd rfl (by first | exact Or.inl rfl | exact Or.inr rfl) (pe_op op_cat (pv 6) (pe_call (ok_ahead_in T) (hr.mono (by decide)) (by rfl) T.g_ahead_in T.F_ahead_in.kp (bd_ahead_in T) .nil pass0 (pa_cons (pv 0) (pa_cons (pv 7) pa_nil)))))))
  (pss_cons (ps_for PassesOwn.never rfl (pi_list (pe_op op_cat (pv 5) (pv 3))) (pg_name (i := 7) nd rfl (by first | exact Or.inl rfl | exact Or.inr rfl)) (pss_one (ps_set (i := 6) nd rfl (by first | exact Or.inl rfl | exact Or.inr rfl) (pe_op op_cat (pv 6) (pe_call (ok_behind_in T) (hr.mono (by decide)) (by rfl) T.g_behind_in T.F_behind_in.kp (bd_behind_in T) .nil pass0 (pa_cons (pv 0) (pa_cons (pv 7) pa_nil)))))))
  (pss_one (ps_ret (pe_callB (cr_sortedSet rfl) (by rfl) T.n_sorted PyProof.Rows.boot_sorted (pa_cons (pe_callTy (cr_setL rfl) (by rfl) T.n_set PyProof.Rows.boot_set (pa_cons (pe_lc (own := [("k", 8)]) (g := (gName 8)) (tt := (tAnd (tTest (tOp (rIn K true) (tVar 8) (tVar 1))) (tTest (tOp (rIn K true) (tVar 8) (tVar 2))))) (te := (tVar 8)) rfl nd (by exact (pi_list (pv 6))) (blkOk_by (by kernel_rfl)) (fun _ _ _ _ _ => by exact (pg_name (i := 8) nd rfl (by first | exact Or.inl rfl | exact Or.inr rfl))) (fun _ _ _ _ _ => by exact (pts_one (PW.pt (pw_and (pt_cmpR op_notIn_seq (pv 8) (pv 1) (by rfl)) (pw_and1 (pt_cmpR op_notIn_seq (pv 8) (pv 2) (by rfl))))))) (fun _ _ _ _ _ => by exact (pv 8))) pa_nil)) pa_nil)))))))), fun xs z h => by
    obtain ⟨n, E, one, other, some, rfl, W, S1, S2, S, hd, rfl⟩ := h
    exact r_needs_of n E one other some W S1 S2 S hd _⟩
theorem sc_spare_in : FnScope ["web", "one", "other", "found"] ["web", "one", "other"] (defScope s_spare_in) := ⟨rfl, rfl, rfl, by decide +kernel, rfl, by decide +kernel, by decide +kernel⟩
theorem bd_spare_in (T : Txt K mg) : Binds K T.d_spare_in ["web", "one", "other"] [] := bn3 T.F_spare_in fun _ _ _ _ _ _ us hl => match us, hl with | [_, _, _], _ => rfl
theorem ok_spare_in (T : Txt K mg) : FnOk P w K mg base CX0 3 T.f_spare_in T.d_spare_in ["web", "one", "other"] S_spare_in := by
  have nd := (sc_spare_in).nd
  refine ok_pure (k := 2) T.F_spare_in sc_spare_in (fun xs z h => by
    obtain ⟨n, E, one, other, rfl, W, S1, S2, rfl⟩ := h
    rfl) fun cdv A outer s H E hr => ⟨t_spare_in P w K, (pss_cons (ps_set (i := 3) nd rfl (by first | exact Or.inl rfl | exact Or.inr rfl) (pe_lst pa_nil))
  (pss_cons (ps_while PassesOwn.never (pt_cmpR (op_neD hr.units) (pe_call (ok_needs_of T) (hr.mono (by decide)) (by rfl) T.g_needs_of T.F_needs_of.kp (bd_needs_of T) .nil pass0 (pa_cons (pv 0) (pa_cons (pv 1) (pa_cons (pv 2) (pa_cons (pv 3) pa_nil))))) (pv 3) (nomark _)) (pss_one (ps_set (i := 3) nd rfl (by first | exact Or.inl rfl | exact Or.inr rfl) (pe_callB (cr_sortedSet rfl) (by rfl) T.n_sorted PyProof.Rows.boot_sorted (pa_cons (pe_callTy (cr_setL rfl) (by rfl) T.n_set PyProof.Rows.boot_set (pa_cons (pe_op op_cat (pv 3) (pe_call (ok_needs_of T) (hr.mono (by decide)) (by rfl) T.g_needs_of T.F_needs_of.kp (bd_needs_of T) .nil pass0 (pa_cons (pv 0) (pa_cons (pv 1) (pa_cons (pv 2) (pa_cons (pv 3) pa_nil)))))) pa_nil)) pa_nil)))))
  (pss_one (ps_ret (pv 3))))), fun xs z h => by
    obtain ⟨n, E, one, other, rfl, W, S1, S2, rfl⟩ := h
    exact r_spare_in n E one other W S1 S2 _⟩
theorem sc_lit_in : FnScope ["web", "one", "other"] ["web", "one", "other"] (defScope s_lit_in) := ⟨rfl, rfl, rfl, by decide +kernel, rfl, by decide +kernel, by decide +kernel⟩
theorem bd_lit_in (T : Txt K mg) : Binds K T.d_lit_in ["web", "one", "other"] [] := bn3 T.F_lit_in fun _ _ _ _ _ _ us hl => match us, hl with | [_, _, _], _ => rfl
theorem ok_lit_in (T : Txt K mg) : FnOk P w K mg base CX0 4 T.f_lit_in T.d_lit_in ["web", "one", "other"] S_lit_in := by
  have nd := (sc_lit_in).nd
  refine ok_pure (k := 3) T.F_lit_in sc_lit_in (fun xs z h => by
    obtain ⟨n, E, one, other, rfl, W, S1, S2, rfl⟩ := h
    rfl) fun cdv A outer s H E hr => ⟨t_lit_in P w K, (pss_one (ps_ret (pe_callB cr_sortedI (by rfl) T.n_sorted PyProof.Rows.boot_sorted (pa_cons (pe_op op_cat (pe_ix ix_seq (pe_call (ok_sides T) (hr.mono (by decide)) (by rfl) T.g_sides T.F_sides.kp (bd_sides T) .nil pass0 (pa_cons (pv 1) (pa_cons (pv 2) pa_nil))) pe_int (fun _ _ => rfl)) (pe_call (ok_spare_in T) (hr.mono (by decide)) (by rfl) T.g_spare_in T.F_spare_in.kp (bd_spare_in T) .nil pass0 (pa_cons (pv 0) (pa_cons (pv 1) (pa_cons (pv 2) pa_nil))))) pa_nil)))), fun xs z h => by
    obtain ⟨n, E, one, other, rfl, W, S1, S2, rfl⟩ := h
    exact r_lit_in n E one other W S1 S2 _⟩
theorem sc_out_in : FnScope ["web", "one", "other"] ["web", "one", "other"] (defScope s_out_in) := ⟨rfl, rfl, rfl, by decide +kernel, rfl, by decide +kernel, by decide +kernel⟩
theorem bd_out_in (T : Txt K mg) : Binds K T.d_out_in ["web", "one", "other"] [] := bn3 T.F_out_in fun _ _ _ _ _ _ us hl => match us, hl with | [_, _, _], _ => rfl
theorem ok_out_in (T : Txt K mg) : FnOk P w K mg base CX0 4 T.f_out_in T.d_out_in ["web", "one", "other"] S_out_in := by
  have nd := (sc_out_in).nd
  refine ok_pure (k := 3) T.F_out_in sc_out_in (fun xs z h => by
    obtain ⟨n, E, one, other, rfl, W, S1, S2, rfl⟩ := h
    rfl) fun cdv A outer s H E hr => ⟨t_out_in P w K, (pss_one (ps_ret (pe_callB cr_sortedI (by rfl) T.n_sorted PyProof.Rows.boot_sorted (pa_cons (pe_op op_cat (pe_ix ix_seq (pe_call (ok_sides T) (hr.mono (by decide)) (by rfl) T.g_sides T.F_sides.kp (bd_sides T) .nil pass0 (pa_cons (pv 1) (pa_cons (pv 2) pa_nil))) pe_int (fun _ _ => rfl)) (pe_call (ok_spare_in T) (hr.mono (by decide)) (by rfl) T.g_spare_in T.F_spare_in.kp (bd_spare_in T) .nil pass0 (pa_cons (pv 0) (pa_cons (pv 1) (pa_cons (pv 2) pa_nil))))) pa_nil)))), fun xs z h => by
    obtain ⟨n, E, one, other, rfl, W, S1, S2, rfl⟩ := h
    exact r_out_in n E one other W S1 S2 _⟩
theorem sc_need_prices : FnScope ["web", "prices", "one", "price"] ["web", "prices"] (defScope s_need_prices) := ⟨rfl, rfl, rfl, by decide +kernel, rfl, by decide +kernel, by decide +kernel⟩
theorem bd_need_prices (T : Txt K mg) : Binds K T.d_need_prices ["web", "prices"] [] := bn2 T.F_need_prices fun _ _ _ _ _ _ us hl => match us, hl with | [_, _], _ => rfl
theorem ok_need_prices (T : Txt K mg) : FnOk P w K mg base CX0 2 T.f_need_prices T.d_need_prices ["web", "prices"] S_need_prices := by
  have nd := (sc_need_prices).nd
  refine ok_pure (k := 1) T.F_need_prices sc_need_prices (fun xs z h => by
    obtain ⟨n, E, p, rfl, W, HP, rfl⟩ := h
    rfl) fun cdv A outer s H E hr => ⟨t_need_prices P w K, (pss_cons (ps_if (PW.pt (pw_or (pt_not (pt_val (pe_callB call_isi (by rfl) T.n_isinstance PyProof.Rows.boot_isinstance (pa_cons (pv 1) (pa_cons (pe_bltn (v := .ty "tuple") (u := .type "tuple") (by rfl) T.n_tuple (by decide +kernel) rfl) pa_nil))))) (pw_or1 (pt_cmpR (op_neD hr.units) (pe_callB (r := Evl.rLenS K) call_len_seq (by rfl) T.n_len PySem.boot_len (pa_cons (pv 1) pa_nil)) (pe_ix ix_seq (pv 0) pe_int (fun _ _ => rfl)) (nomark _))))) pss_never pss_nil)
  (pss_one (ps_for PassesOwn.never rfl (pi_tup (pv 1)) (pg_name (i := 2) nd rfl (by first | exact Or.inl rfl | exact Or.inr rfl)) (pss_cons (ps_if (PW.pt (pw_or (pt_not (pt_val (pe_callB call_isi (by rfl) T.n_isinstance PyProof.Rows.boot_isinstance (pa_cons (pv 2) (pa_cons (pe_bltn (v := .ty "tuple") (u := .type "tuple") (by rfl) T.n_tuple (by decide +kernel) rfl) pa_nil))))) (pw_or1 (pt_cmpR (op_neD hr.units) (pe_callB (r := Evl.rLenS K) call_len_seq (by rfl) T.n_len PySem.boot_len (pa_cons (pv 2) pa_nil)) pe_int (nomark _))))) pss_never pss_nil)
  (pss_one (ps_if (pt_cmpR (op_neD hr.units) (pe_lc (own := [("price", 3)]) (g := (gName 3)) (tt := (tNot (tB (tCall S_is_in [] E0 (tCons (tVar 3) (tCons (tC (.int 0)) (tCons (tC (.int 1000)) tNil))))))) (te := (tVar 3)) rfl nd (by exact (pi_tup (pv 2))) (blkOk_by (by kernel_rfl)) (fun _ _ _ _ _ => by exact (pg_name (i := 3) nd rfl (by first | exact Or.inl rfl | exact Or.inr rfl))) (fun _ _ _ _ _ => by exact (pts_one (pt_not (pt_val (pe_call (ok_is_in T) (hr.mono (by decide)) (by rfl) T.g_is_in T.F_is_in.kp (bd_is_in T) .nil pass0 (pa_cons (pv 3) (pa_cons pe_int (pa_cons (pe_glob (v := .int 1000) (by rfl) T.c_MOST_PRICE ⟨_, rfl⟩) pa_nil)))))))) (fun _ _ _ _ _ => by exact (pv 3))) (pe_lst pa_nil) (nomark _)) pss_never pss_nil)))))), fun xs z h => by
    obtain ⟨n, E, p, rfl, W, HP, rfl⟩ := h
    exact r_need_prices n E p W HP _ (fun _ => rfl) _⟩
theorem sc_cost_in : FnScope ["web", "one", "other", "prices", "found", "k"] ["web", "one", "other", "prices"] (defScope s_cost_in) := ⟨rfl, rfl, rfl, by decide +kernel, rfl, by decide +kernel, by decide +kernel⟩
theorem bd_cost_in (T : Txt K mg) : Binds K T.d_cost_in ["web", "one", "other", "prices"] [] := bn4 T.F_cost_in fun _ _ _ _ _ _ us hl => match us, hl with | [_, _, _, _], _ => rfl
theorem ok_cost_in (T : Txt K mg) : FnOk P w K mg base CX0 5 T.f_cost_in T.d_cost_in ["web", "one", "other", "prices"] S_cost_in := by
  have nd := (sc_cost_in).nd
  refine ok_pure (k := 4) T.F_cost_in sc_cost_in (fun xs z h => by
    obtain ⟨n, E, one, other, p, rfl, W, S1, S2, HP, rfl⟩ := h
    rfl) fun cdv A outer s H E hr => ⟨t_cost_in P w K, (pss_cons (ps_set (i := 4) nd rfl (by first | exact Or.inl rfl | exact Or.inr rfl) (pe_callB (cr_sum rfl) (by rfl) T.n_sum PyProof.Rows.boot_sum (pa_cons (pe_lc (own := [("k", 5)]) (g := (gName 5)) (tt := tYes) (te := (tOp (rIx K) (tOp (rIx K) (tVar 3) (tVar 5)) (tC (.int 0)))) rfl nd (by exact (pi_list (pe_call (ok_lit_in T) (hr.mono (by decide)) (by rfl) T.g_lit_in T.F_lit_in.kp (bd_lit_in T) .nil pass0 (pa_cons (pv 0) (pa_cons (pv 1) (pa_cons (pv 2) pa_nil)))))) (blkOk_by (by kernel_rfl)) (fun _ _ _ _ _ => by exact (pg_name (i := 5) nd rfl (by first | exact Or.inl rfl | exact Or.inr rfl))) (fun _ _ _ _ _ => by exact pts_nil) (fun _ _ _ _ _ => by exact (pe_ix ix_seq (pe_ix ix_seq (pv 3) (pv 5) (fun _ _ => rfl)) pe_int (fun _ _ => rfl)))) pa_nil)))
  (pss_one (ps_ret (pe_op op_add (pv 4) (pe_callB (cr_sum rfl) (by rfl) T.n_sum PyProof.Rows.boot_sum (pa_cons (pe_lc (own := [("k", 5)]) (g := (gName 5)) (tt := tYes) (te := (tOp (rIx K) (tOp (rIx K) (tVar 3) (tVar 5)) (tC (.int 1)))) rfl nd (by exact (pi_list (pe_call (ok_out_in T) (hr.mono (by decide)) (by rfl) T.g_out_in T.F_out_in.kp (bd_out_in T) .nil pass0 (pa_cons (pv 0) (pa_cons (pv 1) (pa_cons (pv 2) pa_nil)))))) (blkOk_by (by kernel_rfl)) (fun _ _ _ _ _ => by exact (pg_name (i := 5) nd rfl (by first | exact Or.inl rfl | exact Or.inr rfl))) (fun _ _ _ _ _ => by exact pts_nil) (fun _ _ _ _ _ => by exact (pe_ix ix_seq (pe_ix ix_seq (pv 3) (pv 5) (fun _ _ => rfl)) pe_int (fun _ _ => rfl)))) pa_nil)))))), fun xs z h => by
    obtain ⟨n, E, one, other, p, rfl, W, S1, S2, HP, rfl⟩ := h
    exact r_cost_in n E one other p W S1 S2 HP _⟩
theorem sc_cheapest : FnScope ["web", "one", "other", "prices"] ["web", "one", "other", "prices"] (defScope s_cheapest) := ⟨rfl, rfl, rfl, by decide +kernel, rfl, by decide +kernel, by decide +kernel⟩
theorem bd_cheapest (T : Txt K mg) : Binds K T.d_cheapest ["web", "one", "other", "prices"] [] := bn4 T.F_cheapest fun _ _ _ _ _ _ us hl => match us, hl with | [_, _, _, _], _ => rfl
theorem ok_cheapest (T : Txt K mg) : FnOk P w K mg base CX0 6 T.f_cheapest T.d_cheapest ["web", "one", "other", "prices"] S_cheapest := by
  have nd := (sc_cheapest).nd
  refine ok_pure (k := 5) T.F_cheapest sc_cheapest (fun xs z h => by
    obtain ⟨n, E, one, other, p, rfl, W, S1, S2, HP, rfl⟩ := h
    rfl) fun cdv A outer s H E hr => ⟨t_cheapest P w K, (pss_cons (ps_expr (pe_call (ok_need_two T) (hr.mono (by decide)) (by rfl) T.g_need_two T.F_need_two.kp (bd_need_two T) .nil pass0 (pa_cons (pv 0) (pa_cons (pv 1) (pa_cons (pv 2) pa_nil)))))
  (pss_cons (ps_expr (pe_call (ok_need_prices T) (hr.mono (by decide)) (by rfl) T.g_need_prices T.F_need_prices.kp (bd_need_prices T) .nil pass0 (pa_cons (pv 0) (pa_cons (pv 3) pa_nil))))
  (pss_one (ps_ret (pe_call (ok_cost_in T) (hr.mono (by decide)) (by rfl) T.g_cost_in T.F_cost_in.kp (bd_cost_in T) .nil pass0 (pa_cons (pv 0) (pa_cons (pv 1) (pa_cons (pv 2) (pa_cons (pv 3) pa_nil))))))))), fun xs z h => by
    obtain ⟨n, E, one, other, p, rfl, W, S1, S2, HP, rfl⟩ := h
    exact r_cheapest n E one other p W S1 S2 HP _⟩
theorem sc_price_paper : FnScope ["web", "burning", "prices", "one"] ["web", "burning", "prices"] (defScope s_price_paper) := ⟨rfl, rfl, rfl, by decide +kernel, rfl, by decide +kernel, by decide +kernel⟩
theorem bd_price_paper (T : Txt K mg) : Binds K T.d_price_paper ["web", "burning", "prices"] [] := bn3 T.F_price_paper fun _ _ _ _ _ _ us hl => match us, hl with | [_, _, _], _ => rfl
theorem ok_price_paper (T : Txt K mg) : FnOk P w K mg base CX0 6 T.f_price_paper T.d_price_paper ["web", "burning", "prices"] S_price_paper := by
  have nd := (sc_price_paper).nd
  refine ok_pure (k := 5) T.F_price_paper sc_price_paper (fun xs z h => by
    obtain ⟨n, E, one, p, rfl, W, S1, HP, rfl⟩ := h
    rfl) fun cdv A outer s H E hr => ⟨t_price_paper P w K, (pss_cons (ps_expr (pe_call (ok_need_both T) (hr.mono (by decide)) (by rfl) T.g_need_both T.F_need_both.kp (bd_need_both T) .nil pass0 (pa_cons (pv 0) (pa_cons (pv 1) pa_nil))))
  (pss_cons (ps_expr (pe_call (ok_need_prices T) (hr.mono (by decide)) (by rfl) T.g_need_prices T.F_need_prices.kp (bd_need_prices T) .nil pass0 (pa_cons (pv 0) (pa_cons (pv 2) pa_nil))))
  (pss_one (ps_ret (pe_callTy (r := rTupleS K) call_tuple_of (by rfl) T.n_tuple PyProof.Rows.boot_tuple (pa_cons (pe_lc (own := [("one", 3)]) (g := (gName 3)) (tt := tYes) (te := (tTup (tCons (tVar 3) (tCons (tCall S_cost_in [] E0 (tCons (tVar 0) (tCons (tVar 1) (tCons (tVar 3) (tCons (tVar 2) tNil))))) tNil)))) rfl nd (by exact (pi_list (pe_call (ok_standings T) (hr.mono (by decide)) (by rfl) T.g_standings T.F_standings.kp (bd_standings T) .nil pass0 (pa_cons (pe_listRg rfl (by rfl) T.n_list (prg_1 (by rfl) T.n_range (pe_ix ix_seq (pv 0) pe_int (fun _ _ => rfl)))) pa_nil)))) (blkOk_by (by kernel_rfl)) (fun _ _ _ _ _ => by exact (pg_name (i := 3) nd rfl (by first | exact Or.inl rfl | exact Or.inr rfl))) (fun _ _ _ _ _ => by exact pts_nil) (fun _ _ _ _ _ => by exact (pe_tup (pa_cons (pv 3) (pa_cons (pe_call (ok_cost_in T) (hr.mono (by decide)) (by rfl) T.g_cost_in T.F_cost_in.kp (bd_cost_in T) .nil pass0 (pa_cons (pv 0) (pa_cons (pv 1) (pa_cons (pv 3) (pa_cons (pv 2) pa_nil))))) pa_nil))))) pa_nil)))))), fun xs z h => by
    obtain ⟨n, E, one, p, rfl, W, S1, HP, rfl⟩ := h
    exact r_price_paper n E one p W S1 HP _⟩
theorem sc_dearest : FnScope ["web", "burning", "prices", "best", "one"] ["web", "burning", "prices"] (defScope s_dearest) := ⟨rfl, rfl, rfl, by decide +kernel, rfl, by decide +kernel, by decide +kernel⟩
theorem bd_dearest (T : Txt K mg) : Binds K T.d_dearest ["web", "burning", "prices"] [] := bn3 T.F_dearest fun _ _ _ _ _ _ us hl => match us, hl with | [_, _, _], _ => rfl
theorem ok_dearest (T : Txt K mg) : FnOk P w K mg base CX0 6 T.f_dearest T.d_dearest ["web", "burning", "prices"] S_dearest := by
  have nd := (sc_dearest).nd
  refine ok_pure (k := 5) T.F_dearest sc_dearest (fun xs z h => by
    obtain ⟨n, E, one, p, rfl, W, S1, HP, rfl⟩ := h
    rfl) fun cdv A outer s H E hr => ⟨t_dearest P w K, (pss_cons (ps_expr (pe_call (ok_need_both T) (hr.mono (by decide)) (by rfl) T.g_need_both T.F_need_both.kp (bd_need_both T) .nil pass0 (pa_cons (pv 0) (pa_cons (pv 1) pa_nil))))
  (pss_cons (ps_expr (pe_call (ok_need_prices T) (hr.mono (by decide)) (by rfl) T.g_need_prices T.F_need_prices.kp (bd_need_prices T) .nil pass0 (pa_cons (pv 0) (pa_cons (pv 2) pa_nil))))
  (pss_cons (ps_set (i := 3) nd rfl (by first | exact Or.inl rfl | exact Or.inr rfl) (pe_callB (cr_minD rfl hr.units) (by rfl) T.n_min PyProof.Rows.boot_min (pa_cons (pe_lc (own := [("one", 4)]) (g := (gName 4)) (tt := tYes) (te := (tTup (tCons (tUn (rU fun i => .int (-i)) (tCall S_cost_in [] E0 (tCons (tVar 0) (tCons (tVar 1) (tCons (tVar 4) (tCons (tVar 2) tNil)))))) (tCons (tVar 4) tNil)))) rfl nd (by exact (pi_list (pe_call (ok_standings T) (hr.mono (by decide)) (by rfl) T.g_standings T.F_standings.kp (bd_standings T) .nil pass0 (pa_cons (pe_listRg rfl (by rfl) T.n_list (prg_1 (by rfl) T.n_range (pe_ix ix_seq (pv 0) pe_int (fun _ _ => rfl)))) pa_nil)))) (blkOk_by (by kernel_rfl)) (fun _ _ _ _ _ => by exact (pg_name (i := 4) nd rfl (by first | exact Or.inl rfl | exact Or.inr rfl))) (fun _ _ _ _ _ => by exact pts_nil) (fun _ _ _ _ _ => by exact (pe_tup (pa_cons (pe_un un_neg (pe_call (ok_cost_in T) (hr.mono (by decide)) (by rfl) T.g_cost_in T.F_cost_in.kp (bd_cost_in T) .nil pass0 (pa_cons (pv 0) (pa_cons (pv 1) (pa_cons (pv 4) (pa_cons (pv 2) pa_nil)))))) (pa_cons (pv 4) pa_nil))))) pa_nil)))
  (pss_one (ps_ret (pe_tup (pa_cons (pe_un un_neg (pe_ix ix_seq (pv 3) pe_int (fun _ _ => rfl))) (pa_cons (pe_ix ix_seq (pv 3) pe_int (fun _ _ => rfl)) pa_nil)))))))), fun xs z h => by
    obtain ⟨n, E, one, p, rfl, W, S1, HP, rfl⟩ := h
    exact r_dearest n E one p W S1 HP _⟩
theorem sc_shows_cheap : FnScope ["web", "one", "other", "prices", "value", "there", "whole", "here", "lamp"] ["web", "one", "other", "prices", "value"] (defScope s_shows_cheap) := ⟨rfl, rfl, rfl, by decide +kernel, rfl, by decide +kernel, by decide +kernel⟩
theorem bd_shows_cheap (T : Txt K mg) : Binds K T.d_shows_cheap ["web", "one", "other", "prices", "value"] [] := bn5 T.F_shows_cheap fun _ _ _ _ _ _ us hl => match us, hl with | [_, _, _, _, _], _ => rfl
theorem ok_shows_cheap (T : Txt K mg) : FnOk P w K mg base CX0 6 T.f_shows_cheap T.d_shows_cheap ["web", "one", "other", "prices", "value"] S_shows_cheap := by
  have nd := (sc_shows_cheap).nd
  refine ok_pure (k := 5) T.F_shows_cheap sc_shows_cheap (fun xs z h => by
    obtain ⟨n, E, one, other, p, v, rfl, W, S1, S2, HP, O, rfl⟩ := h
    rfl) fun cdv A outer s H E hr => ⟨t_shows_cheap P w K, (pss_cons (ps_expr (pe_call (ok_need_two T) (hr.mono (by decide)) (by rfl) T.g_need_two T.F_need_two.kp (bd_need_two T) .nil pass0 (pa_cons (pv 0) (pa_cons (pv 1) (pa_cons (pv 2) pa_nil)))))
  (pss_cons (ps_expr (pe_call (ok_need_prices T) (hr.mono (by decide)) (by rfl) T.g_need_prices T.F_need_prices.kp (bd_need_prices T) .nil pass0 (pa_cons (pv 0) (pa_cons (pv 3) pa_nil))))
  (pss_cons (ps_if (pt_not (pt_val (pe_call (ok_is_lamps T) (hr.mono (by decide)) (by rfl) T.g_is_lamps T.F_is_lamps.kp (bd_is_lamps T) .nil pass0 (pa_cons (pv 0) (pa_cons (pv 4) pa_nil))))) (pss_one (ps_ret pe_bl)) pss_nil)
  (pss_cons (ps_set (i := 5) nd rfl (by first | exact Or.inl rfl | exact Or.inr rfl) (pe_call (ok_line_in T) (hr.mono (by decide)) (by rfl) T.g_line_in T.F_line_in.kp (bd_line_in T) .nil pass0 (pa_cons (pv 0) (pa_cons (pv 1) (pa_cons (pv 4) pa_nil)))))
  (pss_cons (ps_if (PW.pt (pw_or (pt_cmpR op_le (pe_callB (r := Evl.rLenS K) call_len_seq (by rfl) T.n_len PySem.boot_len (pa_cons (pv 5) pa_nil)) (pe_callB (r := Evl.rLenS K) call_len_seq (by rfl) T.n_len PySem.boot_len (pa_cons (pv 4) pa_nil)) (nomark _)) (pw_or1 (pt_cmpR (op_neD hr.units) (pe_ix ix_seq (pv 5) (pe_un un_neg pe_int) (fun _ _ => rfl)) (pv 2) (nomark _))))) (pss_one (ps_ret pe_bl)) pss_nil)
  (pss_cons (ps_set (i := 6) nd rfl (by first | exact Or.inl rfl | exact Or.inr rfl) (pe_callB (cr_sum rfl) (by rfl) T.n_sum PyProof.Rows.boot_sum (pa_cons (pe_lc (own := [("here", 7), ("lamp", 8)]) (g := (gTup K 2 (gCons (gName 7) (gCons (gName 8) gNil)))) (tt := tYes) (te := (tOp (rIx K) (tOp (rIx K) (tVar 3) (tVar 8)) (tCB rInt1 (tCons (tOp (rIn K false) (tVar 8) (tVar 7)) tNil)))) rfl nd (by exact (pi_zipM (by rfl) T.n_zip (pa_cons (pv 5) (pa_cons (pv 4) pa_nil)))) (blkOk_by (by kernel_rfl)) (fun _ _ _ _ _ => by exact (pg_tup rfl (pgs_cons (pg_name (i := 7) nd rfl (by first | exact Or.inl rfl | exact Or.inr rfl)) (pgs_cons (pg_name (i := 8) nd rfl (by first | exact Or.inl rfl | exact Or.inr rfl)) pgs_nil)))) (fun _ _ _ _ _ => by exact pts_nil) (fun _ _ _ _ _ => by exact (pe_ix ix_seq (pe_ix ix_seq (pv 3) (pv 8) (fun _ _ => rfl)) (pe_callTy (r := rInt1) call_int1 (by rfl) T.n_int PyProof.Rows.boot_int (pa_cons (pe_cmpR op_in_seq (pv 8) (pv 7) (by rfl)) pa_nil)) (fun _ _ => rfl)))) pa_nil)))
  (pss_one (ps_ret (pe_cmpR (op_eqD hr.units) (pv 6) (pe_call (ok_cost_in T) (hr.mono (by decide)) (by rfl) T.g_cost_in T.F_cost_in.kp (bd_cost_in T) .nil pass0 (pa_cons (pv 0) (pa_cons (pv 1) (pa_cons (pv 2) (pa_cons (pv 3) pa_nil))))) (nomark _)))))))))), fun xs z h => by
    obtain ⟨n, E, one, other, p, v, rfl, W, S1, S2, HP, O, rfl⟩ := h
    exact r_shows_cheap n E one other p v W S1 S2 HP O _⟩
theorem sc_law_taken : FnScope ["_law_row", "_law_many", "_law_found", "_law_cell"] ["_law_row", "_law_many"] (defScope s_law_taken) := ⟨rfl, rfl, rfl, by decide +kernel, rfl, by decide +kernel, by decide +kernel⟩
theorem bd_law_taken (T : Txt K mg) : Binds K T.d__law_taken ["_law_row", "_law_many"] [] := bn2 T.F__law_taken fun _ _ _ _ _ _ us hl => match us, hl with | [_, _], _ => rfl
theorem ok_law_taken (T : Txt K mg) : FnOk P w K mg base CX0 1 T.f__law_taken T.d__law_taken ["_law_row", "_law_many"] (S_law_taken K) := by
  have nd := (sc_law_taken).nd
  refine T.F__law_taken.ok sc_law_taken (fun vs H Q E h => ?_) (fun cdv A outer s H vs Q E hr h => ⟨t_law_taken P w K, PSs.nox (pss_cons (ps_if (pt_cmpR op_gt (pe_ix ix_seq (pv 0) pe_int (fun _ _ => rfl)) pe_int (nomark _)) (pss_cons (ps_set (i := 2) nd rfl (by first | exact Or.inl rfl | exact Or.inr rfl) (pe_op op_modN (pe_callTy (r := rInt1) call_int1 (by rfl) T.n_int PyProof.Rows.boot_int (pa_cons (pe_ix ix_seq (pv 0) pe_int (fun _ _ => rfl)) pa_nil)) (pv 1)))
  (pss_cons (ps_asg (pe_op op_fdivN (pe_ix ix_seq (pv 0) pe_int (fun _ _ => rfl)) (pv 1)) (pg_sub (pv 0) pe_int set_list))
  (pss_one (ps_ret (pv 2))))) pss_nil)
  (pss_cons (ps_asg (pe_op op_add (pe_ix ix_seq (pv 0) pe_int (fun _ _ => rfl)) pe_int) (pg_sub (pv 0) pe_int set_list))
  (pss_cons (ps_if (pt_cmpR op_gt (pe_ix ix_seq (pv 0) pe_int (fun _ _ => rfl)) (pe_callB (r := Evl.rLenS K) call_len_seq (by rfl) T.n_len PySem.boot_len (pa_cons (pe_ix ix_seq (pv 0) pe_int (fun _ _ => rfl)) pa_nil)) (nomark _)) (pss_cons (ps_asg (pe_op op_modN (pe_callTy (r := rInt1) call_int1 (by rfl) T.n_int PyProof.Rows.boot_int (pa_cons (pe_op op_add (pe_op op_mul (pe_ix ix_seq (pv 0) pe_int (fun _ _ => rfl)) pe_int) pe_int) pa_nil)) pe_int) (pg_sub (pv 0) pe_int set_list))
  (pss_one (ps_ret (pe_op op_modN (pe_callTy (r := rInt1) call_int1 (by rfl) T.n_int PyProof.Rows.boot_int (pa_cons (pe_op op_fdivN (pe_ix ix_seq (pv 0) pe_int (fun _ _ => rfl)) pe_int) pa_nil)) (pv 1))))) pss_nil)
  (pss_cons (ps_set (i := 3) nd rfl (by first | exact Or.inl rfl | exact Or.inr rfl) (pe_ix ix_seq (pe_ix ix_seq (pv 0) pe_int (fun _ _ => rfl)) (pe_op op_sub (pe_ix ix_seq (pv 0) pe_int (fun _ _ => rfl)) pe_int) (fun _ _ => rfl)))
  (pss_cons (ps_asg (pe_op op_modN (pe_callTy (r := rInt1) call_int1 (by rfl) T.n_int PyProof.Rows.boot_int (pa_cons (pe_op op_add (pe_op op_add (pe_op op_mul (pe_ix ix_seq (pv 0) pe_int (fun _ _ => rfl)) pe_int) (pv 3)) pe_int) pa_nil)) pe_int) (pg_sub (pv 0) pe_int set_list))
  (pss_cons (ps_if (pt_cmpR op_ge (pv 3) (pe_op op_pow pe_int pe_int) (nomark _)) (pss_one (ps_asg (pe_op op_fdivN (pv 3) (pv 1)) (pg_sub (pv 0) pe_int set_list))) pss_nil)
  (pss_one (ps_ret (pe_op op_modN (pe_callTy (r := rInt1) call_int1 (by rfl) T.n_int PyProof.Rows.boot_int (pa_cons (pv 3) pa_nil)) (pv 1)))))))))), sp_taken h⟩)
  obtain ⟨T, a, ws, xs, rfl, _, _, _, r, ⟨m, rfl, _⟩, _⟩ := h
  rw [List.length_cons, r.length]
  rfl
theorem sc_law_pick : FnScope ["_law_row", "_law_things"] ["_law_row", "_law_things"] (defScope s_law_pick) := ⟨rfl, rfl, rfl, by decide +kernel, rfl, by decide +kernel, by decide +kernel⟩
theorem bd_law_pick (T : Txt K mg) : Binds K T.d__law_pick ["_law_row", "_law_things"] [] := bn2 T.F__law_pick fun _ _ _ _ _ _ us hl => match us, hl with | [_, _], _ => rfl
theorem ok_law_pick (T : Txt K mg) : FnOk P w K mg base CX0 2 T.f__law_pick T.d__law_pick ["_law_row", "_law_things"] (S_law_pick K) := by
  have nd := (sc_law_pick).nd
  refine ok_row (k := 1) T.F__law_pick sc_law_pick (fun xs h => by
    obtain ⟨ys, rfl, h1, h2⟩ := h
    rfl) fun cdv A outer s H E hr => ⟨t_law_pick P w K, (pss_one (ps_ret (pe_ix ix_seq (pv 1) (pe_call (ok_law_taken T) (hr.mono (by decide)) (by rfl) T.g__law_taken T.F__law_taken.kp (bd_law_taken T) .nil pass0 (pa_cons (pv 0) (pa_cons (pe_callB (r := Evl.rLenS K) call_len_seq (by rfl) T.n_len PySem.boot_len (pa_cons (pv 1) pa_nil)) pa_nil))) (fun _ _ => rfl)))), fun a xs h => by
    obtain ⟨ys, rfl, h1, h2⟩ := h
    exact (r_law_pick a ys h1 h2 _).mono (fun _ z => z) fun d ds' ⟨h, q⟩ => ⟨⟨ys, rfl, h⟩, q⟩⟩
theorem sc_law_web : FnScope ["_law_row", "_law_most", "_law_many", "_law_way", "_law_thin", "_law_arrows", "_law_k", "_law_j"] ["_law_row", "_law_most"] (defScope s_law_web) := ⟨rfl, rfl, rfl, by decide +kernel, rfl, by decide +kernel, by decide +kernel⟩
theorem bd_law_web (T : Txt K mg) : Binds K T.d__law_web ["_law_row", "_law_most"] [] := bn2 T.F__law_web fun _ _ _ _ _ _ us hl => match us, hl with | [_, _], _ => rfl
theorem ok_law_web (T : Txt K mg) : FnOk P w K mg base CX0 3 T.f__law_web T.d__law_web ["_law_row", "_law_most"] (S_law_web K) := by
  have nd := (sc_law_web).nd
  refine ok_row (k := 2) T.F__law_web sc_law_web (fun xs h => by
    subst h
    rfl) fun cdv A outer s H E hr => ⟨t_law_web P w K, (pss_cons (ps_par (i := 2) (j := 3) rfl nd rfl rfl (by decide) rfl rfl (pa_cons (pe_op op_add pe_int (pe_call (ok_law_taken T) (hr.mono (by decide)) (by rfl) T.g__law_taken T.F__law_taken.kp (bd_law_taken T) .nil pass0 (pa_cons (pv 0) (pa_cons (pv 1) pa_nil)))) (pa_cons (pe_call (ok_law_taken T) (hr.mono (by decide)) (by rfl) T.g__law_taken T.F__law_taken.kp (bd_law_taken T) .nil pass0 (pa_cons (pv 0) (pa_cons pe_int pa_nil))) pa_nil)) rfl)
  (pss_cons (ps_par (i := 4) (j := 5) rfl nd rfl rfl (by decide) rfl rfl (pa_cons (pe_call (ok_law_pick T) (hr.mono (by decide)) (by rfl) T.g__law_pick T.F__law_pick.kp (bd_law_pick T) .nil pass0 (pa_cons (pv 0) (pa_cons (pe_lst (pa_cons pe_int (pa_cons pe_int (pa_cons pe_int pa_nil)))) pa_nil))) (pa_cons (pe_lst pa_nil) pa_nil)) rfl)
  (pss_cons (ps_for PassesOwn.never rfl (pi_range1 (by rfl) T.n_range (pa_cons (pv 2) pa_nil)) (pg_name (i := 6) nd rfl (by first | exact Or.inl rfl | exact Or.inr rfl)) (pss_one (ps_for PassesOwn.never rfl (pi_range2 (by rfl) T.n_range (pa_cons (pe_op op_add (pv 6) pe_int) (pa_cons (pv 2) pa_nil))) (pg_name (i := 7) nd rfl (by first | exact Or.inl rfl | exact Or.inr rfl)) (pss_one (ps_if (PW.pt (pw_and (pt_cmpR op_lt (pv 3) pe_int (nomark _)) (pw_and1 (pt_cmpR (op_eqD hr.units) (pe_call (ok_law_taken T) (hr.mono (by decide)) (by rfl) T.g__law_taken T.F__law_taken.kp (bd_law_taken T) .nil pass0 (pa_cons (pv 0) (pa_cons (pv 4) pa_nil))) pe_int (nomark _))))) (pss_one (ps_expr (pe_bm PySem.F.plainAttrs_list PySem.F.slot_list_append PySem.F.type_list_append mt_append (pv 5) (pa_cons (pe_tup (pa_cons (pv 6) (pa_cons (pv 7) pa_nil))) pa_nil)))) pss_nil)))))
  (pss_cons (ps_if (pt_cmpR (op_eqD hr.units) (pv 3) pe_int (nomark _)) (pss_one (ps_setLc (i := 5) (own := [("_law_k", 6)]) (g := (gName 6)) (tt := tYes) (te := (tTup (tCons (tVar 6) (tCons (tOp (rI0 fun i j => .int (i + j)) (tVar 6) (tC (.int 1))) tNil)))) rfl nd rfl rfl (sw_true rfl rfl rfl (by decide +kernel)) (by exact (pi_range1 (by rfl) T.n_range (pa_cons (pe_op op_sub (pv 2) pe_int) pa_nil))) (blkOk_by (by kernel_rfl)) (fun _ _ _ _ _ => by exact (pg_name (i := 6) nd rfl (by first | exact Or.inl rfl | exact Or.inr rfl))) (fun _ _ _ _ _ => by exact pts_nil) (fun _ _ _ _ _ => by exact (pe_tup (pa_cons (pv 6) (pa_cons (pe_op op_add (pv 6) pe_int) pa_nil)))))) pss_nil)
  (pss_cons (ps_if (pt_cmpR (op_eqD hr.units) (pv 3) pe_int (nomark _)) (pss_one (ps_setLc (i := 5) (own := [("_law_k", 6)]) (g := (gName 6)) (tt := tYes) (te := (tTup (tCons (tCall (S_law_taken K) [] E0 (tCons (tVar 0) (tCons (tVar 6) tNil))) (tCons (tVar 6) tNil)))) rfl nd rfl rfl (sw_true rfl rfl rfl (by decide +kernel)) (by exact (pi_range2 (by rfl) T.n_range (pa_cons pe_int (pa_cons (pv 2) pa_nil)))) (blkOk_by (by kernel_rfl)) (fun _ _ _ _ _ => by exact (pg_name (i := 6) nd rfl (by first | exact Or.inl rfl | exact Or.inr rfl))) (fun _ _ _ _ _ => by exact pts_nil) (fun _ _ _ _ _ => by exact (pe_tup (pa_cons (pe_call (ok_law_taken T) (hr.mono (by decide)) (by rfl) T.g__law_taken T.F__law_taken.kp (bd_law_taken T) .nil pass0 (pa_cons (pv 0) (pa_cons (pv 6) pa_nil))) (pa_cons (pv 6) pa_nil)))))) pss_nil)
  (pss_one (ps_ret (pe_tup (pa_cons (pv 2) (pa_cons (pe_callTy (r := rTupleS K) call_tuple_of (by rfl) T.n_tuple PyProof.Rows.boot_tuple (pa_cons (pe_callB (cr_sortedT rfl) (by rfl) T.n_sorted PyProof.Rows.boot_sorted (pa_cons (pe_callTy (cr_setOfT rfl hr.units) (by rfl) T.n_set PyProof.Rows.boot_set (pa_cons (pv 5) pa_nil)) pa_nil)) pa_nil)) pa_nil)))))))))), fun a xs h => by
    subst h
    exact (r_law_web a _).mono (fun _ z => z) fun d ds' h => h⟩
theorem sc_law_burning : FnScope ["_law_row", "_law_many", "_law_thin", "_law_k"] ["_law_row", "_law_many"] (defScope s_law_burning) := ⟨rfl, rfl, rfl, by decide +kernel, rfl, by decide +kernel, by decide +kernel⟩
theorem bd_law_burning (T : Txt K mg) : Binds K T.d__law_burning ["_law_row", "_law_many"] [] := bn2 T.F__law_burning fun _ _ _ _ _ _ us hl => match us, hl with | [_, _], _ => rfl
theorem ok_law_burning (T : Txt K mg) : FnOk P w K mg base CX0 3 T.f__law_burning T.d__law_burning ["_law_row", "_law_many"] (S_law_burning K) := by
  have nd := (sc_law_burning).nd
  refine ok_row (k := 2) T.F__law_burning sc_law_burning (fun xs h => by
    obtain ⟨n, rfl, hn⟩ := h
    rfl) fun cdv A outer s H E hr => ⟨t_law_burning P w K, (pss_cons (ps_set (i := 2) nd rfl (by first | exact Or.inl rfl | exact Or.inr rfl) (pe_call (ok_law_pick T) (hr.mono (by decide)) (by rfl) T.g__law_pick T.F__law_pick.kp (bd_law_pick T) .nil pass0 (pa_cons (pv 0) (pa_cons (pe_lst (pa_cons pe_int (pa_cons pe_int (pa_cons pe_int pa_nil)))) pa_nil))))
  (pss_one (ps_ret (pe_callTy (r := rTupleS K) call_tuple_of (by rfl) T.n_tuple PyProof.Rows.boot_tuple (pa_cons (pe_lc (own := [("_law_k", 3)]) (g := (gName 3)) (tt := (tTest (tOp (rEqD K) (tCall (S_law_taken K) [] E0 (tCons (tVar 0) (tCons (tVar 2) tNil))) (tC (.int 0))))) (te := (tVar 3)) rfl nd (by exact (pi_range1 (by rfl) T.n_range (pa_cons (pv 1) pa_nil))) (blkOk_by (by kernel_rfl)) (fun _ _ _ _ _ => by exact (pg_name (i := 3) nd rfl (by first | exact Or.inl rfl | exact Or.inr rfl))) (fun _ _ _ _ _ => by exact (pts_one (pt_cmpR (op_eqD hr.units) (pe_call (ok_law_taken T) (hr.mono (by decide)) (by rfl) T.g__law_taken T.F__law_taken.kp (bd_law_taken T) .nil pass0 (pa_cons (pv 0) (pa_cons (pv 2) pa_nil))) pe_int (nomark _)))) (fun _ _ _ _ _ => by exact (pv 3))) pa_nil))))), fun a xs h => by
    obtain ⟨n, rfl, hn⟩ := h
    exact (r_law_burning a n hn _).mono (fun _ z => z) fun d ds' ⟨⟨s, h1, h2⟩, q⟩ => ⟨⟨n, s, rfl, h1, h2⟩, q⟩⟩
theorem sc_law_prices : FnScope ["_law_row", "_law_web_here", "_law_top", "_law_k"] ["_law_row", "_law_web_here"] (defScope s_law_prices) := ⟨rfl, rfl, rfl, by decide +kernel, rfl, by decide +kernel, by decide +kernel⟩
theorem bd_law_prices (T : Txt K mg) : Binds K T.d__law_prices ["_law_row", "_law_web_here"] [] := bn2 T.F__law_prices fun _ _ _ _ _ _ us hl => match us, hl with | [_, _], _ => rfl
theorem ok_law_prices (T : Txt K mg) : FnOk P w K mg base CX0 3 T.f__law_prices T.d__law_prices ["_law_row", "_law_web_here"] (S_law_prices K) := by
  have nd := (sc_law_prices).nd
  refine ok_row (k := 2) T.F__law_prices sc_law_prices (fun xs h => by
    obtain ⟨n, E, rfl, hn⟩ := h
    rfl) fun cdv A outer s H E hr => ⟨t_law_prices P w K, (pss_cons (ps_set (i := 2) nd rfl (by first | exact Or.inl rfl | exact Or.inr rfl) (pe_call (ok_law_pick T) (hr.mono (by decide)) (by rfl) T.g__law_pick T.F__law_pick.kp (bd_law_pick T) .nil pass0 (pa_cons (pv 0) (pa_cons (pe_lst (pa_cons pe_int (pa_cons pe_int (pa_cons pe_int pa_nil)))) pa_nil))))
  (pss_one (ps_ret (pe_callTy (r := rTupleS K) call_tuple_of (by rfl) T.n_tuple PyProof.Rows.boot_tuple (pa_cons (pe_lc (own := [("_law_k", 3)]) (g := (gName 3)) (tt := tYes) (te := (tTup (tCons (tCall (S_law_taken K) [] E0 (tCons (tVar 0) (tCons (tVar 2) tNil))) (tCons (tCall (S_law_taken K) [] E0 (tCons (tVar 0) (tCons (tVar 2) tNil))) tNil)))) rfl nd (by exact (pi_range1 (by rfl) T.n_range (pa_cons (pe_ix ix_seq (pv 1) pe_int (fun _ _ => rfl)) pa_nil))) (blkOk_by (by kernel_rfl)) (fun _ _ _ _ _ => by exact (pg_name (i := 3) nd rfl (by first | exact Or.inl rfl | exact Or.inr rfl))) (fun _ _ _ _ _ => by exact pts_nil) (fun _ _ _ _ _ => by exact (pe_tup (pa_cons (pe_call (ok_law_taken T) (hr.mono (by decide)) (by rfl) T.g__law_taken T.F__law_taken.kp (bd_law_taken T) .nil pass0 (pa_cons (pv 0) (pa_cons (pv 2) pa_nil))) (pa_cons (pe_call (ok_law_taken T) (hr.mono (by decide)) (by rfl) T.g__law_taken T.F__law_taken.kp (bd_law_taken T) .nil pass0 (pa_cons (pv 0) (pa_cons (pv 2) pa_nil))) pa_nil))))) pa_nil))))), fun a xs h => by
    obtain ⟨n, E, rfl, hn⟩ := h
    exact (r_law_prices a n E hn _).mono (fun _ z => z) fun d ds' ⟨⟨p, h1, h2⟩, q⟩ => ⟨⟨n, E, p, rfl, h1, h2⟩, q⟩⟩
theorem sc_law_changed : FnScope ["_law_burning_here", "_law_lamp", "_law_k"] ["_law_burning_here", "_law_lamp"] (defScope s_law_changed) := ⟨rfl, rfl, rfl, by decide +kernel, rfl, by decide +kernel, by decide +kernel⟩
theorem bd_law_changed (T : Txt K mg) : Binds K T.d__law_changed ["_law_burning_here", "_law_lamp"] [] := bn2 T.F__law_changed fun _ _ _ _ _ _ us hl => match us, hl with | [_, _], _ => rfl
theorem ok_law_changed (T : Txt K mg) : FnOk P w K mg base CX0 1 T.f__law_changed T.d__law_changed ["_law_burning_here", "_law_lamp"] S_law_changed := by
  have nd := (sc_law_changed).nd
  refine ok_pure (k := 0) T.F__law_changed sc_law_changed (fun xs z h => by
    obtain ⟨n, b, l, rfl, S, hl, hn, rfl⟩ := h
    rfl) fun cdv A outer s H E hr => ⟨t_law_changed P w K, (pss_cons (ps_if (pt_cmpR op_in_seq (pv 1) (pv 0) (by rfl)) (pss_one (ps_ret (pe_callTy (r := rTupleS K) call_tuple_of (by rfl) T.n_tuple PyProof.Rows.boot_tuple (pa_cons (pe_lc (own := [("_law_k", 2)]) (g := (gName 2)) (tt := (tTest (tOp (rNeD K) (tVar 2) (tVar 1)))) (te := (tVar 2)) rfl nd (by exact (pi_tup (pv 0))) (blkOk_by (by kernel_rfl)) (fun _ _ _ _ _ => by exact (pg_name (i := 2) nd rfl (by first | exact Or.inl rfl | exact Or.inr rfl))) (fun _ _ _ _ _ => by exact (pts_one (pt_cmpR (op_neD hr.units) (pv 2) (pv 1) (nomark _)))) (fun _ _ _ _ _ => by exact (pv 2))) pa_nil)))) pss_nil)
  (pss_one (ps_ret (pe_callTy (r := rTupleS K) call_tuple_of (by rfl) T.n_tuple PyProof.Rows.boot_tuple (pa_cons (pe_callB cr_sortedI (by rfl) T.n_sorted PyProof.Rows.boot_sorted (pa_cons (pe_op op_cat (pe_callTy (r := Evl.rListS K) call_list_of (by rfl) T.n_list PyProof.Rows.boot_list (pa_cons (pv 0) pa_nil)) (pe_lst (pa_cons (pv 1) pa_nil))) pa_nil)) pa_nil))))), fun xs z h => by
    obtain ⟨n, b, l, rfl, S, hl, hn, rfl⟩ := h
    exact r_law_changed n b l S hl hn _⟩
theorem sc_law_light : FnScope ["_law_web_here", "_law_burning_here", "_law_k", "_law_j"] ["_law_web_here", "_law_burning_here"] (defScope s_law_light) := ⟨rfl, rfl, rfl, by decide +kernel, rfl, by decide +kernel, by decide +kernel⟩
theorem bd_law_light (T : Txt K mg) : Binds K T.d__law_light ["_law_web_here", "_law_burning_here"] [] := bn2 T.F__law_light fun _ _ _ _ _ _ us hl => match us, hl with | [_, _], _ => rfl
theorem ok_law_light (T : Txt K mg) : FnOk P w K mg base CX0 1 T.f__law_light T.d__law_light ["_law_web_here", "_law_burning_here"] S_law_light := by
  have nd := (sc_law_light).nd
  refine ok_pure (k := 0) T.F__law_light sc_law_light (fun xs z h => by
    obtain ⟨n, E, b, rfl, W, S, rfl⟩ := h
    rfl) fun cdv A outer s H E hr => ⟨t_law_light P w K, (pss_one (ps_ret (pe_lc (own := [("_law_k", 2)]) (g := (gName 2)) (tt := (tAnd (tTest (tOp (rIn K true) (tVar 2) (tVar 1))) (tTest (tOp (rEqD K) (tLc (iRng1 (tCons (tVar 2) tNil)) (gName 3) (tAnd (tTest (tOp (rInDT K) (tTup (tCons (tVar 3) (tCons (tVar 2) tNil))) (tOp (rIx K) (tVar 0) (tC (.int 1))))) (tTest (tOp (rIn K true) (tVar 3) (tVar 1)))) (tVar 3) [3]) (tLst tNil))))) (te := (tVar 2)) rfl nd (by exact (pi_range1 (by rfl) T.n_range (pa_cons (pe_ix ix_seq (pv 0) pe_int (fun _ _ => rfl)) pa_nil))) (blkOk_by (by kernel_rfl)) (fun _ _ _ _ _ => by exact (pg_name (i := 2) nd rfl (by first | exact Or.inl rfl | exact Or.inr rfl))) (fun _ _ _ _ _ => by exact (pts_one (PW.pt (pw_and (pt_cmpR op_notIn_seq (pv 2) (pv 1) (by rfl)) (pw_and1 (pt_cmpR (op_eqD hr.units) (pe_lc (own := [("_law_j", 3)]) (g := (gName 3)) (tt := (tAnd (tTest (tOp (rInDT K) (tTup (tCons (tVar 3) (tCons (tVar 2) tNil))) (tOp (rIx K) (tVar 0) (tC (.int 1))))) (tTest (tOp (rIn K true) (tVar 3) (tVar 1))))) (te := (tVar 3)) rfl nd (by exact (pi_range1 (by rfl) T.n_range (pa_cons (pv 2) pa_nil))) (blkOk_by (by kernel_rfl)) (fun _ _ _ _ _ => by exact (pg_name (i := 3) nd rfl (by first | exact Or.inl rfl | exact Or.inr rfl))) (fun _ _ _ _ _ => by exact (pts_one (PW.pt (pw_and (pt_cmpR (op_inDT hr.units65) (pe_tup (pa_cons (pv 3) (pa_cons (pv 2) pa_nil))) (pe_ix ix_seq (pv 0) pe_int (fun _ _ => rfl)) (by rfl)) (pw_and1 (pt_cmpR op_notIn_seq (pv 3) (pv 1) (by rfl))))))) (fun _ _ _ _ _ => by exact (pv 3))) (pe_lst pa_nil) (nomark _))))))) (fun _ _ _ _ _ => by exact (pv 2))))), fun xs z h => by
    obtain ⟨n, E, b, rfl, W, S, rfl⟩ := h
    exact r_law_light n E b W S _⟩
theorem sc_law_quench : FnScope ["_law_web_here", "_law_burning_here", "_law_k", "_law_j"] ["_law_web_here", "_law_burning_here"] (defScope s_law_quench) := ⟨rfl, rfl, rfl, by decide +kernel, rfl, by decide +kernel, by decide +kernel⟩
theorem bd_law_quench (T : Txt K mg) : Binds K T.d__law_quench ["_law_web_here", "_law_burning_here"] [] := bn2 T.F__law_quench fun _ _ _ _ _ _ us hl => match us, hl with | [_, _], _ => rfl
theorem ok_law_quench (T : Txt K mg) : FnOk P w K mg base CX0 1 T.f__law_quench T.d__law_quench ["_law_web_here", "_law_burning_here"] S_law_quench := by
  have nd := (sc_law_quench).nd
  refine ok_pure (k := 0) T.F__law_quench sc_law_quench (fun xs z h => by
    obtain ⟨n, E, b, rfl, W, S, rfl⟩ := h
    rfl) fun cdv A outer s H E hr => ⟨t_law_quench P w K, (pss_one (ps_ret (pe_lc (own := [("_law_k", 2)]) (g := (gName 2)) (tt := (tTest (tOp (rEqD K) (tLc (iRng1 (tCons (tOp (rIx K) (tVar 0) (tC (.int 0))) tNil)) (gName 3) (tAnd (tTest (tOp (rInDT K) (tTup (tCons (tVar 2) (tCons (tVar 3) tNil))) (tOp (rIx K) (tVar 0) (tC (.int 1))))) (tTest (tOp (rIn K true) (tVar 3) (tVar 1)))) (tVar 3) [3]) (tLst tNil)))) (te := (tVar 2)) rfl nd (by exact (pi_tup (pv 1))) (blkOk_by (by kernel_rfl)) (fun _ _ _ _ _ => by exact (pg_name (i := 2) nd rfl (by first | exact Or.inl rfl | exact Or.inr rfl))) (fun _ _ _ _ _ => by exact (pts_one (pt_cmpR (op_eqD hr.units) (pe_lc (own := [("_law_j", 3)]) (g := (gName 3)) (tt := (tAnd (tTest (tOp (rInDT K) (tTup (tCons (tVar 2) (tCons (tVar 3) tNil))) (tOp (rIx K) (tVar 0) (tC (.int 1))))) (tTest (tOp (rIn K true) (tVar 3) (tVar 1))))) (te := (tVar 3)) rfl nd (by exact (pi_range1 (by rfl) T.n_range (pa_cons (pe_ix ix_seq (pv 0) pe_int (fun _ _ => rfl)) pa_nil))) (blkOk_by (by kernel_rfl)) (fun _ _ _ _ _ => by exact (pg_name (i := 3) nd rfl (by first | exact Or.inl rfl | exact Or.inr rfl))) (fun _ _ _ _ _ => by exact (pts_one (PW.pt (pw_and (pt_cmpR (op_inDT hr.units65) (pe_tup (pa_cons (pv 2) (pa_cons (pv 3) pa_nil))) (pe_ix ix_seq (pv 0) pe_int (fun _ _ => rfl)) (by rfl)) (pw_and1 (pt_cmpR op_notIn_seq (pv 3) (pv 1) (by rfl))))))) (fun _ _ _ _ _ => by exact (pv 3))) (pe_lst pa_nil) (nomark _)))) (fun _ _ _ _ _ => by exact (pv 2))))), fun xs z h => by
    obtain ⟨n, E, b, rfl, W, S, rfl⟩ := h
    exact r_law_quench n E b W S _⟩
theorem sc_law_after : FnScope ["_law_web_here", "_law_burning_here", "_law_k"] ["_law_web_here", "_law_burning_here"] (defScope s_law_after) := ⟨rfl, rfl, rfl, by decide +kernel, rfl, by decide +kernel, by decide +kernel⟩
theorem bd_law_after (T : Txt K mg) : Binds K T.d__law_after ["_law_web_here", "_law_burning_here"] [] := bn2 T.F__law_after fun _ _ _ _ _ _ us hl => match us, hl with | [_, _], _ => rfl
theorem ok_law_after (T : Txt K mg) : FnOk P w K mg base CX0 2 T.f__law_after T.d__law_after ["_law_web_here", "_law_burning_here"] S_law_after := by
  have nd := (sc_law_after).nd
  refine ok_pure (k := 1) T.F__law_after sc_law_after (fun xs z h => by
    obtain ⟨n, E, b, rfl, W, S, rfl⟩ := h
    rfl) fun cdv A outer s H E hr => ⟨t_law_after P w K, (pss_one (ps_ret (pe_lc (own := [("_law_k", 2)]) (g := (gName 2)) (tt := tYes) (te := (tTup (tCons (tVar 2) (tCons (tCall S_law_changed [] E0 (tCons (tVar 1) (tCons (tVar 2) tNil))) tNil)))) rfl nd (by exact (pi_list (pe_callB cr_sortedI (by rfl) T.n_sorted PyProof.Rows.boot_sorted (pa_cons (pe_op op_cat (pe_call (ok_law_light T) (hr.mono (by decide)) (by rfl) T.g__law_light T.F__law_light.kp (bd_law_light T) .nil pass0 (pa_cons (pv 0) (pa_cons (pv 1) pa_nil))) (pe_call (ok_law_quench T) (hr.mono (by decide)) (by rfl) T.g__law_quench T.F__law_quench.kp (bd_law_quench T) .nil pass0 (pa_cons (pv 0) (pa_cons (pv 1) pa_nil)))) pa_nil)))) (blkOk_by (by kernel_rfl)) (fun _ _ _ _ _ => by exact (pg_name (i := 2) nd rfl (by first | exact Or.inl rfl | exact Or.inr rfl))) (fun _ _ _ _ _ => by exact pts_nil) (fun _ _ _ _ _ => by exact (pe_tup (pa_cons (pv 2) (pa_cons (pe_call (ok_law_changed T) (hr.mono (by decide)) (by rfl) T.g__law_changed T.F__law_changed.kp (bd_law_changed T) .nil pass0 (pa_cons (pv 1) (pa_cons (pv 2) pa_nil))) pa_nil))))))), fun xs z h => by
    obtain ⟨n, E, b, rfl, W, S, rfl⟩ := h
    exact r_law_after n E b W S _⟩
theorem sc_law_costs : FnScope ["_law_web_here", "_law_burning_here", "_law_prices_here", "_law_found", "_law_fresh", "_law_more", "_law_here", "_law_lamp", "_law_there", "_law_cost"] ["_law_web_here", "_law_burning_here", "_law_prices_here"] (defScope s_law_costs) := ⟨rfl, rfl, rfl, by decide +kernel, rfl, by decide +kernel, by decide +kernel⟩
theorem bd_law_costs (T : Txt K mg) : Binds K T.d__law_costs ["_law_web_here", "_law_burning_here", "_law_prices_here"] [] := bn3 T.F__law_costs fun _ _ _ _ _ _ us hl => match us, hl with | [_, _, _], _ => rfl
theorem ok_law_costs (T : Txt K mg) : FnOk P w K mg base CX0 3 T.f__law_costs T.d__law_costs ["_law_web_here", "_law_burning_here", "_law_prices_here"] S_law_costs := by
  have nd := (sc_law_costs).nd
  refine T.F__law_costs.ok sc_law_costs (fun vs H Q E h => ?_) (fun cdv A outer s H vs Q E hr h => ⟨t_law_costs P w K, PSs.nox (pss_cons (ps_par (i := 3) (j := 4) rfl nd rfl rfl (by decide) rfl rfl (pa_cons (pe_dispT1 hr.units1 (pv 1) pe_int) (pa_cons (pe_lst (pa_cons (pv 1) pa_nil)) pa_nil)) rfl)
  (pss_cons (ps_while PassesOwn.never (pt_cmpR (op_neD hr.units) (pv 4) (pe_lst pa_nil) (nomark _)) (pss_cons (ps_set (i := 5) nd rfl (by first | exact Or.inl rfl | exact Or.inr rfl) pe_dnewT)
  (pss_cons (ps_for PassesOwn.never rfl (pi_list (pv 4)) (pg_name (i := 6) nd rfl (by first | exact Or.inl rfl | exact Or.inr rfl)) (pss_one (ps_for PassesOwn.never rfl (pi_list (pe_call (ok_law_after T) (hr.mono (by decide)) (by rfl) T.g__law_after T.F__law_after.kp (bd_law_after T) .nil pass0 (pa_cons (pv 0) (pa_cons (pv 6) pa_nil)))) (pg_tup rfl (pgs_cons (pg_name (i := 7) nd rfl (by first | exact Or.inl rfl | exact Or.inr rfl)) (pgs_cons (pg_name (i := 8) nd rfl (by first | exact Or.inl rfl | exact Or.inr rfl)) pgs_nil))) (pss_cons (ps_set (i := 9) nd rfl (by first | exact Or.inl rfl | exact Or.inr rfl) (pe_op op_add (pe_dget hr.units1 (pv 3) (pv 6) (fun _ _ => rfl)) (pe_ix ix_seq (pe_ix ix_seq (pv 2) (pv 7) (fun _ _ => rfl)) (pe_ifExp (pt_cmpR op_in_seq (pv 7) (pv 6) (by rfl)) pe_int pe_int) (fun _ _ => rfl))))
  (pss_one (ps_if (PW.pt (pw_or (pt_cmp ((pc_dnotin hr.units1 (pv 8) (pv 3)))) (pw_or1 (pt_cmpR op_lt (pv 9) (pe_dget hr.units1 (pv 3) (pv 8) (fun _ _ => rfl)) (nomark _))))) (pss_cons (ps_dput hr.units1 (pv 3) (pv 8) (pv 9) rfl)
  (pss_one (ps_dput hr.units1 (pv 5) (pv 8) pe_bl rfl))) pss_nil))))))
  (pss_one (ps_set (i := 4) nd rfl (by first | exact Or.inl rfl | exact Or.inr rfl) (pe_callB (cr_sortedKV rfl hr.units) (by rfl) T.n_sorted PyProof.Rows.boot_sorted (pa_cons (pe_keysV (pv 5)) pa_nil)))))))
  (pss_one (ps_ret (pv 3))))), sp_costs h⟩)
  obtain ⟨S, n, E, one, P, w0, r, _⟩ := h
  rw [r.length]
  rfl
theorem sc_law_alike : FnScope ["_law_found", "_law_due", "_law_k"] ["_law_found", "_law_due"] (defScope s_law_alike) := ⟨rfl, rfl, rfl, by decide +kernel, rfl, by decide +kernel, by decide +kernel⟩
theorem bd_law_alike (T : Txt K mg) : Binds K T.d__law_alike ["_law_found", "_law_due"] [] := bn2 T.F__law_alike fun _ _ _ _ _ _ us hl => match us, hl with | [_, _], _ => rfl
theorem ok_law_alike (T : Txt K mg) : ∀ m : Nat, FnOk P w K mg base CX0 (m + 1) T.f__law_alike T.d__law_alike ["_law_found", "_law_due"] (S_law_alike m)
  | 0 => by
    have nd := (sc_law_alike).nd
    refine ok_pure (k := 0) T.F__law_alike sc_law_alike (fun xs z h => by
      obtain ⟨d, rfl, hd, rfl⟩ := h
      rfl) fun cdv A outer s H E hr => ⟨t_law_alike0 P w K, (pss_cons (ps_if (pt_val (pe_callB call_isiT (by rfl) T.n_isinstance PyProof.Rows.boot_isinstance (pa_cons (pv 1) (pa_cons (pe_tup (pa_cons (pe_bltn (v := .ty "tuple") (u := .type "tuple") (by rfl) T.n_tuple (by decide +kernel) rfl) (pa_cons (pe_bltn (v := .ty "list") (u := .type "list") (by rfl) T.n_list (by decide +kernel) rfl) pa_nil))) pa_nil)))) pss_never pss_nil)
  (pss_cons (ps_if (PW.pt (pw_or (pt_cmp ((pc_isN (pv 1)))) (pw_or1 (pt_val (pe_callB call_isi (by rfl) T.n_isinstance PyProof.Rows.boot_isinstance (pa_cons (pv 1) (pa_cons (pe_bltn (v := .ty "str") (u := .type "str") (by rfl) T.n_str (by decide +kernel) rfl) pa_nil))))))) (pss_one (ps_ret (pe_and (pe_cmpR (op_eqD hr.units) (pv 0) (pv 1) (nomark _)) (pe_one (pe_cmpR (op_eqD hr.units) (pe_callB call_isi (by rfl) T.n_isinstance PyProof.Rows.boot_isinstance (pa_cons (pv 0) (pa_cons (pe_bltn (v := .ty "str") (u := .type "str") (by rfl) T.n_str (by decide +kernel) rfl) pa_nil))) (pe_callB call_isi (by rfl) T.n_isinstance PyProof.Rows.boot_isinstance (pa_cons (pv 1) (pa_cons (pe_bltn (v := .ty "str") (u := .type "str") (by rfl) T.n_str (by decide +kernel) rfl) pa_nil))) (nomark _)))))) pss_nil)
  (pss_one (ps_ret (pe_and (pe_callB call_isi (by rfl) T.n_isinstance PyProof.Rows.boot_isinstance (pa_cons (pv 0) (pa_cons (pe_bltn (v := .ty "int") (u := .type "int") (by rfl) T.n_int (by decide +kernel) rfl) pa_nil))) (pe_and (pe_cmpR (op_eqD hr.units) (pe_callB call_isi (by rfl) T.n_isinstance PyProof.Rows.boot_isinstance (pa_cons (pv 0) (pa_cons (pe_bltn (v := .ty "bool") (u := .type "bool") (by rfl) T.n_bool (by decide +kernel) rfl) pa_nil))) (pe_callB call_isi (by rfl) T.n_isinstance PyProof.Rows.boot_isinstance (pa_cons (pv 1) (pa_cons (pe_bltn (v := .ty "bool") (u := .type "bool") (by rfl) T.n_bool (by decide +kernel) rfl) pa_nil))) (nomark _)) (pe_one (pe_cmpR (op_eqD hr.units) (pv 0) (pv 1) (nomark _))))))))), fun xs z h => by
      obtain ⟨d, rfl, hd, rfl⟩ := h
      exact r_law_alike0 d hd _⟩
  | m + 1 => by
    have IH : FnOk P w K mg base CX0 (m + 1) T.f__law_alike T.d__law_alike ["_law_found", "_law_due"] (S_law_alike m) := ok_law_alike T m
    have nd := (sc_law_alike).nd
    refine ok_pure (k := m + 1) T.F__law_alike sc_law_alike (fun xs z h => by
      obtain ⟨d, rfl, hd, rfl⟩ := h
      rfl) fun cdv A outer s H E hr => ⟨t_law_alike P w K m, (pss_cons (ps_if (pt_val (pe_callB call_isiT (by rfl) T.n_isinstance PyProof.Rows.boot_isinstance (pa_cons (pv 1) (pa_cons (pe_tup (pa_cons (pe_bltn (v := .ty "tuple") (u := .type "tuple") (by rfl) T.n_tuple (by decide +kernel) rfl) (pa_cons (pe_bltn (v := .ty "list") (u := .type "list") (by rfl) T.n_list (by decide +kernel) rfl) pa_nil))) pa_nil)))) (pss_cons (ps_if (PW.pt (pw_or (pt_not (pt_val (pe_callB call_isiT (by rfl) T.n_isinstance PyProof.Rows.boot_isinstance (pa_cons (pv 0) (pa_cons (pe_tup (pa_cons (pe_bltn (v := .ty "tuple") (u := .type "tuple") (by rfl) T.n_tuple (by decide +kernel) rfl) (pa_cons (pe_bltn (v := .ty "list") (u := .type "list") (by rfl) T.n_list (by decide +kernel) rfl) pa_nil))) pa_nil))))) (pw_or1 (pt_cmpR (op_neD hr.units) (pe_callB call_isi (by rfl) T.n_isinstance PyProof.Rows.boot_isinstance (pa_cons (pv 0) (pa_cons (pe_bltn (v := .ty "list") (u := .type "list") (by rfl) T.n_list (by decide +kernel) rfl) pa_nil))) (pe_callB call_isi (by rfl) T.n_isinstance PyProof.Rows.boot_isinstance (pa_cons (pv 1) (pa_cons (pe_bltn (v := .ty "list") (u := .type "list") (by rfl) T.n_list (by decide +kernel) rfl) pa_nil))) (nomark _))))) (pss_one (ps_ret pe_bl)) pss_nil)
  (pss_cons (ps_if (pt_cmpR (op_neD hr.units) (pe_callB (r := Evl.rLenS K) call_len_seq (by rfl) T.n_len PySem.boot_len (pa_cons (pv 0) pa_nil)) (pe_callB (r := Evl.rLenS K) call_len_seq (by rfl) T.n_len PySem.boot_len (pa_cons (pv 1) pa_nil)) (nomark _)) (pss_one (ps_ret pe_bl)) pss_nil)
  (pss_one (ps_ret (pe_cmpR (op_eqD hr.units) (pe_lc (own := [("_law_k", 2)]) (g := (gName 2)) (tt := (tNot (tB (tCall (S_law_alike m) [] E0 (tCons (tOp (rIx K) (tVar 0) (tVar 2)) (tCons (tOp (rIx K) (tVar 1) (tVar 2)) tNil)))))) (te := (tVar 2)) rfl nd (by exact (pi_range1 (by rfl) T.n_range (pa_cons (pe_callB (r := Evl.rLenS K) call_len_seq (by rfl) T.n_len PySem.boot_len (pa_cons (pv 1) pa_nil)) pa_nil))) (blkOk_by (by kernel_rfl)) (fun _ _ _ _ _ => by exact (pg_name (i := 2) nd rfl (by first | exact Or.inl rfl | exact Or.inr rfl))) (fun _ _ _ _ _ => by exact (pts_one (pt_not (pt_val (pe_call IH hr (by rfl) T.g__law_alike T.F__law_alike.kp (bd_law_alike T) .nil pass0 (pa_cons (pe_ix ix_seq (pv 0) (pv 2) (fun _ _ => rfl)) (pa_cons (pe_ix ix_seq (pv 1) (pv 2) (fun _ _ => rfl)) pa_nil))))))) (fun _ _ _ _ _ => by exact (pv 2))) (pe_lst pa_nil) (nomark _)))))) pss_nil)
  (pss_cons (ps_if (PW.pt (pw_or (pt_cmp ((pc_isN (pv 1)))) (pw_or1 (pt_val (pe_callB call_isi (by rfl) T.n_isinstance PyProof.Rows.boot_isinstance (pa_cons (pv 1) (pa_cons (pe_bltn (v := .ty "str") (u := .type "str") (by rfl) T.n_str (by decide +kernel) rfl) pa_nil))))))) (pss_one (ps_ret (pe_and (pe_cmpR (op_eqD hr.units) (pv 0) (pv 1) (nomark _)) (pe_one (pe_cmpR (op_eqD hr.units) (pe_callB call_isi (by rfl) T.n_isinstance PyProof.Rows.boot_isinstance (pa_cons (pv 0) (pa_cons (pe_bltn (v := .ty "str") (u := .type "str") (by rfl) T.n_str (by decide +kernel) rfl) pa_nil))) (pe_callB call_isi (by rfl) T.n_isinstance PyProof.Rows.boot_isinstance (pa_cons (pv 1) (pa_cons (pe_bltn (v := .ty "str") (u := .type "str") (by rfl) T.n_str (by decide +kernel) rfl) pa_nil))) (nomark _)))))) pss_nil)
  (pss_one (ps_ret (pe_and (pe_callB call_isi (by rfl) T.n_isinstance PyProof.Rows.boot_isinstance (pa_cons (pv 0) (pa_cons (pe_bltn (v := .ty "int") (u := .type "int") (by rfl) T.n_int (by decide +kernel) rfl) pa_nil))) (pe_and (pe_cmpR (op_eqD hr.units) (pe_callB call_isi (by rfl) T.n_isinstance PyProof.Rows.boot_isinstance (pa_cons (pv 0) (pa_cons (pe_bltn (v := .ty "bool") (u := .type "bool") (by rfl) T.n_bool (by decide +kernel) rfl) pa_nil))) (pe_callB call_isi (by rfl) T.n_isinstance PyProof.Rows.boot_isinstance (pa_cons (pv 1) (pa_cons (pe_bltn (v := .ty "bool") (u := .type "bool") (by rfl) T.n_bool (by decide +kernel) rfl) pa_nil))) (nomark _)) (pe_one (pe_cmpR (op_eqD hr.units) (pv 0) (pv 1) (nomark _))))))))), fun xs z h => by
      obtain ⟨d, rfl, hd, rfl⟩ := h
      exact r_law_alike m d hd _⟩
theorem sc_law_spare : FnScope ["_law_web_here", "_law_one", "_law_other", "_law_dark", "_law_found", "_law_turn", "_law_k", "_law_lit", "_law_out", "_law_j"] ["_law_web_here", "_law_one", "_law_other"] (defScope s_law_spare) := ⟨rfl, rfl, rfl, by decide +kernel, rfl, by decide +kernel, by decide +kernel⟩
theorem bd_law_spare (T : Txt K mg) : Binds K T.d__law_spare ["_law_web_here", "_law_one", "_law_other"] [] := bn3 T.F__law_spare fun _ _ _ _ _ _ us hl => match us, hl with | [_, _, _], _ => rfl
theorem ok_law_spare (T : Txt K mg) : FnOk P w K mg base CX0 1 T.f__law_spare T.d__law_spare ["_law_web_here", "_law_one", "_law_other"] S_law_spare := by
  have nd := (sc_law_spare).nd
  refine ok_pure (k := 0) T.F__law_spare sc_law_spare (fun xs z h => by
    obtain ⟨n, E, one, other, rfl, W, S1, S2, rfl⟩ := h
    rfl) fun cdv A outer s H E hr => ⟨t_law_spare P w K, (pss_cons (ps_asg (pe_tup (pa_cons (pe_lc (own := [("_law_k", 6)]) (g := (gName 6)) (tt := (tAnd (tTest (tOp (rIn K true) (tVar 6) (tVar 1))) (tTest (tOp (rIn K true) (tVar 6) (tVar 2))))) (te := (tVar 6)) rfl nd (by exact (pi_range1 (by rfl) T.n_range (pa_cons (pe_ix ix_seq (pv 0) pe_int (fun _ _ => rfl)) pa_nil))) (blkOk_by (by kernel_rfl)) (fun _ _ _ _ _ => by exact (pg_name (i := 6) nd rfl (by first | exact Or.inl rfl | exact Or.inr rfl))) (fun _ _ _ _ _ => by exact (pts_one (PW.pt (pw_and (pt_cmpR op_notIn_seq (pv 6) (pv 1) (by rfl)) (pw_and1 (pt_cmpR op_notIn_seq (pv 6) (pv 2) (by rfl))))))) (fun _ _ _ _ _ => by exact (pv 6))) (pa_cons (pe_lst pa_nil) pa_nil))) (pg_tup rfl (pgs_cons (pg_name (i := 3) nd rfl (by first | exact Or.inl rfl | exact Or.inr rfl)) (pgs_cons (pg_name (i := 4) nd rfl (by first | exact Or.inl rfl | exact Or.inr rfl)) pgs_nil))))
  (pss_cons (ps_for PassesOwn.never rfl (pi_range1 (by rfl) T.n_range (pa_cons (pe_ix ix_seq (pv 0) pe_int (fun _ _ => rfl)) pa_nil)) (pg_name (i := 5) nd rfl (by first | exact Or.inl rfl | exact Or.inr rfl)) (pss_one (ps_for PassesOwn.never rfl (pi_list (pv 3)) (pg_name (i := 6) nd rfl (by first | exact Or.inl rfl | exact Or.inr rfl)) (pss_cons (ps_setLc (i := 7) (own := [("_law_j", 9)]) (g := (gName 9)) (tt := (tAnd (tTest (tOp (rInDT K) (tTup (tCons (tVar 6) (tCons (tVar 9) tNil))) (tOp (rIx K) (tVar 0) (tC (.int 1))))) (tOr (tTest (tOp (rIn K false) (tVar 9) (tVar 4))) (tAnd (tTest (tOp (rIn K false) (tVar 9) (tVar 2))) (tTest (tOp (rIn K true) (tVar 9) (tVar 1))))))) (te := (tVar 9)) rfl nd rfl rfl (sw_true rfl rfl rfl (by decide +kernel)) (by exact (pi_range1 (by rfl) T.n_range (pa_cons (pe_ix ix_seq (pv 0) pe_int (fun _ _ => rfl)) pa_nil))) (blkOk_by (by kernel_rfl)) (fun _ _ _ _ _ => by exact (pg_name (i := 9) nd rfl (by first | exact Or.inl rfl | exact Or.inr rfl))) (fun _ _ _ _ _ => by exact (pts_one (PW.pt (pw_and (pt_cmpR (op_inDT hr.units65) (pe_tup (pa_cons (pv 6) (pa_cons (pv 9) pa_nil))) (pe_ix ix_seq (pv 0) pe_int (fun _ _ => rfl)) (by rfl)) (pw_and1 (PW.pt (pw_or (pt_cmpR op_in_seq (pv 9) (pv 4) (by rfl)) (pw_or1 (PW.pt (pw_and (pt_cmpR op_in_seq (pv 9) (pv 2) (by rfl)) (pw_and1 (pt_cmpR op_notIn_seq (pv 9) (pv 1) (by rfl))))))))))))) (fun _ _ _ _ _ => by exact (pv 9)))
  (pss_cons (ps_setLc (i := 8) (own := [("_law_j", 9)]) (g := (gName 9)) (tt := (tAnd (tTest (tOp (rInDT K) (tTup (tCons (tVar 9) (tCons (tVar 6) tNil))) (tOp (rIx K) (tVar 0) (tC (.int 1))))) (tOr (tTest (tOp (rIn K false) (tVar 9) (tVar 4))) (tAnd (tTest (tOp (rIn K false) (tVar 9) (tVar 1))) (tTest (tOp (rIn K true) (tVar 9) (tVar 2))))))) (te := (tVar 9)) rfl nd rfl rfl (sw_true rfl rfl rfl (by decide +kernel)) (by exact (pi_range1 (by rfl) T.n_range (pa_cons (pe_ix ix_seq (pv 0) pe_int (fun _ _ => rfl)) pa_nil))) (blkOk_by (by kernel_rfl)) (fun _ _ _ _ _ => by exact (pg_name (i := 9) nd rfl (by first | exact Or.inl rfl | exact Or.inr rfl))) (fun _ _ _ _ _ => by exact (pts_one (PW.pt (pw_and (pt_cmpR (op_inDT hr.units65) (pe_tup (pa_cons (pv 9) (pa_cons (pv 6) pa_nil))) (pe_ix ix_seq (pv 0) pe_int (fun _ _ => rfl)) (by rfl)) (pw_and1 (PW.pt (pw_or (pt_cmpR op_in_seq (pv 9) (pv 4) (by rfl)) (pw_or1 (PW.pt (pw_and (pt_cmpR op_in_seq (pv 9) (pv 1) (by rfl)) (pw_and1 (pt_cmpR op_notIn_seq (pv 9) (pv 2) (by rfl))))))))))))) (fun _ _ _ _ _ => by exact (pv 9)))
  (pss_one (ps_if (PW.pt (pw_and (pt_cmpR op_notIn_seq (pv 6) (pv 4) (by rfl)) (pw_and1 (pt_cmpR (op_neD hr.units) (pe_op op_cat (pv 7) (pv 8)) (pe_lst pa_nil) (nomark _))))) (pss_one (ps_set (i := 4) nd rfl (by first | exact Or.inl rfl | exact Or.inr rfl) (pe_callB cr_sortedI (by rfl) T.n_sorted PyProof.Rows.boot_sorted (pa_cons (pe_op op_cat (pv 4) (pe_lst (pa_cons (pv 6) pa_nil))) pa_nil)))) pss_nil)))))))
  (pss_one (ps_ret (pv 4))))), fun xs z h => by
    obtain ⟨n, E, one, other, rfl, W, S1, S2, rfl⟩ := h
    exact r_law_spare n E one other W S1 S2 _⟩
theorem sc_law_deeds : FnScope ["_law_web_here", "_law_one", "_law_other", "_law_some", "_law_lit", "_law_k"] ["_law_web_here", "_law_one", "_law_other"] (defScope s_law_deeds) := ⟨rfl, rfl, rfl, by decide +kernel, rfl, by decide +kernel, by decide +kernel⟩
theorem bd_law_deeds (T : Txt K mg) : Binds K T.d__law_deeds ["_law_web_here", "_law_one", "_law_other"] [] := bn3 T.F__law_deeds fun _ _ _ _ _ _ us hl => match us, hl with | [_, _, _], _ => rfl
theorem ok_law_deeds (T : Txt K mg) : FnOk P w K mg base CX0 2 T.f__law_deeds T.d__law_deeds ["_law_web_here", "_law_one", "_law_other"] S_law_deeds := by
  have nd := (sc_law_deeds).nd
  refine ok_pure (k := 1) T.F__law_deeds sc_law_deeds (fun xs z h => by
    obtain ⟨n, E, one, other, rfl, W, S1, S2, rfl⟩ := h
    rfl) fun cdv A outer s H E hr => ⟨t_law_deeds P w K, (pss_cons (ps_set (i := 3) nd rfl (by first | exact Or.inl rfl | exact Or.inr rfl) (pe_call (ok_law_spare T) (hr.mono (by decide)) (by rfl) T.g__law_spare T.F__law_spare.kp (bd_law_spare T) .nil pass0 (pa_cons (pv 0) (pa_cons (pv 1) (pa_cons (pv 2) pa_nil)))))
  (pss_cons (ps_set (i := 4) nd rfl (by first | exact Or.inl rfl | exact Or.inr rfl) (pe_callB cr_sortedI (by rfl) T.n_sorted PyProof.Rows.boot_sorted (pa_cons (pe_op op_cat (pv 3) (pe_lc (own := [("_law_k", 5)]) (g := (gName 5)) (tt := (tTest (tOp (rIn K true) (tVar 5) (tVar 1)))) (te := (tVar 5)) rfl nd (by exact (pi_tup (pv 2))) (blkOk_by (by kernel_rfl)) (fun _ _ _ _ _ => by exact (pg_name (i := 5) nd rfl (by first | exact Or.inl rfl | exact Or.inr rfl))) (fun _ _ _ _ _ => by exact (pts_one (pt_cmpR op_notIn_seq (pv 5) (pv 1) (by rfl)))) (fun _ _ _ _ _ => by exact (pv 5)))) pa_nil)))
  (pss_one (ps_ret (pe_op op_cat (pe_lc (own := [("_law_k", 5)]) (g := (gName 5)) (tt := tYes) (te := (tTup (tCons (tC (.bl true)) (tCons (tVar 5) tNil)))) rfl nd (by exact (pi_list (pv 4))) (blkOk_by (by kernel_rfl)) (fun _ _ _ _ _ => by exact (pg_name (i := 5) nd rfl (by first | exact Or.inl rfl | exact Or.inr rfl))) (fun _ _ _ _ _ => by exact pts_nil) (fun _ _ _ _ _ => by exact (pe_tup (pa_cons pe_bl (pa_cons (pv 5) pa_nil))))) (pe_lc (own := [("_law_k", 5)]) (g := (gName 5)) (tt := tYes) (te := (tTup (tCons (tC (.bl false)) (tCons (tVar 5) tNil)))) rfl nd (by exact (pi_list (pe_callB cr_sortedI (by rfl) T.n_sorted PyProof.Rows.boot_sorted (pa_cons (pe_op op_cat (pv 3) (pe_lc (own := [("_law_k", 5)]) (g := (gName 5)) (tt := (tTest (tOp (rIn K true) (tVar 5) (tVar 2)))) (te := (tVar 5)) rfl nd (by exact (pi_tup (pv 1))) (blkOk_by (by kernel_rfl)) (fun _ _ _ _ _ => by exact (pg_name (i := 5) nd rfl (by first | exact Or.inl rfl | exact Or.inr rfl))) (fun _ _ _ _ _ => by exact (pts_one (pt_cmpR op_notIn_seq (pv 5) (pv 2) (by rfl)))) (fun _ _ _ _ _ => by exact (pv 5)))) pa_nil)))) (blkOk_by (by kernel_rfl)) (fun _ _ _ _ _ => by exact (pg_name (i := 5) nd rfl (by first | exact Or.inl rfl | exact Or.inr rfl))) (fun _ _ _ _ _ => by exact pts_nil) (fun _ _ _ _ _ => by exact (pe_tup (pa_cons pe_bl (pa_cons (pv 5) pa_nil)))))))))), fun xs z h => by
    obtain ⟨n, E, one, other, rfl, W, S1, S2, rfl⟩ := h
    exact r_law_deeds n E one other W S1 S2 _⟩
theorem sc_law_word : FnScope ["_law_row", "_law_web_here", "_law_burning_here", "_law_most", "_law_word_here", "_law_here", "_law_turn", "_law_lamp"] ["_law_row", "_law_web_here", "_law_burning_here", "_law_most"] (defScope s_law_word) := ⟨rfl, rfl, rfl, by decide +kernel, rfl, by decide +kernel, by decide +kernel⟩
theorem bd_law_word (T : Txt K mg) : Binds K T.d__law_word ["_law_row", "_law_web_here", "_law_burning_here", "_law_most"] [] := bn4 T.F__law_word fun _ _ _ _ _ _ us hl => match us, hl with | [_, _, _, _], _ => rfl
theorem ok_law_word (T : Txt K mg) : FnOk P w K mg base CX0 3 T.f__law_word T.d__law_word ["_law_row", "_law_web_here", "_law_burning_here", "_law_most"] (S_law_word K) := by
  have nd := (sc_law_word).nd
  refine ok_row (k := 2) T.F__law_word sc_law_word (fun xs h => by
    obtain ⟨n, E, b, rfl, W, S⟩ := h
    rfl) fun cdv A outer s H E hr => ⟨t_law_word P w K, (pss_cons (ps_par (i := 4) (j := 5) rfl nd rfl rfl (by decide) rfl rfl (pa_cons (pe_tup pa_nil) (pa_cons (pv 2) pa_nil)) rfl)
  (pss_cons (ps_for PassesOwn.never rfl (pi_range1 (by rfl) T.n_range (pa_cons (pe_call (ok_law_taken T) (hr.mono (by decide)) (by rfl) T.g__law_taken T.F__law_taken.kp (bd_law_taken T) .nil pass0 (pa_cons (pv 0) (pa_cons (pe_op op_add (pv 3) pe_int) pa_nil))) pa_nil)) (pg_name (i := 6) nd rfl (by first | exact Or.inl rfl | exact Or.inr rfl)) (pss_cons (ps_asg (pe_call (ok_law_pick T) (hr.mono (by decide)) (by rfl) T.g__law_pick T.F__law_pick.kp (bd_law_pick T) .nil pass0 (pa_cons (pv 0) (pa_cons (pe_call (ok_law_after T) (hr.mono (by decide)) (by rfl) T.g__law_after T.F__law_after.kp (bd_law_after T) .nil pass0 (pa_cons (pv 1) (pa_cons (pv 5) pa_nil))) pa_nil))) (pg_tup rfl (pgs_cons (pg_name (i := 7) nd rfl (by first | exact Or.inl rfl | exact Or.inr rfl)) (pgs_cons (pg_name (i := 5) nd rfl (by first | exact Or.inl rfl | exact Or.inr rfl)) pgs_nil))))
  (pss_one (ps_set (i := 4) nd rfl (by first | exact Or.inl rfl | exact Or.inr rfl) (pe_op op_catA (pv 4) (pe_tup (pa_cons (pv 7) pa_nil)))))))
  (pss_one (ps_ret (pv 4))))), fun a xs h => by
    obtain ⟨n, E, b, rfl, W, S⟩ := h
    exact (r_law_word a n E b W S _).mono (fun _ z => z) fun d ds' h => h⟩
theorem sc_law_is_vector : FnScope ["_law_value", "_law_size", "_law_x"] ["_law_value", "_law_size"] (defScope s_law_is_vector) := ⟨rfl, rfl, rfl, by decide +kernel, rfl, by decide +kernel, by decide +kernel⟩
theorem bd_law_is_vector (T : Txt K mg) : Binds K T.d__law_is_vector ["_law_value", "_law_size"] [] := bn2 T.F__law_is_vector fun _ _ _ _ _ _ us hl => match us, hl with | [_, _], _ => rfl
theorem ok_law_is_vector (T : Txt K mg) : FnOk P w K mg base CX0 1 T.f__law_is_vector T.d__law_is_vector ["_law_value", "_law_size"] S_law_is_vector := by
  have nd := (sc_law_is_vector).nd
  refine ok_pure (k := 0) T.F__law_is_vector sc_law_is_vector (fun xs z h => by
    obtain ⟨ys, rfl, hf, hl, rfl⟩ := h
    rfl) fun cdv A outer s H E hr => ⟨t_law_is_vector P w K, (pss_cons (ps_if (PW.pt (pw_or (pt_not (pt_val (pe_callB call_isi (by rfl) T.n_isinstance PyProof.Rows.boot_isinstance (pa_cons (pv 0) (pa_cons (pe_bltn (v := .ty "tuple") (u := .type "tuple") (by rfl) T.n_tuple (by decide +kernel) rfl) pa_nil))))) (pw_or1 (pt_cmpR (op_neD hr.units) (pe_callB (r := Evl.rLenS K) call_len_seq (by rfl) T.n_len PySem.boot_len (pa_cons (pv 0) pa_nil)) (pv 1) (nomark _))))) (pss_one (ps_ret pe_bl)) pss_nil)
  (pss_one (ps_ret (pe_cmpR (op_eqD hr.units) (pe_lc (own := [("_law_x", 2)]) (g := (gName 2)) (tt := (tOr (tNot (tB (tCB (rIsi K) (tCons (tVar 2) (tCons (tC (.ty "int")) tNil))))) (tB (tCB (rIsi K) (tCons (tVar 2) (tCons (tC (.ty "bool")) tNil)))))) (te := (tVar 2)) rfl nd (by exact (pi_tup (pv 0))) (blkOk_by (by kernel_rfl)) (fun _ _ _ _ _ => by exact (pg_name (i := 2) nd rfl (by first | exact Or.inl rfl | exact Or.inr rfl))) (fun _ _ _ _ _ => by exact (pts_one (PW.pt (pw_or (pt_not (pt_val (pe_callB call_isi (by rfl) T.n_isinstance PyProof.Rows.boot_isinstance (pa_cons (pv 2) (pa_cons (pe_bltn (v := .ty "int") (u := .type "int") (by rfl) T.n_int (by decide +kernel) rfl) pa_nil))))) (pw_or1 (pt_val (pe_callB call_isi (by rfl) T.n_isinstance PyProof.Rows.boot_isinstance (pa_cons (pv 2) (pa_cons (pe_bltn (v := .ty "bool") (u := .type "bool") (by rfl) T.n_bool (by decide +kernel) rfl) pa_nil))))))))) (fun _ _ _ _ _ => by exact (pv 2))) (pe_lst pa_nil) (nomark _))))), fun xs z h => by
    obtain ⟨ys, rfl, hf, hl, rfl⟩ := h
    exact r_law_is_vector ys hf hl _⟩
theorem sc_law_leads_to : FnScope ["_law_web_here", "_law_burning_here", "_law_value", "_law_lamp", "_law_can", "_law_k"] ["_law_web_here", "_law_burning_here", "_law_value"] (defScope s_law_leads_to) := ⟨rfl, rfl, rfl, by decide +kernel, rfl, by decide +kernel, by decide +kernel⟩
theorem bd_law_leads_to (T : Txt K mg) : Binds K T.d__law_leads_to ["_law_web_here", "_law_burning_here", "_law_value"] [] := bn3 T.F__law_leads_to fun _ _ _ _ _ _ us hl => match us, hl with | [_, _, _], _ => rfl
theorem ok_law_leads_to (T : Txt K mg) : FnOk P w K mg base CX0 3 T.f__law_leads_to T.d__law_leads_to ["_law_web_here", "_law_burning_here", "_law_value"] S_law_leads_to := by
  have nd := (sc_law_leads_to).nd
  refine ok_pure (k := 2) T.F__law_leads_to sc_law_leads_to (fun xs z h => by
    obtain ⟨n, E, one, v, rfl, W, S1, O, rfl⟩ := h
    rfl) fun cdv A outer s H E hr => ⟨t_law_leads_to P w K, (pss_cons (ps_if (PW.pt (pw_or (pt_not (pt_val (pe_callB call_isi (by rfl) T.n_isinstance PyProof.Rows.boot_isinstance (pa_cons (pv 2) (pa_cons (pe_bltn (v := .ty "tuple") (u := .type "tuple") (by rfl) T.n_tuple (by decide +kernel) rfl) pa_nil))))) (pw_or1 (pt_not (pt_val (pe_call (ok_law_is_vector T) (hr.mono (by decide)) (by rfl) T.g__law_is_vector T.F__law_is_vector.kp (bd_law_is_vector T) .nil pass0 (pa_cons (pv 2) (pa_cons (pe_callB (r := Evl.rLenS K) call_len_seq (by rfl) T.n_len PySem.boot_len (pa_cons (pv 2) pa_nil)) pa_nil)))))))) (pss_one (ps_ret pe_non)) pss_nil)
  (pss_cons (ps_if (pt_cmpR (op_neD hr.units) (pe_lc (own := [("_law_k", 5)]) (g := (gName 5)) (tt := (tNot (tTest (tChain (rI0 fun i j => .bl (decide (i ≤ j))) (rI0 fun i j => .bl (decide (i < j))) (tC (.int 0)) (tVar 5) (tOp (rIx K) (tVar 0) (tC (.int 0))))))) (te := (tVar 5)) rfl nd (by exact (pi_tup (pv 2))) (blkOk_by (by kernel_rfl)) (fun _ _ _ _ _ => by exact (pg_name (i := 5) nd rfl (by first | exact Or.inl rfl | exact Or.inr rfl))) (fun _ _ _ _ _ => by exact (pts_one (pt_not (pt_chain op_le op_lt pe_int (pv 5) (pe_ix ix_seq (pv 0) pe_int (fun _ _ => rfl)))))) (fun _ _ _ _ _ => by exact (pv 5))) (pe_lst pa_nil) (nomark _)) (pss_one (ps_ret pe_non)) pss_nil)
  (pss_cons (ps_for PassesOwn.never rfl (pi_tup (pv 2)) (pg_name (i := 3) nd rfl (by first | exact Or.inl rfl | exact Or.inr rfl)) (pss_cons (ps_set (i := 4) nd rfl (by first | exact Or.inl rfl | exact Or.inr rfl) (pe_callTy (r := rDictP K) (call_dictP rfl) (by rfl) T.n_dict PyProof.Rows.boot_dict (pa_cons (pe_call (ok_law_after T) (hr.mono (by decide)) (by rfl) T.g__law_after T.F__law_after.kp (bd_law_after T) .nil pass0 (pa_cons (pv 0) (pa_cons (pv 1) pa_nil))) pa_nil)))
  (pss_cons (ps_if (pt_cmp ((pc_dnotin hr.units1 (pv 3) (pv 4)))) (pss_one (ps_ret pe_non)) pss_nil)
  (pss_one (ps_set (i := 1) nd rfl (by first | exact Or.inl rfl | exact Or.inr rfl) (pe_dget hr.units1 (pv 4) (pv 3) (fun _ _ => rfl)))))))
  (pss_one (ps_ret (pv 1)))))), fun xs z h => by
    obtain ⟨n, E, one, v, rfl, W, S1, O, rfl⟩ := h
    exact r_law_leads_to n E one v W S1 O _⟩
theorem sc_law : FnScope ["_law_script", "_law_row", "_law_web_here", "_law_one", "_law_other", "_law_prices_here", "_law_costs_here", "_law_best", "_law_word_here", "_law_values", "_law_turn", "_law_value", "_law_due", "_law_here", "_law_whole", "_law_lamp", "_law_there", "_law_sort", "_law_k"] ["_law_script"] (defScope s_law) := ⟨rfl, rfl, rfl, by decide +kernel, rfl, by decide +kernel, by decide +kernel⟩
theorem ok_law {f : Addr} {fd : FuncData} (T : Txt K mg) (F : FnP K "law" s_law f fd) : FnOk P w K mg base CX0 7 f fd ["_law_script"] (S_law K) := by
  have nd := (sc_law).nd
  refine F.ok sc_law (fun vs H Q E h => ?_) (fun cdv A outer s H vs Q E hr h => ⟨t_law P w K, PSs.nox (pss_cons (ps_set (i := 1) nd rfl (by first | exact Or.inl rfl | exact Or.inr rfl) (pe_lst (pa_cons (pv 0) (pa_cons pe_int (pa_cons pe_int (pa_cons pe_int pa_nil))))))
  (pss_cons (ps_set (i := 2) nd rfl (by first | exact Or.inl rfl | exact Or.inr rfl) (pe_call (ok_law_web T) (hr.mono (by decide)) (by rfl) T.g__law_web T.F__law_web.kp (bd_law_web T) .nil pass0 (pa_cons (pv 1) (pa_cons pe_int pa_nil))))
  (pss_cons (ps_par3 (i := 3) (j := 4) (l := 5) rfl nd rfl rfl rfl (by decide) (by decide) (by decide) rfl rfl rfl (pa_cons (pe_call (ok_law_burning T) (hr.mono (by decide)) (by rfl) T.g__law_burning T.F__law_burning.kp (bd_law_burning T) .nil pass0 (pa_cons (pv 1) (pa_cons (pe_ix ix_seq (pv 2) pe_int (fun _ _ => rfl)) pa_nil))) (pa_cons (pe_call (ok_law_burning T) (hr.mono (by decide)) (by rfl) T.g__law_burning T.F__law_burning.kp (bd_law_burning T) .nil pass0 (pa_cons (pv 1) (pa_cons (pe_ix ix_seq (pv 2) pe_int (fun _ _ => rfl)) pa_nil))) (pa_cons (pe_call (ok_law_prices T) (hr.mono (by decide)) (by rfl) T.g__law_prices T.F__law_prices.kp (bd_law_prices T) .nil pass0 (pa_cons (pv 1) (pa_cons (pv 2) pa_nil))) pa_nil))) rfl)
  (pss_cons (ps_set (i := 6) nd rfl (by first | exact Or.inl rfl | exact Or.inr rfl) (pe_call (ok_law_costs T) (hr.mono (by decide)) (by rfl) T.g__law_costs T.F__law_costs.kp (bd_law_costs T) .nil pass0 (pa_cons (pv 2) (pa_cons (pv 3) (pa_cons (pv 5) pa_nil)))))
  (pss_cons (ps_if (pt_not (pt_val (pe_call (ok_law_alike T 4) (hr.mono (by decide)) (by rfl) T.g__law_alike T.F__law_alike.kp (bd_law_alike T) .nil pass0 (pa_cons (pe_call (ok_price_paper T) (hr.mono (by decide)) (by rfl) T.g_price_paper T.F_price_paper.kp (bd_price_paper T) .nil pass0 (pa_cons (pv 2) (pa_cons (pv 3) (pa_cons (pv 5) pa_nil)))) (pa_cons (pe_callTy (r := rTupleS K) call_tuple_of (by rfl) T.n_tuple PyProof.Rows.boot_tuple (pa_cons (pe_lc (own := [("_law_there", 16)]) (g := (gName 16)) (tt := tYes) (te := (tTup (tCons (tVar 16) (tCons (tDGet (tVar 6) (tVar 16)) tNil)))) rfl nd (by exact (pi_list (pe_callB (cr_sortedKV rfl hr.units) (by rfl) T.n_sorted PyProof.Rows.boot_sorted (pa_cons (pe_keysV (pv 6)) pa_nil)))) (blkOk_by (by kernel_rfl)) (fun _ _ _ _ _ => by exact (pg_name (i := 16) nd rfl (by first | exact Or.inl rfl | exact Or.inr rfl))) (fun _ _ _ _ _ => by exact pts_nil) (fun _ _ _ _ _ => by exact (pe_tup (pa_cons (pv 16) (pa_cons (pe_dget hr.units1 (pv 6) (pv 16) (fun _ _ => rfl)) pa_nil))))) pa_nil)) pa_nil))))) (pss_one (ps_ret pe_bl)) pss_nil)
  (pss_cons (ps_set (i := 7) nd rfl (by first | exact Or.inl rfl | exact Or.inr rfl) (pe_callB (cr_minD rfl hr.units) (by rfl) T.n_min PyProof.Rows.boot_min (pa_cons (pe_lock (pe_lc (own := [("_law_there", 16)]) (g := (gName 16)) (tt := tYes) (te := (tTup (tCons (tOp (rI0 fun i j => .int (i - j)) (tC (.int 0)) (tDGet (tVar 6) (tVar 16))) (tCons (tVar 16) tNil)))) rfl nd (by exact (pi_keysTM (pv 6))) (blkOk_by (by kernel_rfl)) (fun _ _ _ _ _ => by exact (pg_name (i := 16) nd rfl (by first | exact Or.inl rfl | exact Or.inr rfl))) (fun _ _ _ _ _ => by exact pts_nil) (fun _ _ _ _ _ => by exact (pe_tup (pa_cons (pe_op op_sub pe_int (pe_dget hr.units1 (pv 6) (pv 16) (fun _ _ => rfl))) (pa_cons (pv 16) pa_nil)))))) pa_nil)))
  (pss_cons (ps_if (pt_not (pt_val (pe_call (ok_law_alike T 4) (hr.mono (by decide)) (by rfl) T.g__law_alike T.F__law_alike.kp (bd_law_alike T) .nil pass0 (pa_cons (pe_call (ok_cheapest T) (hr.mono (by decide)) (by rfl) T.g_cheapest T.F_cheapest.kp (bd_cheapest T) .nil pass0 (pa_cons (pv 2) (pa_cons (pv 3) (pa_cons (pv 4) (pa_cons (pv 5) pa_nil))))) (pa_cons (pe_dget hr.units1 (pv 6) (pv 4) (fun _ _ => rfl)) pa_nil))))) (pss_one (ps_ret pe_bl)) pss_nil)
  (pss_cons (ps_if (pt_not (pt_val (pe_call (ok_law_alike T 4) (hr.mono (by decide)) (by rfl) T.g__law_alike T.F__law_alike.kp (bd_law_alike T) .nil pass0 (pa_cons (pe_call (ok_dearest T) (hr.mono (by decide)) (by rfl) T.g_dearest T.F_dearest.kp (bd_dearest T) .nil pass0 (pa_cons (pv 2) (pa_cons (pv 3) (pa_cons (pv 5) pa_nil)))) (pa_cons (pe_tup (pa_cons (pe_op op_sub pe_int (pe_ix ix_seq (pv 7) pe_int (fun _ _ => rfl))) (pa_cons (pe_ix ix_seq (pv 7) pe_int (fun _ _ => rfl)) pa_nil))) pa_nil))))) (pss_one (ps_ret pe_bl)) pss_nil)
  (pss_cons (ps_set (i := 8) nd rfl (by first | exact Or.inl rfl | exact Or.inr rfl) (pe_callTy (r := rTupleS K) call_tuple_of (by rfl) T.n_tuple PyProof.Rows.boot_tuple (pa_cons (pe_lc (own := [("_law_sort", 17), ("_law_k", 18)]) (g := (gTup K 2 (gCons (gName 17) (gCons (gName 18) gNil)))) (tt := tYes) (te := (tVar 18)) rfl nd (by exact (pi_list (pe_call (ok_law_deeds T) (hr.mono (by decide)) (by rfl) T.g__law_deeds T.F__law_deeds.kp (bd_law_deeds T) .nil pass0 (pa_cons (pv 2) (pa_cons (pv 3) (pa_cons (pv 4) pa_nil)))))) (blkOk_by (by kernel_rfl)) (fun _ _ _ _ _ => by exact (pg_tup rfl (pgs_cons (pg_name (i := 17) nd rfl (by first | exact Or.inl rfl | exact Or.inr rfl)) (pgs_cons (pg_name (i := 18) nd rfl (by first | exact Or.inl rfl | exact Or.inr rfl)) pgs_nil)))) (fun _ _ _ _ _ => by exact pts_nil) (fun _ _ _ _ _ => by exact (pv 18))) pa_nil)))
  (pss_cons (ps_set (i := 9) nd rfl (by first | exact Or.inl rfl | exact Or.inr rfl) (pe_lst (pa_cons (pv 8) (pa_cons pe_non (pa_cons (pe_tup pa_nil) (pa_cons (pe_callTy (r := Evl.rListS K) call_list_of (by rfl) T.n_list PyProof.Rows.boot_list (pa_cons (pv 8) pa_nil)) (pa_cons pe_int (pa_cons pe_dnewK (pa_cons (pe_slice sl_tupA (pv 8) (po_some pe_int) po_none) (pa_cons (pe_op op_catA (pv 8) (pe_op op_twice (pe_slice sl_tupA (pv 8) (po_some (pe_un un_neg pe_int)) po_none) pe_int)) (pa_cons (pe_revT (pv 8)) (pa_cons (pe_tup (pa_cons pe_non pa_nil)) (pa_cons (pe_tup (pa_cons pe_int pa_nil)) pa_nil)))))))))))))
  (pss_cons (ps_set (i := 9) nd rfl (by first | exact Or.inl rfl | exact Or.inr rfl) (pe_op op_cat (pv 9) (pe_lst (pa_cons (pe_tup (pa_cons pe_bl pa_nil)) (pa_cons (pe_op op_catA (pv 8) (pe_tup (pa_cons pe_bl pa_nil))) pa_nil)))))
  (pss_cons (ps_for PassesOwn.never rfl (pi_range1 (by rfl) T.n_range (pa_cons pe_int pa_nil)) (pg_name (i := 10) nd rfl (by first | exact Or.inl rfl | exact Or.inr rfl)) (pss_one (ps_expr (pe_bm PySem.F.plainAttrs_list PySem.F.slot_list_append PySem.F.type_list_append mt_append (pv 9) (pa_cons (pe_call (ok_law_word T) (hr.mono (by decide)) (by rfl) T.g__law_word T.F__law_word.kp (bd_law_word T) .nil pass0 (pa_cons (pv 1) (pa_cons (pv 2) (pa_cons (pv 3) (pa_cons pe_int pa_nil))))) pa_nil)))))
  (pss_cons (ps_for PassesOwn.never rfl (pi_list (pv 9)) (pg_name (i := 11) nd rfl (by first | exact Or.inl rfl | exact Or.inr rfl)) (pss_cons (ps_set (i := 12) nd rfl (by first | exact Or.inl rfl | exact Or.inr rfl) (pe_cmpR (op_eqD hr.units) (pe_call (ok_law_leads_to T) (hr.mono (by decide)) (by rfl) T.g__law_leads_to T.F__law_leads_to.kp (bd_law_leads_to T) .nil pass0 (pa_cons (pv 2) (pa_cons (pv 3) (pa_cons (pv 11) pa_nil)))) (pv 4) (nomark _)))
  (pss_cons (ps_if (pt_val (pv 12)) (pss_cons (ps_par (i := 13) (j := 14) rfl nd rfl rfl (by decide) rfl rfl (pa_cons (pv 3) (pa_cons pe_int pa_nil)) rfl)
  (pss_cons (ps_for PassesOwn.never rfl (pi_tup (pv 11)) (pg_name (i := 15) nd rfl (by first | exact Or.inl rfl | exact Or.inr rfl)) (pss_one (ps_par (i := 14) (j := 13) rfl nd rfl rfl (by decide) rfl rfl (pa_cons (pe_op op_add (pv 14) (pe_ix ix_seq (pe_ix ix_seq (pv 5) (pv 15) (fun _ _ => rfl)) (pe_ifExp (pt_cmpR op_in_seq (pv 15) (pv 13) (by rfl)) pe_int pe_int) (fun _ _ => rfl))) (pa_cons (pe_call (ok_law_changed T) (hr.mono (by decide)) (by rfl) T.g__law_changed T.F__law_changed.kp (bd_law_changed T) .nil pass0 (pa_cons (pv 13) (pa_cons (pv 15) pa_nil))) pa_nil)) rfl)))
  (pss_one (ps_set (i := 12) nd rfl (by first | exact Or.inl rfl | exact Or.inr rfl) (pe_cmpR (op_eqD hr.units) (pv 14) (pe_dget hr.units1 (pv 6) (pv 4) (fun _ _ => rfl)) (nomark _)))))) pss_nil)
  (pss_one (ps_if (pt_not (pt_val (pe_call (ok_law_alike T 4) (hr.mono (by decide)) (by rfl) T.g__law_alike T.F__law_alike.kp (bd_law_alike T) .nil pass0 (pa_cons (pe_call (ok_shows_cheap T) (hr.mono (by decide)) (by rfl) T.g_shows_cheap T.F_shows_cheap.kp (bd_shows_cheap T) .nil pass0 (pa_cons (pv 2) (pa_cons (pv 3) (pa_cons (pv 4) (pa_cons (pv 5) (pa_cons (pv 11) pa_nil)))))) (pa_cons (pv 12) pa_nil))))) (pss_one (ps_ret pe_bl)) pss_nil)))))
  (pss_one (ps_ret (pe_cmpR op_isBl (pe_call (ok_shows_cheap T) (hr.mono (by decide)) (by rfl) T.g_shows_cheap T.F_shows_cheap.kp (bd_shows_cheap T) .nil pass0 (pa_cons (pv 2) (pa_cons (pv 3) (pa_cons (pv 4) (pa_cons (pv 5) (pa_cons (pv 8) pa_nil)))))) pe_bl (nomark _))))))))))))))))), sp_law h⟩)
  obtain ⟨a, ns, rfl, _⟩ := h
  rfl
end
end Hk
set_option Elab.async false
set_option linter.all false
set_option maxRecDepth 100000
set_option maxHeartbeats 4000000
set_option autoImplicit false
/-! HkF: the facts of the head, the end (printed by gen/facts.py). -/
namespace Hk
open PySem PySem.Spec PyProof.Rows L2
theorem mkTxt {K : PySem.W.Frag} {h : Heap} {mg : Str → Option Value} (X : K.In h) (G : h.Ns mainGlobals mg) (c : He.SaysD faL fnL K) : Nonempty (Txt K mg) := by
  obtain ⟨d0, F0⟩ := c.def_ 0 (d := d_is_in) rfl
  obtain ⟨d1, F1⟩ := c.def_ 1 (d := d_is_arrow) rfl
  obtain ⟨d2, F2⟩ := c.def_ 2 (d := d_need_web) rfl
  obtain ⟨d3, F3⟩ := c.def_ 3 (d := d_need_burning) rfl
  obtain ⟨d4, F4⟩ := c.def_ 4 (d := d_need_both) rfl
  obtain ⟨d5, F5⟩ := c.def_ 5 (d := d_need_two) rfl
  obtain ⟨d6, F6⟩ := c.def_ 6 (d := d_ahead_in) rfl
  obtain ⟨d7, F7⟩ := c.def_ 7 (d := d_behind_in) rfl
  obtain ⟨d8, F8⟩ := c.def_ 8 (d := d_standings) rfl
  obtain ⟨d9, F9⟩ := c.def_ 9 (d := d_light_in) rfl
  obtain ⟨d10, F10⟩ := c.def_ 10 (d := d_quench_in) rfl
  obtain ⟨d11, F11⟩ := c.def_ 11 (d := d_changed) rfl
  obtain ⟨d12, F12⟩ := c.def_ 12 (d := d_doable) rfl
  obtain ⟨d13, F13⟩ := c.def_ 13 (d := d_is_lamps) rfl
  obtain ⟨d14, F14⟩ := c.def_ 14 (d := d_line_in) rfl
  obtain ⟨d15, F15⟩ := c.def_ 15 (d := d_sides) rfl
  obtain ⟨d16, F16⟩ := c.def_ 16 (d := d_needs_of) rfl
  obtain ⟨d17, F17⟩ := c.def_ 17 (d := d_spare_in) rfl
  obtain ⟨d18, F18⟩ := c.def_ 18 (d := d_lit_in) rfl
  obtain ⟨d19, F19⟩ := c.def_ 19 (d := d_out_in) rfl
  obtain ⟨d20, F20⟩ := c.def_ 20 (d := d_need_prices) rfl
  obtain ⟨d21, F21⟩ := c.def_ 21 (d := d_cost_in) rfl
  obtain ⟨d22, F22⟩ := c.def_ 22 (d := d_cheapest) rfl
  obtain ⟨d23, F23⟩ := c.def_ 23 (d := d_price_paper) rfl
  obtain ⟨d24, F24⟩ := c.def_ 24 (d := d_dearest) rfl
  obtain ⟨d25, F25⟩ := c.def_ 25 (d := d_shows_cheap) rfl
  obtain ⟨d26, F26⟩ := c.def_ 26 (d := d_law_taken) rfl
  obtain ⟨d27, F27⟩ := c.def_ 27 (d := d_law_pick) rfl
  obtain ⟨d28, F28⟩ := c.def_ 28 (d := d_law_web) rfl
  obtain ⟨d29, F29⟩ := c.def_ 29 (d := d_law_burning) rfl
  obtain ⟨d30, F30⟩ := c.def_ 30 (d := d_law_prices) rfl
  obtain ⟨d31, F31⟩ := c.def_ 31 (d := d_law_changed) rfl
  obtain ⟨d32, F32⟩ := c.def_ 32 (d := d_law_light) rfl
  obtain ⟨d33, F33⟩ := c.def_ 33 (d := d_law_quench) rfl
  obtain ⟨d34, F34⟩ := c.def_ 34 (d := d_law_after) rfl
  obtain ⟨d35, F35⟩ := c.def_ 35 (d := d_law_costs) rfl
  obtain ⟨d36, F36⟩ := c.def_ 36 (d := d_law_alike) rfl
  obtain ⟨d37, F37⟩ := c.def_ 37 (d := d_law_spare) rfl
  obtain ⟨d38, F38⟩ := c.def_ 38 (d := d_law_deeds) rfl
  obtain ⟨d39, F39⟩ := c.def_ 39 (d := d_law_word) rfl
  obtain ⟨d40, F40⟩ := c.def_ 40 (d := d_law_is_vector) rfl
  obtain ⟨d41, F41⟩ := c.def_ 41 (d := d_law_leads_to) rfl
  obtain ⟨t_MOST_LAMPS, h_MOST_LAMPS⟩ := He.int_ok X G (c.fact 58 (f := .int "MOST_LAMPS" 9) rfl)
  obtain ⟨t_MOST_WORD, h_MOST_WORD⟩ := He.int_ok X G (c.fact 59 (f := .int "MOST_WORD" 200) rfl)
  obtain ⟨t_MOST_PRICE, h_MOST_PRICE⟩ := He.int_ok X G (c.fact 60 (f := .int "MOST_PRICE" 1000) rfl)
  exact ⟨{
    f_is_in := _, d_is_in := d0, F_is_in := F0, g_is_in := He.glo_ok X G (c.fact 0 (f := .glo "is_in") rfl),
    f_is_arrow := _, d_is_arrow := d1, F_is_arrow := F1, g_is_arrow := He.glo_ok X G (c.fact 1 (f := .glo "is_arrow") rfl),
    f_need_web := _, d_need_web := d2, F_need_web := F2, g_need_web := He.glo_ok X G (c.fact 2 (f := .glo "need_web") rfl),
    f_need_burning := _, d_need_burning := d3, F_need_burning := F3, g_need_burning := He.glo_ok X G (c.fact 3 (f := .glo "need_burning") rfl),
    f_need_both := _, d_need_both := d4, F_need_both := F4, g_need_both := He.glo_ok X G (c.fact 4 (f := .glo "need_both") rfl),
    f_need_two := _, d_need_two := d5, F_need_two := F5, g_need_two := He.glo_ok X G (c.fact 5 (f := .glo "need_two") rfl),
    f_ahead_in := _, d_ahead_in := d6, F_ahead_in := F6, g_ahead_in := He.glo_ok X G (c.fact 6 (f := .glo "ahead_in") rfl),
    f_behind_in := _, d_behind_in := d7, F_behind_in := F7, g_behind_in := He.glo_ok X G (c.fact 7 (f := .glo "behind_in") rfl),
    f_standings := _, d_standings := d8, F_standings := F8, g_standings := He.glo_ok X G (c.fact 8 (f := .glo "standings") rfl),
    f_light_in := _, d_light_in := d9, F_light_in := F9, g_light_in := He.glo_ok X G (c.fact 9 (f := .glo "light_in") rfl),
    f_quench_in := _, d_quench_in := d10, F_quench_in := F10, g_quench_in := He.glo_ok X G (c.fact 10 (f := .glo "quench_in") rfl),
    f_changed := _, d_changed := d11, F_changed := F11, g_changed := He.glo_ok X G (c.fact 11 (f := .glo "changed") rfl),
    f_doable := _, d_doable := d12, F_doable := F12, g_doable := He.glo_ok X G (c.fact 12 (f := .glo "doable") rfl),
    f_is_lamps := _, d_is_lamps := d13, F_is_lamps := F13, g_is_lamps := He.glo_ok X G (c.fact 13 (f := .glo "is_lamps") rfl),
    f_line_in := _, d_line_in := d14, F_line_in := F14, g_line_in := He.glo_ok X G (c.fact 14 (f := .glo "line_in") rfl),
    f_sides := _, d_sides := d15, F_sides := F15, g_sides := He.glo_ok X G (c.fact 15 (f := .glo "sides") rfl),
    f_needs_of := _, d_needs_of := d16, F_needs_of := F16, g_needs_of := He.glo_ok X G (c.fact 16 (f := .glo "needs_of") rfl),
    f_spare_in := _, d_spare_in := d17, F_spare_in := F17, g_spare_in := He.glo_ok X G (c.fact 17 (f := .glo "spare_in") rfl),
    f_lit_in := _, d_lit_in := d18, F_lit_in := F18, g_lit_in := He.glo_ok X G (c.fact 18 (f := .glo "lit_in") rfl),
    f_out_in := _, d_out_in := d19, F_out_in := F19, g_out_in := He.glo_ok X G (c.fact 19 (f := .glo "out_in") rfl),
    f_need_prices := _, d_need_prices := d20, F_need_prices := F20, g_need_prices := He.glo_ok X G (c.fact 20 (f := .glo "need_prices") rfl),
    f_cost_in := _, d_cost_in := d21, F_cost_in := F21, g_cost_in := He.glo_ok X G (c.fact 21 (f := .glo "cost_in") rfl),
    f_cheapest := _, d_cheapest := d22, F_cheapest := F22, g_cheapest := He.glo_ok X G (c.fact 22 (f := .glo "cheapest") rfl),
    f_price_paper := _, d_price_paper := d23, F_price_paper := F23, g_price_paper := He.glo_ok X G (c.fact 23 (f := .glo "price_paper") rfl),
    f_dearest := _, d_dearest := d24, F_dearest := F24, g_dearest := He.glo_ok X G (c.fact 24 (f := .glo "dearest") rfl),
    f_shows_cheap := _, d_shows_cheap := d25, F_shows_cheap := F25, g_shows_cheap := He.glo_ok X G (c.fact 25 (f := .glo "shows_cheap") rfl),
    f__law_taken := _, d__law_taken := d26, F__law_taken := F26, g__law_taken := He.glo_ok X G (c.fact 26 (f := .glo "_law_taken") rfl),
    f__law_pick := _, d__law_pick := d27, F__law_pick := F27, g__law_pick := He.glo_ok X G (c.fact 27 (f := .glo "_law_pick") rfl),
    f__law_web := _, d__law_web := d28, F__law_web := F28, g__law_web := He.glo_ok X G (c.fact 28 (f := .glo "_law_web") rfl),
    f__law_burning := _, d__law_burning := d29, F__law_burning := F29, g__law_burning := He.glo_ok X G (c.fact 29 (f := .glo "_law_burning") rfl),
    f__law_prices := _, d__law_prices := d30, F__law_prices := F30, g__law_prices := He.glo_ok X G (c.fact 30 (f := .glo "_law_prices") rfl),
    f__law_changed := _, d__law_changed := d31, F__law_changed := F31, g__law_changed := He.glo_ok X G (c.fact 31 (f := .glo "_law_changed") rfl),
    f__law_light := _, d__law_light := d32, F__law_light := F32, g__law_light := He.glo_ok X G (c.fact 32 (f := .glo "_law_light") rfl),
    f__law_quench := _, d__law_quench := d33, F__law_quench := F33, g__law_quench := He.glo_ok X G (c.fact 33 (f := .glo "_law_quench") rfl),
    f__law_after := _, d__law_after := d34, F__law_after := F34, g__law_after := He.glo_ok X G (c.fact 34 (f := .glo "_law_after") rfl),
    f__law_costs := _, d__law_costs := d35, F__law_costs := F35, g__law_costs := He.glo_ok X G (c.fact 35 (f := .glo "_law_costs") rfl),
    f__law_alike := _, d__law_alike := d36, F__law_alike := F36, g__law_alike := He.glo_ok X G (c.fact 36 (f := .glo "_law_alike") rfl),
    f__law_spare := _, d__law_spare := d37, F__law_spare := F37, g__law_spare := He.glo_ok X G (c.fact 37 (f := .glo "_law_spare") rfl),
    f__law_deeds := _, d__law_deeds := d38, F__law_deeds := F38, g__law_deeds := He.glo_ok X G (c.fact 38 (f := .glo "_law_deeds") rfl),
    f__law_word := _, d__law_word := d39, F__law_word := F39, g__law_word := He.glo_ok X G (c.fact 39 (f := .glo "_law_word") rfl),
    f__law_is_vector := _, d__law_is_vector := d40, F__law_is_vector := F40, g__law_is_vector := He.glo_ok X G (c.fact 40 (f := .glo "_law_is_vector") rfl),
    f__law_leads_to := _, d__law_leads_to := d41, F__law_leads_to := F41, g__law_leads_to := He.glo_ok X G (c.fact 41 (f := .glo "_law_leads_to") rfl),
    n_bool := He.free_ok X G (c.fact 45 (f := .free "bool") rfl),
    n_dict := He.free_ok X G (c.fact 57 (f := .free "dict") rfl),
    n_enumerate := He.free_ok X G (c.fact 48 (f := .free "enumerate") rfl),
    n_int := He.free_ok X G (c.fact 44 (f := .free "int") rfl),
    n_isinstance := He.free_ok X G (c.fact 43 (f := .free "isinstance") rfl),
    n_len := He.free_ok X G (c.fact 47 (f := .free "len") rfl),
    n_list := He.free_ok X G (c.fact 53 (f := .free "list") rfl),
    n_min := He.free_ok X G (c.fact 54 (f := .free "min") rfl),
    n_range := He.free_ok X G (c.fact 50 (f := .free "range") rfl),
    n_set := He.free_ok X G (c.fact 51 (f := .free "set") rfl),
    n_sorted := He.free_ok X G (c.fact 49 (f := .free "sorted") rfl),
    n_str := He.free_ok X G (c.fact 56 (f := .free "str") rfl),
    n_sum := He.free_ok X G (c.fact 52 (f := .free "sum") rfl),
    n_tuple := He.free_ok X G (c.fact 46 (f := .free "tuple") rfl),
    n_zip := He.free_ok X G (c.fact 55 (f := .free "zip") rfl),
    k_MOST_LAMPS := t_MOST_LAMPS, c_MOST_LAMPS := h_MOST_LAMPS,
    k_MOST_WORD := t_MOST_WORD, c_MOST_WORD := h_MOST_WORD,
    k_MOST_PRICE := t_MOST_PRICE, c_MOST_PRICE := h_MOST_PRICE }⟩
theorem facts {P : Program} {w : World} {K : PySem.W.Frag} {h : Heap} {mg : Str → Option Value} {f : Addr} (X : K.In h) (G : h.Ns mainGlobals mg) (hfa : mg ("law" : Str) = some (.ref f)) (c : He.SaysD faL fnL K) :
    ∃ fd : FuncData, (∀ (s : Shared) (v : Value), BindsTo s fd ⟨[v], []⟩ [("_law_script", v)]) ∧ ∀ base : Heap, K.In base → base.Ns mainGlobals mg → FnOk P w K mg base CX0 7 f fd ["_law_script"] (S_law K) := by
  obtain ⟨fd, F⟩ := c.def_ 42 (d := d_law) rfl
  have e := hfa.symm.trans (He.glo_ok X G (c.fact 42 (f := .glo "law") rfl))
  cases e
  have b := FunD.bindsA (ps := ["_law_script"]) F fun _ _ _ _ _ _ us hl => match us, hl with | [_], _ => rfl
  obtain ⟨T⟩ := mkTxt X G c
  exact ⟨fd, fun s v => b s [v] rfl, fun base _ _ => ok_law T F⟩
end Hk
open PySem PySem.W PySem.Calls PyProof.Rows
theorem PySem.Challenge.cw_handons_k39_whole_prices_holds : PySem.Challenge.rw_handons_k39_whole_prices.Holds := by
  w_on; o_law
  refine HandSHeadRun.head_any (r := OpenLaw.row PySem.Challenge.rw_handons_k39_whole_prices) (q := view (OpenLaw.row PySem.Challenge.rw_handons_k39_whole_prices).prog [56]) (H := Hk.hk) (ob := Hk.ob) (M := 3000) (loose := Hk.looseL) (d := HandSHeadRun.topDef (OpenLaw.row PySem.Challenge.rw_handons_k39_whole_prices).prog 56) (kwd := []) Hk.ob_eq
    (by kernel_rfl) (fun s => by kernel_rfl) Hk.run (by kernel_rfl) (by kernel_rfl) (by kernel_rfl) (by rfl) (by first | assumption | decide +kernel) (by decide +kernel) ⟨rfl, rfl, rfl, rfl, rfl, by decide +kernel⟩ ?hw ?hc
  case hw => w_witness2
  case hc =>
    refine L2.walk_ofE (l := PySem.Challenge.rw_handons_k39_whole_prices) (n := 63) (k := 7) (x := "_law_script") (CX := L2.CX0) rfl (by decide) (by kernel_rfl) ⟨rfl, by decide, by decide⟩ ?F (fun _ _ _ _ z => z)
    intro w mg fa h Y G hmg0
    obtain ⟨K, KX, c⟩ := Y
    have hmg : mg ("law" : PySem.Str) = some (.ref fa) := by
      have e : (HandSHeadRun.topDef (OpenLaw.row PySem.Challenge.rw_handons_k39_whole_prices).prog 56).name = ("law" : PySem.Str) := by kernel_rfl
      rw [← e]
      exact hmg0
    obtain ⟨fd, hb, hF⟩ := Hk.facts (P := (PySem.Challenge.rw_handons_k39_whole_prices).prog) (w := w) KX G hmg c
    exact ⟨K, fd, Hk.S_law K, KX, hb, fun H a ns hl _ hS => ⟨a, ns, rfl, hS, fun _ => rfl⟩, hF⟩
