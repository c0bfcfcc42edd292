import PyProof.Rows.All
import Wide.All
import OpenK.AllK
import Wide.FinOn
import HandS.ForMost
import HandS.Conv
import HandS.Star
import HandS.Strs
import HandS.SetFor
import HandS.TupAny
import HandS.IsInst
import HandS.SortInts
import HandS.Wide
import HandS.Style
import HandS.Zip
import HandS.Walk
import KE.GoesMore
import KE.GoesEnum
import PyProof.ReprLen
import PySem.Challenge.RW_burstapart_k50_whole_ways
set_option Elab.async false
set_option linter.all false
set_option maxRecDepth 100000
set_option maxHeartbeats 4000000
namespace Bw

/-! ### counting -/
/-- how many of L are x or more -/
def cge : List Int → Int → Int
  | [], _ => 0
  | p :: L, x => (if x ≤ p then 1 else 0) + cge L x
/-- how many of L are below x -/
def clt : List Int → Int → Int
  | [], _ => 0
  | p :: L, x => (if p < x then 1 else 0) + clt L x

theorem cge_clt (L : List Int) (x : Int) : cge L x + clt L x = (L.length : Int) := by
  induction L with
  | nil => rfl
  | cons p L ih =>
    simp only [cge, clt, List.length_cons]
    by_cases h : x ≤ p
    · rw [if_pos h, if_neg (by omega)]; omega
    · rw [if_neg h, if_pos (by omega)]; omega
theorem cge_nonneg (L : List Int) (x : Int) : 0 ≤ cge L x := by
  induction L with
  | nil => exact Int.le_refl 0
  | cons p L ih =>
    simp only [cge]
    split <;> omega
theorem clt_nonneg (L : List Int) (x : Int) : 0 ≤ clt L x := by
  induction L with
  | nil => exact Int.le_refl 0
  | cons p L ih =>
    simp only [clt]
    split <;> omega
theorem cge_le (L : List Int) (x : Int) : cge L x ≤ (L.length : Int) := by
  have := cge_clt L x; have := clt_nonneg L x; omega
theorem cge_mono (L : List Int) {x y : Int} (h : x ≤ y) : cge L y ≤ cge L x := by
  induction L with
  | nil => exact Int.le_refl 0
  | cons p L ih =>
    simp only [cge]
    by_cases h1 : y ≤ p
    · rw [if_pos h1, if_pos (by omega)]; omega
    · rw [if_neg h1]; split <;> omega
theorem cge_all {L : List Int} {x : Int} (h : (L.length : Int) ≤ cge L x) : ∀ p ∈ L, x ≤ p := by
  induction L with
  | nil => intro p hp; cases hp
  | cons q L ih =>
    simp only [cge, List.length_cons] at h
    have h1 := cge_le L x
    by_cases hq : x ≤ q
    · rw [if_pos hq] at h
      intro p hp
      rcases List.mem_cons.mp hp with rfl | hp
      · exact hq
      · exact ih (by omega) p hp
    · rw [if_neg hq] at h; omega
theorem cge_of_all {L : List Int} {x : Int} (h : ∀ p ∈ L, x ≤ p) : cge L x = (L.length : Int) := by
  induction L with
  | nil => rfl
  | cons q L ih =>
    simp only [cge, List.length_cons]
    rw [if_pos (h q List.mem_cons_self), ih fun p hp => h p (List.mem_cons_of_mem _ hp)]; omega
theorem clt_append (L M : List Int) (x : Int) : clt (L ++ M) x = clt L x + clt M x := by
  induction L with
  | nil => simp [clt]
  | cons p L ih => simp only [List.cons_append, clt, ih]; omega

/-- the one at place k is taken out -/
theorem cge_erase : ∀ (L : List Int) (k : Nat) (a x : Int), L[k]? = some a → cge (L.eraseIdx k) x = cge L x - (if x ≤ a then 1 else 0)
  | [], k, a, x, h => by simp at h
  | p :: L, 0, a, x, h => by
    have e : p = a := by simpa using h
    subst e
    simp only [List.eraseIdx_cons_zero, cge]; omega
  | p :: L, k + 1, a, x, h => by
    have ih := cge_erase L k a x (by simpa using h)
    simp only [List.eraseIdx_cons_succ, cge, ih]; omega

/-! ### many_of -/
/-- the first k factors -/
def moTo (L : List Int) (n : Nat) (t : Int) : Nat → Int
  | 0 => 1
  | k + 1 => moTo L n t k * (cge L (t + (n : Int) - 1 - (k : Int)) - (k : Int))
def mo (L : List Int) (t : Int) : Int := moTo L L.length t L.length

/-- the same, one that is a having been taken out -/
def moA (L : List Int) (n : Nat) (t a : Int) : Nat → Int
  | 0 => 1
  | k + 1 => moA L n t a k * (cge L (t + (n : Int) - 1 - (k : Int)) - (k : Int) - (if t + (n : Int) - 1 - (k : Int) ≤ a then 1 else 0))

theorem moTo_erase {L : List Int} {j : Nat} {a : Int} (h : L[j]? = some a) (n : Nat) (t : Int) : ∀ k, moTo (L.eraseIdx j) n (t + 1) k = moA L (n + 1) t a k
  | 0 => rfl
  | k + 1 => by
    simp only [moTo, moA, moTo_erase h n t k]
    rw [cge_erase L j a _ h]
    have e : t + 1 + (n : Int) - 1 - (k : Int) = t + ((n + 1 : Nat) : Int) - 1 - (k : Int) := by omega
    rw [e]
    congr 1
    omega
theorem moA_low {L : List Int} {n : Nat} {t a : Int} : ∀ k : Nat, (a < t + (n : Int) - (k : Int)) → moA L n t a k = moTo L n t k
  | 0, _ => rfl
  | k + 1, h => by
    simp only [moA, moTo]
    rw [moA_low k (by omega), if_neg (by omega), Int.sub_zero]

theorem sum_map_add {α : Type} (f g : α → Int) (l : List α) : (l.map fun a => f a + g a).sum = (l.map f).sum + (l.map g).sum := by
  induction l with
  | nil => rfl
  | cons a l ih => simp only [List.map_cons, List.sum_cons, ih]; omega
theorem sum_map_mul {α : Type} (f : α → Int) (c : Int) (l : List α) : (l.map fun a => f a * c).sum = (l.map f).sum * c := by
  induction l with
  | nil => simp
  | cons a l ih => simp only [List.map_cons, List.sum_cons, ih, Int.add_mul]
theorem sum_map_congr {α : Type} {f g : α → Int} {l : List α} (h : ∀ a ∈ l, f a = g a) : (l.map f).sum = (l.map g).sum := by
  induction l with
  | nil => rfl
  | cons a l ih =>
    simp only [List.map_cons, List.sum_cons]
    rw [h a List.mem_cons_self, ih fun b hb => h b (List.mem_cons_of_mem _ hb)]
theorem sum_ge (L : List Int) (x c : Int) : (L.map fun a => if x ≤ a then c else 0).sum = cge L x * c := by
  induction L with
  | nil => simp [cge]
  | cons p L ih =>
    simp only [List.map_cons, List.sum_cons, ih, cge, Int.add_mul]
    split <;> simp
theorem sum_bt (L : List Int) {x y : Int} (c : Int) (h : x ≤ y) : (L.map fun a => if x ≤ a ∧ a < y then c else 0).sum = (cge L x - cge L y) * c := by
  induction L with
  | nil => simp [cge]
  | cons p L ih =>
    simp only [List.map_cons, List.sum_cons, ih, cge]
    by_cases h1 : x ≤ p
    · by_cases h2 : p < y
      · rw [if_pos ⟨h1, h2⟩, if_pos h1, if_neg (by omega), show (1 + cge L x - (0 + cge L y)) = 1 + (cge L x - cge L y) by omega, Int.add_mul, Int.one_mul]
      · rw [if_neg (by omega), if_pos h1, if_pos (by omega), show (1 + cge L x - (1 + cge L y)) = (cge L x - cge L y) by omega, Int.zero_add]
    · rw [if_neg (by omega), if_neg h1, if_neg (by omega), show (0 + cge L x - (0 + cge L y)) = (cge L x - cge L y) by omega, Int.zero_add]

/-- the sum over the ones that may be taken at the k-th step -/
theorem sum_moA (L : List Int) (n : Nat) (t : Int) : ∀ k : Nat, (L.map fun a => if t + (n : Int) - 1 - (k : Int) ≤ a then moA L n t a k else 0).sum = moTo L n t (k + 1)
  | 0 => by
    have e : ∀ a : Int, (if t + (n : Int) - 1 - ((0 : Nat) : Int) ≤ a then moA L n t a 0 else 0) = if t + (n : Int) - 1 - ((0 : Nat) : Int) ≤ a then 1 else 0 := fun a => rfl
    simp only [e, sum_ge, moTo]
    omega
  | k + 1 => by
    have ih := sum_moA L n t k
    have e : ∀ a ∈ L, (if t + (n : Int) - 1 - ((k + 1 : Nat) : Int) ≤ a then moA L n t a (k + 1) else 0)
        = (if t + (n : Int) - 1 - (k : Int) ≤ a then moA L n t a k else 0) * (cge L (t + (n : Int) - 1 - (k : Int)) - (k : Int) - 1)
          + (if t + (n : Int) - 1 - ((k + 1 : Nat) : Int) ≤ a ∧ a < t + (n : Int) - 1 - (k : Int) then moTo L n t (k + 1) else 0) := by
      intro a _
      by_cases h1 : t + (n : Int) - 1 - (k : Int) ≤ a
      · rw [if_pos (by omega), if_pos h1, if_neg (by omega), Int.add_zero]
        simp only [moA]
        rw [if_pos h1]
      · by_cases h2 : t + (n : Int) - 1 - ((k + 1 : Nat) : Int) ≤ a
        · rw [if_pos h2, if_neg h1, if_pos ⟨h2, by omega⟩, Int.zero_mul, Int.zero_add]
          exact moA_low (k + 1) (by omega)
        · rw [if_neg h2, if_neg h1, if_neg (by omega)]; simp
    rw [sum_map_congr e, sum_map_add, sum_map_mul, ih, sum_bt L _ (by omega)]
    show moTo L n t (k + 1) * _ + _ = moTo L n t (k + 1) * _
    rw [Int.mul_comm (cge L _ - cge L _) (moTo L n t (k + 1)), ← Int.mul_add]
    congr 1
    omega

/-- what the thing may take at place o, in how many ways the others go on -/
def fAt (L : List Int) (i : Int) (o : Nat) : Int :=
  match L[o]? with
  | some a => if i ≤ a then mo (L.eraseIdx o) (i + 1) else 0
  | none => 0
theorem fAt_some {L : List Int} {i : Int} {o : Nat} {a : Int} (h : L[o]? = some a) : fAt L i o = if i ≤ a then mo (L.eraseIdx o) (i + 1) else 0 := by
  unfold fAt; rw [h]
def pre (L : List Int) (i : Int) : Nat → Int
  | 0 => 0
  | k + 1 => pre L i k + fAt L i k

theorem sum_range_get (f : Int → Int) : ∀ (L : List Int), (L.map f).sum = ((List.range L.length).map fun o => match L[o]? with | some a => f a | none => 0).sum
  | [] => rfl
  | a :: L => by
    rw [List.map_cons, List.sum_cons, List.length_cons, List.range_succ_eq_map, List.map_cons, List.sum_cons, List.map_map, sum_range_get f L]
    rfl
theorem pre_sum (L : List Int) (i : Int) : ∀ k, pre L i k = ((List.range k).map (fAt L i)).sum
  | 0 => rfl
  | k + 1 => by
    rw [List.range_succ, List.map_append, List.sum_append, ← pre_sum L i k]
    simp [pre]
/-- THE IDENTITY -/
theorem pre_all {L : List Int} (i : Int) (h : L ≠ []) : pre L i L.length = mo L i := by
  obtain ⟨n, hn⟩ : ∃ n, L.length = n + 1 := by
    cases L with
    | nil => exact absurd rfl h
    | cons a L => exact ⟨L.length, rfl⟩
  have hs := sum_moA L L.length i n
  rw [pre_sum, mo]
  have e1 : moTo L L.length i L.length = moTo L L.length i (n + 1) := by rw [hn]
  rw [e1, ← hs, sum_range_get]
  refine sum_map_congr fun o ho => ?_
  have ho' : o < L.length := List.mem_range.mp ho
  have hg : L[o]? = some L[o] := List.getElem?_eq_getElem ho'
  rw [fAt_some hg]
  simp only [hg]
  have e2 : i + (L.length : Int) - 1 - (n : Int) = i := by omega
  rw [e2]
  have hl : (L.eraseIdx o).length = n := by rw [List.length_eraseIdx_of_lt ho']; omega
  unfold mo
  rw [hl, moTo_erase hg n i n]
  have e3 : n + 1 = L.length := hn.symm
  rw [e3]

/-! ### it is never below 0; what it being above 0 tells -/
theorem moTo_nonneg (L : List Int) (n : Nat) (t : Int) : ∀ k, 0 ≤ moTo L n t k ∧ (0 < moTo L n t (k + 1) → 1 ≤ cge L (t + (n : Int) - 1 - (k : Int)) - (k : Int)) ∧ (moTo L n t (k + 1) = 0 ∨ 1 ≤ cge L (t + (n : Int) - 1 - (k : Int)) - (k : Int))
  | 0 => by
    have h := cge_nonneg L (t + (n : Int) - 1 - ((0 : Nat) : Int))
    refine ⟨by simp [moTo], ?_, ?_⟩
    · simp only [moTo]; omega
    · simp only [moTo]; omega
  | k + 1 => by
    obtain ⟨h1, h2, h3⟩ := moTo_nonneg L n t k
    have hm := cge_mono L (x := t + (n : Int) - 1 - ((k + 1 : Nat) : Int)) (y := t + (n : Int) - 1 - (k : Int)) (by omega)
    have hz : 0 ≤ moTo L n t (k + 1) := by
      rcases h3 with h3 | h3
      · rw [h3]; exact Int.le_refl 0
      · exact Int.mul_nonneg h1 (by omega)
    have hc : 1 ≤ cge L (t + (n : Int) - 1 - (k : Int)) - (k : Int) → 0 ≤ cge L (t + (n : Int) - 1 - ((k + 1 : Nat) : Int)) - ((k + 1 : Nat) : Int) := by omega
    have key : moTo L n t (k + 1 + 1) = 0 ∨ 1 ≤ cge L (t + (n : Int) - 1 - ((k + 1 : Nat) : Int)) - ((k + 1 : Nat) : Int) := by
      rcases h3 with h3 | h3
      · left
        show moTo L n t (k + 1) * _ = 0
        rw [h3, Int.zero_mul]
      · have h4 := hc h3
        by_cases h5 : cge L (t + (n : Int) - 1 - ((k + 1 : Nat) : Int)) - ((k + 1 : Nat) : Int) = 0
        · left
          show moTo L n t (k + 1) * _ = 0
          rw [h5, Int.mul_zero]
        · right; omega
    refine ⟨hz, fun hp => ?_, key⟩
    rcases key with key | key
    · omega
    · exact key
theorem mo_nonneg (L : List Int) (t : Int) : 0 ≤ mo L t := (moTo_nonneg L L.length t L.length).1
theorem mo_all {L : List Int} {t : Int} (h : 0 < mo L t) : ∀ p ∈ L, t ≤ p := by
  cases L with
  | nil => intro p hp; cases hp
  | cons a r =>
    have h2 := (moTo_nonneg (a :: r) (r.length + 1) t r.length).2.1 h
    have e : t + ((r.length + 1 : Nat) : Int) - 1 - (r.length : Int) = t := by omega
    rw [e] at h2
    exact cge_all (by rw [List.length_cons]; omega)
theorem mo_nil (t : Int) : mo [] t = 1 := rfl
theorem fAt_nonneg (L : List Int) (i : Int) (o : Nat) : 0 ≤ fAt L i o := by
  unfold fAt
  split
  · split
    · exact mo_nonneg _ _
    · exact Int.le_refl 0
  · exact Int.le_refl 0
theorem pre_mono (L : List Int) (i : Int) {j k : Nat} (h : j ≤ k) : pre L i j ≤ pre L i k := by
  induction k with
  | zero => rw [Nat.le_zero.mp h]; exact Int.le_refl _
  | succ k ih =>
    rcases Nat.lt_or_eq_of_le h with h | h
    · have := ih (by omega); have := fAt_nonneg L i k; simp only [pre]; omega
    · rw [h]; exact Int.le_refl _

/-! ### a row at a place -/
/-- from thing i on, the places left are L: row is the r-th one -/
inductive Way : List Int → Int → Int → List Int → Prop
  | nil (i : Int) : Way [] i 0 []
  | cons {L : List Int} {i : Int} {o : Nat} {a rest : Int} {row : List Int} (h : L[o]? = some a) (hi : i ≤ a) (h0 : 0 ≤ rest) (h1 : rest < mo (L.eraseIdx o) (i + 1))
      (w : Way (L.eraseIdx o) (i + 1) rest row) : Way L i (pre L i o + rest) ((a - i) :: row)

theorem Way.bound {L : List Int} {i r : Int} {row : List Int} (w : Way L i r row) : 0 ≤ r ∧ r < mo L i ∧ row.length = L.length := by
  induction w with
  | nil i => exact ⟨Int.le_refl 0, by rw [mo_nil]; omega, rfl⟩
  | @cons L i o a rest row h hi h0 h1 w ih =>
    have ho : o < L.length := (List.getElem?_eq_some_iff.mp h).1
    have hne : L ≠ [] := by intro e; subst e; simp at h
    have hp := pre_mono L i (Nat.zero_le o)
    have hq := pre_mono L i (show o + 1 ≤ L.length by omega)
    rw [pre_all i hne] at hq
    have hf : fAt L i o = mo (L.eraseIdx o) (i + 1) := by rw [fAt_some h, if_pos hi]
    simp only [pre] at hp hq
    refine ⟨by omega, by omega, ?_⟩
    rw [List.length_cons, ih.2.2, List.length_eraseIdx_of_lt ho]; omega

/-- the loop that looks for the place -/
theorem find_at {L : List Int} {i r : Int} (h0 : 0 ≤ r) (h1 : r < mo L i) (hne : L ≠ []) : ∃ (o : Nat) (a : Int), L[o]? = some a ∧ i ≤ a ∧ pre L i o ≤ r ∧ r < pre L i (o + 1) := by
  have hall := pre_all i hne
  have key : ∀ k, k ≤ L.length → r < pre L i k → ∃ o, o < k ∧ pre L i o ≤ r ∧ r < pre L i (o + 1) := by
    intro k
    induction k with
    | zero => intro _ h; simp only [pre] at h; omega
    | succ k ih =>
      intro hk h
      by_cases h2 : r < pre L i k
      · obtain ⟨o, ho, h3⟩ := ih (by omega) h2
        exact ⟨o, by omega, h3⟩
      · exact ⟨k, by omega, by omega, h⟩
  obtain ⟨o, ho, h2, h3⟩ := key L.length (Nat.le_refl _) (by rw [hall]; exact h1)
  have hg : L[o]? = some L[o] := List.getElem?_eq_getElem ho
  refine ⟨o, L[o], hg, ?_, h2, h3⟩
  simp only [pre] at h3
  rw [fAt_some hg] at h3
  split at h3
  · assumption
  · omega
theorem Way.exists : ∀ (n : Nat) (L : List Int) (i r : Int), L.length = n → 0 ≤ r → r < mo L i → ∃ row, Way L i r row
  | 0, L, i, r, hn, h0, h1 => by
    have e : L = [] := List.length_eq_zero_iff.mp hn
    subst e
    rw [mo_nil] at h1
    have : r = 0 := by omega
    subst this
    exact ⟨[], .nil i⟩
  | n + 1, L, i, r, hn, h0, h1 => by
    have hne : L ≠ [] := by intro e; subst e; simp at hn
    obtain ⟨o, a, hg, hi, h2, h3⟩ := find_at h0 h1 hne
    have ho : o < L.length := (List.getElem?_eq_some_iff.mp hg).1
    have hf : fAt L i o = mo (L.eraseIdx o) (i + 1) := by rw [fAt_some hg, if_pos hi]
    simp only [pre] at h3
    obtain ⟨row, w⟩ := Way.exists n (L.eraseIdx o) (i + 1) (r - pre L i o) (by rw [List.length_eraseIdx_of_lt ho]; omega) (by omega) (by omega)
    have := Way.cons hg hi (by omega) (by omega) w
    rw [show pre L i o + (r - pre L i o) = r by omega] at this
    exact ⟨_, this⟩

/-! ### order -/
def lexLt : List Int → List Int → Bool
  | [], [] => false
  | [], _ :: _ => true
  | _ :: _, [] => false
  | x :: xs, y :: ys => if x = y then lexLt xs ys else decide (x < y)
theorem sorted_get {L : List Int} (hs : L.Pairwise (· < ·)) {o p : Nat} {a b : Int} (ha : L[o]? = some a) (hb : L[p]? = some b) (h : o < p) : a < b := by
  obtain ⟨h1, e1⟩ := List.getElem?_eq_some_iff.mp ha
  obtain ⟨h2, e2⟩ := List.getElem?_eq_some_iff.mp hb
  rw [← e1, ← e2]
  exact List.pairwise_iff_getElem.mp hs o p h1 h2 h
theorem sorted_erase {L : List Int} (hs : L.Pairwise (· < ·)) (k : Nat) : (L.eraseIdx k).Pairwise (· < ·) := hs.sublist (List.eraseIdx_sublist L k)
theorem Way.order {L : List Int} {i r : Int} {row : List Int} (w : Way L i r row) : ∀ {r' : Int} {row' : List Int}, L.Pairwise (· < ·) → Way L i r' row' → r ≤ r' → (r = r' ∧ row = row') ∨ (r < r' ∧ lexLt row row' = true) := by
  induction w with
  | nil i =>
    intro r' row' _ w' _
    cases w' with
    | nil => exact .inl ⟨rfl, rfl⟩
    | cons h => simp at h
  | @cons L i o a rest row h hi h0 h1 w ih =>
    intro r' row' hs w' hle
    cases w' with
    | nil => simp at h
    | @cons _ _ o' a' rest' row' h' hi' h0' h1' w' =>
      have hf : fAt L i o = mo (L.eraseIdx o) (i + 1) := by rw [fAt_some h, if_pos hi]
      have hf' : fAt L i o' = mo (L.eraseIdx o') (i + 1) := by rw [fAt_some h', if_pos hi']
      rcases Nat.lt_trichotomy o o' with hlt | rfl | hlt
      · have hp := pre_mono L i (show o + 1 ≤ o' by omega)
        simp only [pre] at hp
        have hab := sorted_get hs h h' hlt
        refine .inr ⟨by omega, ?_⟩
        simp only [lexLt]
        rw [if_neg (by omega)]
        exact decide_eq_true (by omega)
      · have e : a = a' := by rw [h] at h'; exact Option.some.inj h'
        subst e
        rcases ih (sorted_erase hs o) w' (by omega) with ⟨h3, h4⟩ | ⟨h3, h4⟩
        · exact .inl ⟨by omega, by rw [h4]⟩
        · refine .inr ⟨by omega, ?_⟩
          simp only [lexLt]
          exact h4
      · have hp := pre_mono L i (show o' + 1 ≤ o by omega)
        simp only [pre] at hp
        omega
theorem Way.uniq {L : List Int} {i r : Int} {row row' : List Int} (hs : L.Pairwise (· < ·)) (w : Way L i r row) (w' : Way L i r row') : row = row' := by
  rcases w.order hs w' (Int.le_refl r) with ⟨_, h⟩ | ⟨h, _⟩
  · exact h
  · omega

/-! ### the first one -/
def firstRow : List Int → Int → List Int
  | [], _ => []
  | p :: L, i => (p - i) :: firstRow L (i + 1)
theorem moTo_tail {a : Int} {r : List Int} {i : Int} (hs : (a :: r).Pairwise (· < ·)) (n : Nat) (hn : n = r.length) : ∀ k, k ≤ n → 0 < moTo (a :: r) (n + 1) i k → 0 < moTo r n (i + 1) k
  | 0, _, _ => by simp [moTo]
  | k + 1, hk, h => by
    have h1 : 0 < moTo (a :: r) (n + 1) i k := by
      rcases Int.lt_or_le 0 (moTo (a :: r) (n + 1) i k) with z | z
      · exact z
      · have z2 := (moTo_nonneg (a :: r) (n + 1) i k).1
        have z3 : moTo (a :: r) (n + 1) i k = 0 := by omega
        simp only [moTo, z3, Int.zero_mul] at h
        omega
    have h2 := (moTo_nonneg (a :: r) (n + 1) i k).2.1 h
    have ih := moTo_tail hs n hn k (by omega) h1
    show 0 < moTo r n (i + 1) k * _
    refine Int.mul_pos ih ?_
    have e : i + 1 + (n : Int) - 1 - (k : Int) = i + ((n + 1 : Nat) : Int) - 1 - (k : Int) := by omega
    rw [e]
    simp only [cge] at h2
    split at h2
    · rename_i hx
      have hall : ∀ p ∈ r, i + ((n + 1 : Nat) : Int) - 1 - (k : Int) ≤ p := fun p hp => by
        have := (List.pairwise_cons.mp hs).1 p hp
        omega
      rw [cge_of_all hall]
      omega
    · omega
theorem first_way : ∀ (L : List Int) (i : Int), L.Pairwise (· < ·) → 0 < mo L i → Way L i 0 (firstRow L i)
  | [], i, _, _ => .nil i
  | a :: r, i, hs, h => by
    have hi := mo_all h a List.mem_cons_self
    have h1 : 0 < moTo (a :: r) (r.length + 1) i r.length := by
      have z2 := (moTo_nonneg (a :: r) (r.length + 1) i r.length).1
      rcases Int.lt_or_le 0 (moTo (a :: r) (r.length + 1) i r.length) with z | z
      · exact z
      · have z3 : moTo (a :: r) (r.length + 1) i r.length = 0 := by omega
        have h' : 0 < moTo (a :: r) (r.length + 1) i r.length * _ := h
        rw [z3, Int.zero_mul] at h'
        omega
    have h2 : 0 < mo r (i + 1) := moTo_tail hs r.length rfl r.length (Nat.le_refl _) h1
    have w := first_way r (i + 1) (List.pairwise_cons.mp hs).2 h2
    have := Way.cons (L := a :: r) (i := i) (o := 0) (a := a) (rest := 0) (row := firstRow r (i + 1)) rfl hi (Int.le_refl 0) h2 w
    exact this
theorem firstRow_length : ∀ (L : List Int) (i : Int), (firstRow L i).length = L.length
  | [], _ => rfl
  | p :: L, i => by simp [firstRow, firstRow_length L (i + 1)]
end Bw

namespace Bw

abbrev Asc (L : List Int) : Prop := L.Pairwise (· < ·)

/-! ### ascending lists -/
theorem Asc.nodup {L : List Int} (h : Asc L) : L.Nodup := h.imp fun {a b} (q : a < b) => by omega
theorem asc_ext {L M : List Int} (hL : Asc L) (hM : Asc M) (h : ∀ x, x ∈ L ↔ x ∈ M) : L = M :=
  List.Perm.eq_of_pairwise (le := (· < ·)) (fun a b _ _ h1 h2 => by omega) hL hM ((List.perm_ext_iff_of_nodup hL.nodup hM.nodup).mpr h)
theorem perm_sorted {L M : List Int} (hp : L.Perm M) (hL : L.Pairwise (· ≤ ·)) (hM : M.Pairwise (· ≤ ·)) : L = M :=
  List.Perm.eq_of_pairwise (le := (· ≤ ·)) (fun a b _ _ h1 h2 => by omega) hL hM hp
theorem Asc.le {L : List Int} (h : Asc L) : L.Pairwise (· ≤ ·) := h.imp fun {a b} (q : a < b) => by omega

def srt (l : List Int) : List Int := l.mergeSort fun a b => decide (a ≤ b)
theorem srt_perm (l : List Int) : (srt l).Perm l := List.mergeSort_perm l _
theorem srt_le (l : List Int) : (srt l).Pairwise (· ≤ ·) := by
  have h := List.pairwise_mergeSort (le := fun a b : Int => decide (a ≤ b)) (fun a b c h1 h2 => by simp at h1 h2 ⊢; omega) (fun a b => by simp; omega) l
  exact h.imp fun {a b} q => by simpa using q
theorem srt_eq {l l' : List Int} (hp : l'.Perm l) (hs : l'.Pairwise (· ≤ ·)) : l' = srt l :=
  perm_sorted (hp.trans (srt_perm l).symm) hs (srt_le l)
theorem srt_asc {l : List Int} (h : Asc l) : srt l = l := (srt_eq (List.Perm.refl l) h.le).symm

/-! ### the model of the states -/
def bhM (s : List Int) (h : Int) : List Int := srt (((s ++ [h]).filter fun n => decide (0 < n)).map fun n => n - 1)
def mayM (s : List Int) (h : Int) : Bool := if 0 ∈ s then decide (1 ≤ h) && decide (h ≤ 1000) && !decide (h ∈ s) else decide (h = 0)
def ledM : List Int → List Int → Option (List Int)
  | s, [] => some s
  | s, h :: r => if mayM s h then ledM (bhM s h) r else none

/-- a state -/
structure IsSt (top : Int) (s : List Int) : Prop where
  asc : Asc s
  lo : ∀ x ∈ s, 0 ≤ x
  hi : ∀ x ∈ s, x ≤ top

def Rch (one two : List Int) (t : Nat) : Prop := one.length = two.length ∧ ∀ n ∈ one, (t : Int) ≤ n → n - (t : Int) ∈ two

/-- range(t) -/
def rg (t : Nat) : List Int := (List.range t).map fun k : Nat => (k : Int)
def uni (two : List Int) (t : Nat) : List Int := rg t ++ two.map fun n => n + (t : Int)
def pl (one two : List Int) (t : Nat) : List Int := (uni two t).filter fun p => !decide (p ∈ one)

theorem mem_rg {t : Nat} {x : Int} : x ∈ rg t ↔ 0 ≤ x ∧ x < (t : Int) := by
  unfold rg
  rw [List.mem_map]
  constructor
  · rintro ⟨k, hk, rfl⟩
    have := List.mem_range.mp hk
    omega
  · rintro ⟨h1, h2⟩
    exact ⟨x.toNat, List.mem_range.mpr (by omega), by omega⟩
theorem rg_asc (t : Nat) : Asc (rg t) := by
  unfold rg
  refine List.pairwise_map.mpr ?_
  exact List.pairwise_lt_range.imp fun {a b} (q : a < b) => by omega
theorem rg_length (t : Nat) : (rg t).length = t := by unfold rg; rw [List.length_map, List.length_range]
theorem mem_uni {two : List Int} {t : Nat} {x : Int} : x ∈ uni two t ↔ (0 ≤ x ∧ x < (t : Int)) ∨ x - (t : Int) ∈ two := by
  unfold uni
  rw [List.mem_append, mem_rg, List.mem_map]
  constructor
  · rintro (h | ⟨n, hn, rfl⟩)
    · exact .inl h
    · refine .inr ?_
      rw [show n + (t : Int) - (t : Int) = n by omega]
      exact hn
  · rintro (h | h)
    · exact .inl h
    · exact .inr ⟨x - t, h, by omega⟩
theorem uni_asc {two : List Int} {top : Int} (h : IsSt top two) (t : Nat) : Asc (uni two t) := by
  unfold uni
  refine List.pairwise_append.mpr ⟨rg_asc t, List.pairwise_map.mpr (h.asc.imp fun {a b} (q : a < b) => by omega), fun a ha b hb => ?_⟩
  have h1 := mem_rg.mp ha
  obtain ⟨n, hn, rfl⟩ := List.mem_map.mp hb
  have := h.lo n hn
  omega
theorem pl_asc {one two : List Int} {top : Int} (h : IsSt top two) (t : Nat) : Asc (pl one two t) := (uni_asc h t).filter _
theorem uni_length (two : List Int) (t : Nat) : (uni two t).length = t + two.length := by
  unfold uni; rw [List.length_append, rg_length, List.length_map]
theorem uni_one {one two : List Int} {top top' : Int} {t : Nat} (h1 : IsSt top one) (h2 : IsSt top' two) (r : Rch one two t) : (uni two t).filter (fun p => decide (p ∈ one)) = one := by
  refine asc_ext ((uni_asc h2 t).filter _) h1.asc fun x => ?_
  rw [List.mem_filter, mem_uni]
  simp only [decide_eq_true_eq]
  constructor
  · exact fun h => h.2
  · intro h
    refine ⟨?_, h⟩
    by_cases hx : (t : Int) ≤ x
    · exact .inr (r.2 x h hx)
    · exact .inl ⟨h1.lo x h, by omega⟩
theorem pl_length {one two : List Int} {top top' : Int} {t : Nat} (h1 : IsSt top one) (h2 : IsSt top' two) (r : Rch one two t) : (pl one two t).length = t := by
  have e := List.length_eq_countP_add_countP (fun p => decide (p ∈ one)) (l := uni two t)
  rw [List.countP_eq_length_filter, List.countP_eq_length_filter, uni_one h1 h2 r, uni_length] at e
  have e2 : (uni two t).filter (fun a => decide ¬decide (a ∈ one) = true) = pl one two t := by
    unfold pl
    refine List.filter_congr fun x _ => ?_
    by_cases h : x ∈ one <;> simp [h]
  rw [e2] at e
  have := r.1
  omega

/-! ### how many ways -/
def lp (one : List Int) : Nat → Int
  | 0 => 1
  | k + 1 => lp one k * (1 + clt one (k : Int))
theorem lp_pos (one : List Int) : ∀ k, 1 ≤ lp one k
  | 0 => Int.le_refl 1
  | k + 1 => by
    have h1 := lp_pos one k
    have h2 := clt_nonneg one (k : Int)
    have h3 : lp one (k + 1) = lp one k + lp one k * clt one (k : Int) := by simp only [lp, Int.mul_add, Int.mul_one]
    have h4 := Int.mul_nonneg (show 0 ≤ lp one k by omega) h2
    omega
theorem clt_filter (L : List Int) (p : Int → Bool) (x : Int) : clt L x = clt (L.filter p) x + clt (L.filter fun a => !p a) x := by
  induction L with
  | nil => rfl
  | cons a L ih =>
    simp only [clt, List.filter_cons]
    cases p a <;> simp only [Bool.not_true, Bool.not_false, if_true, if_false, Bool.false_eq_true, clt, ih] <;> omega
theorem clt_rg (t : Nat) (x : Int) (h0 : 0 ≤ x) : ∀ _ : x ≤ (t : Int), clt (rg t) x = x := by
  induction t with
  | zero => intro h; have : x = 0 := by omega
            subst this; rfl
  | succ t ih =>
    intro h
    have e : rg (t + 1) = rg t ++ [(t : Int)] := by unfold rg; rw [List.range_succ, List.map_append]; rfl
    rw [e, clt_append]
    simp only [clt]
    by_cases hx : x ≤ (t : Int)
    · rw [ih hx, if_neg (by omega)]; omega
    · have hx2 : x = (t : Int) + 1 := by omega
      have e2 : clt (rg t) x = (t : Int) := by
        have hz := cge_clt (rg t) x
        have hc : cge (rg t) x = 0 := by
          have : ∀ (L : List Int), (∀ p ∈ L, p < x) → cge L x = 0 := by
            intro L
            induction L with
            | nil => intro _; rfl
            | cons p L ih => intro hp; simp only [cge]; rw [if_neg (by have := hp p List.mem_cons_self; omega), ih fun q hq => hp q (List.mem_cons_of_mem _ hq)]; rfl
          exact this _ fun p hp => by have := mem_rg.mp hp; omega
        rw [rg_length] at hz
        omega
      rw [e2, if_pos (by omega)]; omega
theorem clt_none {L : List Int} {x : Int} (h : ∀ p ∈ L, x ≤ p) : clt L x = 0 := by
  have h1 := cge_clt L x
  rw [cge_of_all h] at h1
  omega
theorem clt_pl {one two : List Int} {top top' : Int} {t : Nat} (h1 : IsSt top one) (h2 : IsSt top' two) (r : Rch one two t) {x : Int} (hx0 : 0 ≤ x) (hx : x ≤ (t : Int)) : clt (pl one two t) x = x - clt one x := by
  have e := clt_filter (uni two t) (fun p => decide (p ∈ one)) x
  rw [uni_one h1 h2 r] at e
  have e2 : clt (uni two t) x = x := by
    unfold uni
    rw [clt_append, clt_rg t x hx0 hx, clt_none (x := x) (L := two.map fun n => n + (t : Int)) fun p hp => by
      obtain ⟨n, hn, rfl⟩ := List.mem_map.mp hp
      have := h2.lo n hn
      omega]
    omega
  have e3 : clt ((uni two t).filter fun a => !decide (a ∈ one)) x = clt (pl one two t) x := rfl
  omega
theorem mo_lp {one two : List Int} {top top' : Int} {t : Nat} (h1 : IsSt top one) (h2 : IsSt top' two) (r : Rch one two t) : mo (pl one two t) 0 = lp one t := by
  have hl := pl_length h1 h2 r
  have key : ∀ k : Nat, k ≤ t → moTo (pl one two t) t 0 k * lp one (t - k) = lp one t := by
    intro k
    induction k with
    | zero => intro _; simp [moTo]
    | succ k ih =>
      intro hk
      rw [← ih (by omega)]
      obtain ⟨m, hm⟩ : ∃ m, t - k = m + 1 := ⟨t - k - 1, by omega⟩
      have hm2 : t - (k + 1) = m := by omega
      rw [hm, hm2]
      simp only [moTo, lp]
      have hx : 0 + (t : Int) - 1 - (k : Int) = (m : Int) := by omega
      rw [hx]
      have hc := cge_clt (pl one two t) (m : Int)
      rw [hl, clt_pl h1 h2 r (by omega) (by omega)] at hc
      have e : cge (pl one two t) (m : Int) - (k : Int) = 1 + clt one (m : Int) := by omega
      rw [e, Int.mul_assoc, Int.mul_comm (1 + clt one (m : Int))]
  have := key t (Nat.le_refl t)
  rw [Nat.sub_self] at this
  unfold mo
  rw [hl]
  simpa [lp] using this

/-! ### the states along a way -/
def stOf (two : List Int) (t : Nat) (L : List Int) (i : Int) : List Int := ((uni two t).filter fun u => decide (i ≤ u) && !decide (u ∈ L)).map fun u => u - i
theorem mem_stOf {two : List Int} {t : Nat} {L : List Int} {i x : Int} : x ∈ stOf two t L i ↔ 0 ≤ x ∧ x + i ∈ uni two t ∧ x + i ∉ L := by
  unfold stOf
  rw [List.mem_map]
  constructor
  · rintro ⟨u, hu, rfl⟩
    rw [List.mem_filter] at hu
    obtain ⟨h1, h2⟩ := hu
    simp only [Bool.and_eq_true, decide_eq_true_eq, Bool.not_eq_true', decide_eq_false_iff_not] at h2
    rw [show u - i + i = u by omega]
    exact ⟨by omega, h1, h2.2⟩
  · rintro ⟨h1, h2, h3⟩
    refine ⟨x + i, List.mem_filter.mpr ⟨h2, ?_⟩, by omega⟩
    simp only [Bool.and_eq_true, decide_eq_true_eq, Bool.not_eq_true', decide_eq_false_iff_not]
    exact ⟨by omega, h3⟩
theorem stOf_asc {two : List Int} {top : Int} (h : IsSt top two) (t : Nat) (L : List Int) (i : Int) : Asc (stOf two t L i) := by
  unfold stOf
  exact List.pairwise_map.mpr (((uni_asc h t).filter _).imp fun {a b} (q : a < b) => by omega)
theorem st_start {one two : List Int} {top top' : Int} {t : Nat} (h1 : IsSt top one) (h2 : IsSt top' two) (r : Rch one two t) : stOf two t (pl one two t) 0 = one := by
  refine asc_ext (stOf_asc h2 t _ _) h1.asc fun x => ?_
  rw [mem_stOf, Int.add_zero]
  have hm : x ∈ pl one two t ↔ x ∈ uni two t ∧ x ∉ one := by unfold pl; rw [List.mem_filter]; simp
  rw [hm]
  constructor
  · rintro ⟨_, h, h'⟩
    exact Decidable.byContradiction fun z => h' ⟨h, z⟩
  · intro h
    refine ⟨h1.lo x h, ?_, fun z => z.2 h⟩
    rw [mem_uni]
    by_cases hx : (t : Int) ≤ x
    · exact .inr (r.2 x h hx)
    · exact .inl ⟨h1.lo x h, by omega⟩
theorem st_end {two : List Int} {top : Int} (h : IsSt top two) (t : Nat) : stOf two t [] (t : Int) = two := by
  refine asc_ext (stOf_asc h t _ _) h.asc fun x => ?_
  rw [mem_stOf, mem_uni, show x + (t : Int) - (t : Int) = x by omega]
  constructor
  · rintro ⟨h1, h2, _⟩
    rcases h2 with h2 | h2
    · omega
    · exact h2
  · intro hx
    exact ⟨h.lo x hx, .inr hx, by simp⟩
theorem mem_erase {L : List Int} (hs : Asc L) {o : Nat} {a : Int} (h : L[o]? = some a) (x : Int) : x ∈ L.eraseIdx o ↔ x ∈ L ∧ x ≠ a := by
  obtain ⟨ho, e⟩ := List.getElem?_eq_some_iff.mp h
  constructor
  · intro hx
    obtain ⟨j, hj1, hj2, e2⟩ := List.mem_eraseIdx_iff_getElem.mp hx
    refine ⟨e2 ▸ List.getElem_mem _, ?_⟩
    intro z
    have := (List.getElem_inj hs.nodup (h₀ := hj1) (h₁ := ho)).mp (by rw [e2, e, z])
    exact hj2 this
  · rintro ⟨hx, hne⟩
    obtain ⟨j, hj, e2⟩ := List.mem_iff_getElem.mp hx
    refine List.mem_eraseIdx_iff_getElem.mpr ⟨j, hj, ?_, e2⟩
    intro z
    subst z
    exact hne (e2.symm.trans e)
theorem st_step {two : List Int} {top : Int} (h2 : IsSt top two) {t : Nat} {L : List Int} (hs : Asc L) (hsub : ∀ x ∈ L, x ∈ uni two t) {i a : Int} {o : Nat} (h : L[o]? = some a) (hi : i ≤ a) :
    bhM (stOf two t L i) (a - i) = stOf two t (L.eraseIdx o) (i + 1) := by
  have haL : a ∈ L := by obtain ⟨ho, e⟩ := List.getElem?_eq_some_iff.mp h; exact e ▸ List.getElem_mem _
  refine (srt_eq (l := ((stOf two t L i ++ [a - i]).filter fun n => decide (0 < n)).map fun n => n - 1) ?_ (stOf_asc h2 t _ _).le).symm
  have nd : (stOf two t L i ++ [a - i]).Nodup := by
    rw [List.nodup_append]
    refine ⟨(stOf_asc h2 t L i).nodup, by simp, fun x hx y hy => ?_⟩
    rw [List.mem_singleton] at hy
    subst hy
    intro z
    subst z
    have := (mem_stOf.mp hx).2.2
    rw [show a - i + i = a by omega] at this
    exact this haL
  have nd2 : (((stOf two t L i ++ [a - i]).filter fun n => decide (0 < n)).map fun n => n - 1).Nodup := by
    refine List.pairwise_map.mpr ((nd.filter _).imp fun {x y} (q : x ≠ y) => ?_)
    omega
  refine (List.perm_ext_iff_of_nodup (stOf_asc h2 t _ _).nodup nd2).mpr fun x => ?_
  rw [mem_stOf, List.mem_map, mem_erase hs h]
  constructor
  · rintro ⟨h3, h4, h5⟩
    refine ⟨x + 1, List.mem_filter.mpr ⟨?_, by simp; omega⟩, by omega⟩
    rw [List.mem_append, List.mem_singleton, mem_stOf]
    by_cases hx : x + (i + 1) ∈ L
    · right
      have : x + (i + 1) = a := Decidable.byContradiction fun z => h5 ⟨hx, z⟩
      omega
    · left
      rw [show x + 1 + i = x + (i + 1) by omega]
      exact ⟨by omega, h4, hx⟩
  · rintro ⟨y, hy, rfl⟩
    rw [List.mem_filter, List.mem_append, List.mem_singleton, mem_stOf] at hy
    obtain ⟨hy, hy0⟩ := hy
    have hy0 : 0 < y := by simpa using hy0
    rw [show y - 1 + (i + 1) = y + i by omega]
    rcases hy with ⟨h3, h4, h5⟩ | rfl
    · exact ⟨by omega, h4, fun z => h5 z.1⟩
    · rw [show a - i + i = a by omega]
      exact ⟨by omega, hsub a haL, fun z => z.2 rfl⟩
theorem st_may {two : List Int} {t : Nat} {L : List Int} (hs : Asc L) {i a : Int} {o : Nat} (h : L[o]? = some a) (hi : i ≤ a) (hit : 0 ≤ i) (hit2 : i < (t : Int)) (hb : ∀ x ∈ uni two t, x ≤ 1000) (hsub : ∀ x ∈ L, x ∈ uni two t)
    (h1 : 0 < mo (L.eraseIdx o) (i + 1)) : mayM (stOf two t L i) (a - i) = true := by
  have haL : a ∈ L := by obtain ⟨ho, e⟩ := List.getElem?_eq_some_iff.mp h; exact e ▸ List.getElem_mem _
  have hiU : i ∈ uni two t := mem_uni.mpr (.inl ⟨hit, hit2⟩)
  unfold mayM
  by_cases h0 : (0 : Int) ∈ stOf two t L i
  · rw [if_pos h0]
    have hiL : i ∉ L := by have := (mem_stOf.mp h0).2.2; rwa [Int.zero_add] at this
    have hne : a ≠ i := fun z => hiL (z ▸ haL)
    have hnin : a - i ∉ stOf two t L i := fun z => by
      have := (mem_stOf.mp z).2.2
      rw [show a - i + i = a by omega] at this
      exact this haL
    have hb' := hb a (hsub a haL)
    simp only [Bool.and_eq_true, decide_eq_true_eq, Bool.not_eq_true', decide_eq_false_iff_not]
    exact ⟨⟨by omega, by omega⟩, hnin⟩
  · rw [if_neg h0]
    have hiL : i ∈ L := Decidable.byContradiction fun z => h0 (mem_stOf.mpr ⟨Int.le_refl 0, by rwa [Int.zero_add], by rwa [Int.zero_add]⟩)
    have hall := mo_all h1
    refine decide_eq_true ?_
    have : a = i := Decidable.byContradiction fun z => by
      have := hall i ((mem_erase hs h i).mpr ⟨hiL, fun q => z q.symm⟩)
      omega
    omega
theorem way_led {two : List Int} {top : Int} (h2 : IsSt top two) {t : Nat} (hb : ∀ x ∈ uni two t, x ≤ 1000) {L : List Int} {i r : Int} {row : List Int} (w : Way L i r row) :
    Asc L → (∀ x ∈ L, x ∈ uni two t) → 0 ≤ i → i + (L.length : Int) = (t : Int) → ledM (stOf two t L i) row = some two := by
  induction w with
  | nil i =>
    intro _ _ _ e
    have e2 : i = (t : Int) := by simpa using e
    rw [e2, st_end h2]
    rfl
  | @cons L i o a rest row h hi h0 h1 w ih =>
    intro hs hsub hi0 e
    have ho : o < L.length := (List.getElem?_eq_some_iff.mp h).1
    show (if mayM (stOf two t L i) (a - i) = true then ledM (bhM (stOf two t L i) (a - i)) row else none) = some two
    rw [if_pos (st_may hs h hi hi0 (by omega) hb hsub (by omega)), st_step h2 hs hsub h hi]
    refine ih (sorted_erase hs o) (fun x hx => hsub x (List.mem_of_mem_eraseIdx hx)) (by omega) ?_
    rw [List.length_eraseIdx_of_lt ho]
    omega
/-- WHAT A WAY AT A PLACE IS -/
theorem way_follow {one two : List Int} {top top' : Int} {t : Nat} (h1 : IsSt top one) (h2 : IsSt top' two) (r : Rch one two t) (hb : top' + (t : Int) ≤ 1000) (ht : (t : Int) ≤ 1000) {p : Int} {row : List Int} (w : Way (pl one two t) 0 p row) :
    ledM one row = some two ∧ row.length = t := by
  have hl := pl_length h1 h2 r
  refine ⟨?_, by rw [w.bound.2.2, hl]⟩
  have := way_led h2 (t := t) (fun x hx => ?_) w (pl_asc h2 t) (fun x hx => (List.mem_filter.mp hx).1) (Int.le_refl 0) (by rw [hl]; omega)
  · rwa [st_start h1 h2 r] at this
  · rcases mem_uni.mp hx with h | h
    · omega
    · have := h2.hi _ h
      omega

/-! ### the least ticks -/
instance (one two : List Int) (t : Nat) : Decidable (Rch one two t) := by unfold Rch; exact inferInstance
theorem rch_top {one two : List Int} {top : Int} (h1 : IsSt top one) (hl : one.length = two.length) {t : Nat} (ht : top < (t : Int)) : Rch one two t :=
  ⟨hl, fun n hn h => by have := h1.hi n hn; omega⟩
end Bw

namespace Bw
theorem cge_append (L M : List Int) (x : Int) : cge (L ++ M) x = cge L x + cge M x := by
  induction L with
  | nil => simp [cge]
  | cons p L ih => simp only [List.cons_append, cge, ih]; omega
theorem cge_zero {L : List Int} {x : Int} (h : ∀ p ∈ L, p < x) : cge L x = 0 := by
  induction L with
  | nil => rfl
  | cons p L ih =>
    simp only [cge]
    rw [if_neg (by have := h p List.mem_cons_self; omega), ih fun q hq => h q (List.mem_cons_of_mem _ hq)]
    rfl
/-- what the search from behind finds -/
theorem cge_split {L : List Int} (hs : Asc L) {k : Nat} {x : Int} (hk : k ≤ L.length) (hi : ∀ (j : Nat) (v : Int), k ≤ j → L[j]? = some v → x ≤ v) (lo : k = 0 ∨ ∃ v, L[k - 1]? = some v ∧ v < x) :
    cge L x = (L.length : Int) - (k : Int) := by
  have e : L = L.take k ++ L.drop k := (List.take_append_drop k L).symm
  have h1 : cge (L.take k) x = 0 := cge_zero fun p hp => by
    obtain ⟨j, hj, ej⟩ := List.mem_iff_getElem.mp hp
    rw [List.length_take] at hj
    have hj1 : j < k := by omega
    rcases lo with lo | ⟨v, hv, hlt⟩
    · omega
    · have hp2 : L[j]? = some p := by
        rw [← ej, List.getElem_take, List.getElem?_eq_getElem (by omega)]
      rcases Nat.lt_or_eq_of_le (show j ≤ k - 1 by omega) with z | z
      · have := sorted_get hs hp2 hv z
        omega
      · rw [z] at hp2
        rw [hp2] at hv
        have := Option.some.inj hv
        omega
  have h2 : cge (L.drop k) x = ((L.drop k).length : Int) := cge_of_all fun p hp => by
    obtain ⟨j, hj, ej⟩ := List.mem_iff_getElem.mp hp
    rw [List.length_drop] at hj
    refine hi (k + j) p (by omega) ?_
    rw [← ej, List.getElem_drop, List.getElem?_eq_getElem (by omega)]
  rw [List.length_drop] at h2
  have h3 := cge_append (L.take k) (L.drop k) x
  rw [← e] at h3
  omega
theorem firstRow_get : ∀ (L : List Int) (i : Int) (k : Nat), (firstRow L i)[k]? = L[k]?.map fun p => p - (i + (k : Int))
  | [], _, _ => rfl
  | p :: L, i, 0 => by simp [firstRow]
  | p :: L, i, k + 1 => by
    simp only [firstRow, List.getElem?_cons_succ]
    rw [firstRow_get L (i + 1) k]
    congr 1
    funext q
    omega
/-- many_of's bound in the loop -/
theorem moTo_all (L : List Int) (t : Int) : mo L t = moTo L L.length t L.length := rfl
/-- the ticks from which it is met -/
theorem rch_at {one two : List Int} {top : Int} (h1 : IsSt top one) (hl : one.length = two.length) (ht : top ≤ 59) : Rch one two 60 := rch_top h1 hl (by omega)
end Bw

/-! what the layer has no rule for: a range under a star, max of a tuple, enumerate of a tuple, repr where no repr is under way -/
namespace Bw
open PySem PySem.Spec PyProof.Rows L2
section
variable {X : Cx} {pins : List (Addr × Obj)} {σ : L2.St} {H : Hp} {s : Shared}
/-! ### a range under a star -/
def tStarR (te : L2.St → Hp → (Int → Int → Hp → Prop) → Prop) (t : TA) : TA := fun σ H Q => te σ H fun a b H1 => RgOk a b ∧ t σ H1 fun ys H2 => Q (rgV a b ++ ys) H2
theorem pa_starR {e : Expr} {es : List Expr} {p : Pos} {te : L2.St → Hp → (Int → Int → Hp → Prop) → Prop} {t : TA} (hc : X.calm = true) (he : PRg X e te) (hr : PA X es t)
    (hs : starEach (.Starred e p :: es) X.env = (true, eval e X.env) :: starEach es X.env := by rfl) : PA X (.Starred e p :: es) (tStarR te t) := by
  refine ⟨fun pos pins s σ H Q I h => ?_⟩
  refine PySem.W.items_star (thn (he pins s σ H _ I h) fun v s1 hv => ?_) hs
  obtain ⟨r, a, b, t1, u1, v1, H1, rfl, hra, I1, ok, q⟩ := hv
  obtain ⟨b1, b2, b3, b4, b5⟩ := ok
  have hT : s1.TypeIs (.ref r) "range" := ⟨_, hra, rfl⟩
  have z : wpAny (model X.prog X.w) X.A (collect (.ref r)) (fun us s2 => wpAny (model X.prog X.w) X.A (spliced (backTo pos (starEach es X.env))) (fun vs s3 => AP X pins σ Q (us ++ vs) s3) X.xe s2) X.xe s1 := by
    refine collect_range (n := (b - a).toNat) (I1.ok.hd hc) hra (small_one b1 b2 b3 b4) (rangeSize_nat a b) b5 fun h' tk acc hk hi => ?_
    have I2 : Inv X pins σ H1 { s1 with heap := h', toks := tk } := I1.kept hk
    exact thn (hr.run pos pins _ σ H1 _ I2 q) fun ws s3 ⟨vs, H3, I3, r3, q3⟩ => ⟨rgV a b ++ vs, H3, I3, (vals_rg hi).append r3, q3⟩
  unfold PySem.W.StarOf notIterableAtAll
  exact wpAny_bind (wpAny_specialOf hT PySem.F.slot_range_iter.lookup (wpAny_pure ⟨rfl, z⟩))
end

/-! ### max of a tuple of whole numbers -/
section
variable {prog : Program} {w : World} {A : Around} {E : Value → Shared → Prop} {s : Shared} {l : Addr} {its : List Value} {ns : List Int} {Q : Value → Shared → Prop}
theorem maxTup_raw (hh : A.handled = none) (hl : s.heap.IsTuple l its.toArray) (hi : IntsAre its ns) (hne : 0 < ns.length)
    (h : ∀ h' tk M t', (∀ b o, s.heap.get? b = some o → h'.get? b = some o) → M ∈ ns → (∀ a, a ∈ ns → a ≤ M) → Q (.int M t') { s with heap := h', toks := tk }) : wpAny (model prog w) A (call (.builtin "max") [.ref l]) Q E s := by
  obtain ⟨xs, e⟩ := hi.allInts.items
  have hn : numsOf (intItems xs).toList = ns := by rw [← e]; exact hi.numsOf
  rw [nums_intItems] at hn
  subst hn
  rw [e] at hl
  have hsz : 0 < xs.size := by simpa using hne
  have hlt : l < s.heap.objs.size := by obtain ⟨_, q, _⟩ := hl; exact Heap.lt_size q
  refine call_max_walk (wpAny_pyIter_tuple hl ?_)
  refine ⟨s.heap.objs.size, [s.heap.objs.size, l], _, _, _, _, _, rfl, Walks.tuple (A := A.in1) hh s.heap.objs.size l (Nat.ne_of_lt hlt) (intItems xs), ⟨⟨_, Heap.get?_push_size _ rfl, rfl, rfl⟩, hl.push _⟩, fun b hb => ?_,
    by simpa [intItems] using hsz, CmpOf.ints_gt (numAt xs) (fun _ _ => intItems_at), fun v h' tk hP hk => ?_⟩
  · show b < (s.heap.push _).objs.size
    rw [Heap.size_push]
    have hb2 : b = s.heap.objs.size ∨ b = l := by simpa using hb
    rcases hb2 with rfl | rfl
    · exact Nat.lt_succ_self _
    · exact Nat.lt_succ_of_lt hlt
  · have hP2 : (intItems xs)[argBest (fun i j => decide (numAt xs i > numAt xs j)) (xs.size - 1)]? = some v := by simpa [intItems] using hP
    obtain ⟨t, rfl⟩ := intItems_at hP2
    obtain ⟨h1, h2⟩ := argBest_gt (numAt xs) (xs.size - 1)
    refine h h' tk _ t (fun b o q => hk b o (fun hb => ?_) (Heap.get?_push_of_some _ q)) ?_ fun a ha => ?_
    · have hb2 : b = s.heap.objs.size := by simpa using hb
      rw [hb2] at q
      exact absurd (Heap.lt_size q) (Nat.lt_irrefl _)
    · rw [numAt_eq]; exact PySem.getD_mem (by rw [List.length_map, Array.length_toList]; omega)
    · obtain ⟨j, hj, rfl⟩ := mem_getD ha
      rw [List.length_map, Array.length_toList] at hj
      rw [← numAt_eq]; exact h2 j (by omega)
end
section
variable {X : Cx}
def rMaxT (K : PySem.W.Frag) : List V → Hp → VK → Prop := fun vs H Q => ∃ (a : Addr) (ns : List Int), vs = [V.ref a] ∧ SqT K H a (ns.map V.int) ∧ 0 < ns.length ∧ ∀ m, m ∈ ns → (∀ y, y ∈ ns → y ≤ m) → Q (.int m) H
theorem cr_maxT (hc : X.calm = true) : CallR X (.builtin "max") (rMaxT X.K) := by
  intro pins s σ H vs us Q I r h
  obtain ⟨a, ns, rfl, hs, hne, q⟩ := h
  obtain ⟨its, rv, hl, _⟩ := I.tuple hs
  rw [Vals.ref1 r]
  exact maxTup_raw (I.ok.hd hc) hl rv.ints hne fun h' tk m t' hk h1 h2 => ⟨.int _, H, I.kept hk, ⟨_, rfl⟩, q m h1 h2⟩
end
end Bw

/-! enumerate of a tuple -/
namespace Bw
open PySem PySem.Spec PyProof.Rows L2

theorem enumT_new {v : Value} {o : Obj} {G : Heap → Prop} (B : Begins v o G) :
    Meets (Builtin.«enumerate.__new__» ⟨[.type "enumerate", v], []⟩) (fun _ R s => G s.heap ∧
      R (.ok (.ret (.ref (s.heap.push o).objs.size))) { s with heap := (s.heap.push o).push { cls := .type "enumerate", data := .fields #[.none, .bool false, .ref s.heap.objs.size, rawInt 0, .none, .none] } }) :=
  .of_wp fun prog w A R s h => by
    obtain ⟨hp, g, d, tk, os⟩ := s
    obtain ⟨h1, h⟩ := h
    have hsub := sub_enumerate
    have it1 : ∀ {A' : Around} {E : Value → Shared → Prop} {Q : Value → Shared → Prop}, Q (.ref hp.objs.size) ⟨hp.push o, g, d, tk, os⟩ → wpAny (model prog w) A' (pyIter v) Q E ⟨hp, g, d, tk, os⟩ :=
      fun q => B.iter prog w _ _ ⟨hp, g, d, tk, os⟩ _ h1 q
    wp_walk using it1
    refine wpAny_stack_any fun st => wpAny_pure ?_
    split
    · rename_i c _ _ _ _ _
      cases (c == Value.type "enumerate") <;> (wp_walk using it1; exact ⟨_, rfl, h⟩)
    · wp_walk using it1
      exact ⟨_, rfl, h⟩

section
variable {prog : Program} {w : World} {A : Around} {E : Value → Shared → Prop} {s : Shared}
theorem call_enumT {t : Addr} {items : Array Value} {Q : Value → Shared → Prop} (hT : s.heap.IsTuple t items)
    (h : ∀ h', IsEnum h' (s.heap.objs.size + 1) s.heap.objs.size 0 .none → h'.IsTupleIter s.heap.objs.size t 0 →
      (∀ b o, s.heap.get? b = some o → h'.get? b = some o) → Q (.ref (s.heap.objs.size + 1)) { s with heap := h' }) :
    wpAny (model prog w) A (call (.type "enumerate") [.ref t]) Q E s := by
  refine callType_new F.called_enumerate (by decide) (F.typeCall_enumerate_1 _) (F.newCall_enumerate_1 _) (fun obj => F.args_object_init_2 obj _) F.entry_enumerate_new
    (enumT_new (begins_tuple t items)) ⟨hT, ?_⟩
  have hz : (s.heap.push { cls := .type "tuple_iterator", data := .fields #[.ref t, .int 0 0] }).objs.size = s.heap.objs.size + 1 := Heap.size_push ..
  show _ ∧ _
  rw [hz]
  have q := Heap.get?_push_size (s.heap.push { cls := .type "tuple_iterator", data := .fields #[.ref t, .int 0 0] })
    (o := { cls := .type "enumerate", data := .fields #[.none, .bool false, .ref s.heap.objs.size, rawInt 0, .none, .none] }) rfl
  rw [hz] at q
  exact ⟨⟨_, q, rfl⟩, h _ q ⟨_, Heap.get?_push_of_some _ (Heap.get?_push_size _ rfl), rfl, rfl⟩ fun b o x => Heap.get?_push_of_some _ (Heap.get?_push_of_some _ x)⟩
end

/-- the turns of enumerate(t): the number and the item in a new pair -/
def IteT (K : PySem.W.Frag) (a : Addr) : It :=
  ⟨fun i H => ∃ (xs : List V) (x : V), SqT K H a xs ∧ xs[i]? = some x, fun i H v H' => ∃ T x, v = .ref T ∧ H T = none ∧ H' = upd H T (.tup [.int (i : Nat), x]) ∧ ∀ xs, SqT K H a xs → xs[i]? = some x, fun i H => ∃ xs : List V, SqT K H a xs ∧ xs.length ≤ i⟩
theorem apart_cls {h : Heap} {a b : Addr} {o u : Obj} (e1 : h.get? a = some o) (e2 : h.get? b = some u) (n : o.cls ≠ u.cls) : a ≠ b := by
  intro q
  subst q
  rw [e1] at e2
  cases e2
  exact n rfl
theorem turn_enumT {P : Program} {w : World} {K : PySem.W.Frag} {elts : List Expr} {kk : Nat} {tpos : Pos} (a e it : Addr) :
    Turn P w K (.Tuple elts kk tpos) (IteT K a) [e, it] e (fun i h => (∃ old, IsEnum h e it ((i : Nat) : Int) old) ∧ h.IsTupleIter it a i) where
  mem := by simp
  obj := fun i h st b hb => by
    obtain ⟨⟨old, he⟩, ⟨o, ho, hc, hd⟩⟩ := st
    have e' : b = e ∨ b = it := by simpa using hb
    rcases e' with z | z
    · rw [z]; exact ⟨_, he, fun v q => nomatch q⟩
    · rw [z]; exact ⟨o, ho, fun v q => by rw [hd] at q; cases q⟩
  keep := fun i h h' st k => by
    obtain ⟨⟨old, he⟩, hi⟩ := st
    exact ⟨⟨old, k e (by simp) _ he⟩, hi.at fun o q => k it (by simp) o q⟩
  item := by
    intro X hP hw hK hc i pins s σ H E I hf st hg
    subst hP hw hK
    obtain ⟨⟨old, he⟩, hit⟩ := st
    obtain ⟨xs, x, hq, hx⟩ := hg
    obtain ⟨its, rv, p, hz⟩ := I.tuple hq
    obtain ⟨u, hu, ru⟩ := rv.get hx
    have hel : e < s.heap.objs.size := Heap.lt_size he
    have hil : it < s.heap.objs.size := by obtain ⟨_, q, _⟩ := hit; exact Heap.lt_size q
    obtain ⟨oi, eoi, coi, _⟩ := id hit
    obtain ⟨oa, eoa, coa, _⟩ := id p
    have hne : e ≠ it := apart_cls he eoi (by rw [coi]; show Value.type "enumerate" ≠ Value.type "tuple_iterator"; decide)
    have hea : e ≠ a := apart_cls he eoa (by rw [coa]; show Value.type "enumerate" ≠ Value.type "tuple"; decide)
    have hia : a ≠ it := apart_cls eoa eoi (by rw [coa, coi]; decide)
    have D := Draws.tuple (prog := X.prog) (w := X.w) (A := X.A.in1) (I.ok.hd hc) it a hia its.toArray
    have hlt : i < its.toArray.size := by
      rw [List.size_toArray]
      exact (List.getElem?_eq_some_iff.mp hu).1
    refine wpAny_pyNext_enum_itemD D he ⟨hit, p⟩ hlt hne (by simp [hne, hea]) fun x' h' tk hx' ho hst' hT hsz hk => ?_
    have exu : x' = u := by
      have q : its[i]? = some x' := by simpa using hx'
      rw [hu] at q
      exact (Option.some.inj q).symm
    subst exu
    refine ⟨_, rfl, wpAny_letOwnedTupleGo_enum (s := { s with heap := h', toks := tk + 1 }) ho fun h'' he' sb => ?_⟩
    have hT2 : h''.get? s.heap.objs.size = some { cls := .type "tuple", data := .seq #[.int i tk, x'] } := (sb.2 _ (Nat.ne_of_gt hel)).trans hT
    have new : ObjOk X.prog X.w (upd H s.heap.objs.size (.tup [.int (i : Nat), x])) h'' s.heap.objs.size (.tup [.int (i : Nat), x]) :=
      ⟨by show 2 ≤ sizeLine; decide, [.int i tk, x'], .cons ⟨_, rfl⟩ (.cons ru .nil), ⟨_, hT2, rfl, _, rfl⟩⟩
    have I1 : Inv X pins σ (upd H s.heap.objs.size (.tup [.int (i : Nat), x])) { s with heap := h'', toks := tk + 1 } :=
      I.turnedNew (ch := [e, it]) (fun b ob hb q => (sb.2 b (fun z => hb (by simp [z]))).trans (hk b ob (fun z => hb (by simp [z])) (fun z => hb (by simp [z])) q)) hf (Nat.le_refl _) new
    refine ⟨.ref s.heap.objs.size, _, I1, rfl, ⟨_, x, rfl, I.hok.fresh (Nat.le_refl _), rfl, fun ys hy => by rw [I.tuple_inj hy hq]; exact hx⟩, ⟨⟨x', ?_⟩, hst'.1.at fun o q => (sb.2 it (Ne.symm hne)).trans q⟩, fun b hb => ?_⟩
    · have e1 : ((i + 1 : Nat) : Int) = (i : Int) + 1 := by omega
      rw [e1]; exact he'
    · have hb' : b < s.heap.objs.size := by
        have e' : b = e ∨ b = it := by simpa using hb
        rcases e' with z | z
        · rw [z]; exact hel
        · rw [z]; exact hil
      rw [upd_ne (Nat.ne_of_lt hb')]
      exact (hf b hb).1
  done := by
    intro X hP hw hK hc i pins s σ H E I hf st hg
    subst hP hw hK
    obtain ⟨⟨old, he⟩, hit⟩ := st
    obtain ⟨xs, hq, hx⟩ := hg
    obtain ⟨its, rv, p, hz⟩ := I.tuple hq
    obtain ⟨f0, f1, f2, f3, f4, f5⟩ := hf it (by simp)
    have hl := rv.length
    have hT : s.TypeIs (.ref e) "enumerate" := ⟨_, he, rfl⟩
    unfold pyNext
    refine wpAny_bind (wpAny_attempt (wpAny_callSpecial?_slot (name := Str.ofString "__next__") hT F.slot_enumerate_next
      (wpAny_call_entry F.slot_enumerate_next hT F.entry_enumerate_next ?_ (F.args_enumerate_next_1 _))))
    show wpAny _ _ (field (.ref e) 2 >>= _) _ _ _
    refine wpAny_bind (wpAny_field he rfl (x := .ref it) rfl ?_)
    refine wpAny_bind (wpAny_nextOf_tuple_end (A := X.A.in1) (I.ok.hd hc) hit (show s.heap.IsTuple a its.toArray from p) (by simp; omega) fun h' ex hb hx' => ?_)
    obtain ⟨o, ho, hcl⟩ := hx'
    refine wpAny_bind (wpAny_isInstance (T := "StopIteration") (b := true) ⟨o, ho, hcl⟩ isSubtype_stop ?_)
    exact wpAny_pure ⟨rfl, I.turned (t' := s.toks) (fun b o hb' q => hb b o hb' q) f0 f1 f3 f4 f5⟩
  self := fun A i s Q E st h => by
    obtain ⟨⟨_, he⟩, _⟩ := st
    exact wpAny_pyIter_enum he h
def iEnumT (K : PySem.W.Frag) (ta : TA) : TI := fun σ H R => ta σ H fun vs H1 => ∃ a xs, vs = [.ref a] ∧ SqT K H1 a xs ∧ R (IteT K a) H1
theorem pi_enumT {X : Cx} {e : Expr} {ta : TA} {p pos tpos : Pos} {elts : List Expr} {kk : Nat} (hg : Gl X "enumerate") (hm : X.mg "enumerate" = none) (ha : PA X [e] ta) (hs : starEach [e] X.env = [(false, eval e X.env)] := by rfl) :
    PI X (.Tuple elts kk tpos) (.Call (.Name "enumerate" p) [e] [] pos) (iEnumT X.K ta) := by
  refine ⟨fun pins s σ H R I h => ?_⟩
  refine Call_ (ld_blt I hg hm boot_enumerate (PyProof.Rows.callWith_type1 (thn (ha.run pos pins s σ H _ I h) fun us s1 hu => ?_) hs rfl))
  obtain ⟨vs, H1, I1, r1, a, xs, rfl, hq, q⟩ := hu
  rw [Vals.ref1 r1]
  obtain ⟨its, rv, p', hz⟩ := I1.tuple hq
  refine call_enumT (show s1.heap.IsTuple a its.toArray from p') fun h' he hit hk => wpAny_pyIter_enum he ?_
  have I2 : Inv X pins σ H1 { s1 with heap := h' } := I1.kept (t' := s1.toks) hk
  refine ⟨s1.heap.objs.size + 1, [s1.heap.objs.size + 1, s1.heap.objs.size], _, _, H1, rfl, I2, turn_enumT a (s1.heap.objs.size + 1) s1.heap.objs.size, ⟨⟨.none, he⟩, hit⟩, fun b hb => ?_, q⟩
  have e' : b = s1.heap.objs.size + 1 ∨ b = s1.heap.objs.size := by simpa using hb
  have hle : s1.heap.objs.size ≤ b := by
    rcases e' with z | z
    · rw [z]; exact Nat.le_add_right _ _
    · rw [z]; exact Nat.le_refl _
  exact I1.fpOk hle (I1.hok.fresh hle)
theorem walk_enumT {K : PySem.W.Frag} {a : Addr} {xs : List V} : Walk (IteT K a) xs.length (fun H => SqT K H a xs) (YPair (fun i => some (.int (i : Nat))) (fun i => xs[i]?)) := by
  refine ⟨fun i _ hi q => ⟨xs, xs[i], q, by simp [hi]⟩, fun _ q => ⟨xs, q, Nat.le_refl _⟩, fun i H v H' _ q y => ?_⟩
  obtain ⟨T, x, h1, h2, h3, h4⟩ := y
  exact ⟨T, .int (i : Nat), x, h1, h2, h3, rfl, h4 xs q⟩
end Bw

/-! set(xs), xs a list of whole numbers -/
namespace Bw
open PySem PySem.Spec PyProof.Rows L2
section
variable {P : Program} {w : World} {A : Around} {E : Value → Shared → Prop} {s : Shared}
/-- the empty set as set.__new__ lays it -/
abbrev emptySet (w : World) : Obj := { cls := .type "set", dict := none, data := .set #[] 0 (.fresh 0 0 (!w.params.followText "set-order")) }
/-- what set.__init__ leaves -/
def Filled (w : World) (s : Shared) (ns : List Int) (s2 : Shared) : Prop :=
  ∃ h' tk c, s2 = { s with heap := h', toks := tk } ∧ SetR w h' s.heap.objs.size (fun j => decide (j ∈ ns)) c ∧ c ≤ ns.length ∧ ∀ b o, s.heap.get? b = some o → h'.get? b = some o
theorem fill_list {l : Addr} {items : Array Value} (ns : List Int) (hh : A.handled = none) (hl : s.heap.IsList l items) (hit : IntsAre items.toList ns) (hb : ns.length + 1 < scanBound) :
    codeAny (model P w) A (.call (.builtin "set.__init__") ⟨[.ref s.heap.objs.size, .ref l], []⟩) (wants (fun r s2 => r = .none ∧ Filled w s ns s2) E) { s with heap := s.heap.push (emptySet w) } := by
  have hisz : items.size = ns.length := by
    have q := IntsAre.length hit
    rwa [Array.length_toList] at q
  have hS : (s.heap.push (emptySet w)).get? s.heap.objs.size = some (emptySet w) := Heap.get?_push_size _ rfl
  have hT : Shared.TypeIs { s with heap := s.heap.push (emptySet w) } (.ref s.heap.objs.size) "set" := ⟨_, hS, rfl⟩
  refine codeAny_call_builtin F.called_set.init.plain F.entry_set_init (check_set_init_1 hT ?_)
  obtain ⟨⟨oc, od, dt, sl⟩, hol, hcl, nl, hdl⟩ := hl
  replace hcl : oc = .type "list" := hcl
  replace hdl : dt = .seq items nl := hdl
  subst hcl hdl
  have hlS : l < s.heap.objs.size := Heap.lt_size hol
  have hol' := Heap.get?_push_of_some (emptySet w) hol
  have hl1 : (s.heap.push (emptySet w)).IsList l items := ⟨_, hol', rfl, nl, rfl⟩
  have hsls := F.sub_list_set
  have hslf := F.sub_list_frozenset
  have hne : (Value.type "list" == Value.type "dict") = false := by decide
  have hz : (s.heap.push (emptySet w)).objs.size = s.heap.objs.size + 1 := Heap.size_push ..
  unfold Builtin.«set.__init__» noKeywords Builtin.Frozenset.updateFrom
  generalize hPI : pyIter = PI
  wp_walk
  subst hPI
  refine wpAny_pyIter_list hl1 (wpAny_bind (wpAny_runValue ?_))
  have hh3 : A.in1.in1.handled = none := hh
  have hneI : l ≠ (s.heap.push (emptySet w)).objs.size := by rw [hz]; exact Nat.ne_of_lt (Nat.lt_succ_of_lt hlS)
  have hneS : s.heap.objs.size ≠ (s.heap.push (emptySet w)).objs.size := by rw [hz]; exact Nat.ne_of_lt (Nat.lt_succ_self _)
  have hSf : s.heap.objs.size ∉ [(s.heap.push (emptySet w)).objs.size, l] := by
    simp only [List.mem_cons, List.not_mem_nil, or_false, not_or]
    exact ⟨hneS, Nat.ne_of_gt hlS⟩
  have hval : ∀ (i : Nat) (v : Value), items[i]? = some v → ∃ k t, ns[i]? = some k ∧ v = .int k t := fun i v hv => by
    have hi : i < ns.length := by rw [← hisz]; exact (Array.getElem?_eq_some_iff.mp hv).1
    obtain ⟨t, e⟩ := PyProof.Rows.IntsAre.int_at hit i v (by rw [Array.getElem?_toList]; exact hv)
    refine ⟨ns[i], t, List.getElem?_eq_getElem hi, ?_⟩
    rw [e, List.getD_eq_getElem?_getD, List.getElem?_eq_getElem hi] <;> rfl
  refine set_update_ints ((Walks.list hh3 _ l hneI items).toS) s.heap.objs.size hSf ns hisz hb hval (items.size - 0) 0 _ (by omega) (Nat.zero_le _) ?st ?h0 ?hR
  case st => exact ⟨⟨_, Heap.get?_push_size _ rfl, rfl, rfl⟩, hl1.push _⟩
  case h0 => exact ⟨0, Nat.le_refl 0, setR_new_at (w := w) (ns := ns) (Heap.get?_push_of_some _ hS)⟩
  case hR =>
    intro s' c' hm hc' hS'
    obtain ⟨h', g2, d', tk', os'⟩ := s'
    have eg : g2 = s.gens := hm.gens
    have ed : d' = s.drawn := hm.drawn
    have eo : os' = s.os := hm.os
    subst eg ed eo
    show wpAny _ _ _ _ _ _
    refine wpAny_pure ?_
    show wpAny _ _ (ret Value.none) _ _ _
    refine wpAny_pure ⟨rfl, h', tk', c', rfl, hS', hisz ▸ hc', fun b o e => ?_⟩
    have hb0 := Heap.lt_size e
    refine hm.heap b o ?_ (Heap.get?_push_of_some _ (Heap.get?_push_of_some _ e))
    simp only [List.mem_cons, List.not_mem_nil, or_false, not_or]
    exact ⟨Nat.ne_of_lt hb0, by rw [hz]; exact Nat.ne_of_lt (Nat.lt_succ_of_lt hb0)⟩
theorem call_setL {l : Addr} {items : Array Value} (ns : List Int) {Q : Value → Shared → Prop} (hh : A.handled = none) (hl : s.heap.IsList l items) (hit : IntsAre items.toList ns) (hb : ns.length + 1 < scanBound)
    (h : ∀ s2, Filled w s ns s2 → Q (.ref s.heap.objs.size) s2) : wpAny (model P w) A (call (.type "set") [.ref l]) Q E s := by
  obtain ⟨c, tl, hmro⟩ := F.called_set.mro
  have m1 := F.called_set.made
  have m2 := F.called_set.sub
  have m3 := F.called_set.notType
  have m4 := F.called_set.canCreate
  have m5 := F.typeCall_set_1 (.ref l)
  refine wpAny_call (codeAny_of_tree ?_)
  show wpAny _ _ (callAny (.type "set") _) _ _ _
  refine wpAny_pure ⟨Code.quiet_builtin _ (by decide +kernel), codeAny_builtin PySem.F.entry_type_call ?_⟩
  rw [Around.under_plain (weight_type_call_type "set" [.ref l] []) rfl]
  repeat (any_goals (first | assumption | wp_step))
  refine codeAny_mono (code_set_led1 (.ref l) (E := E) (Q₁ := fun obj s1 => obj = .ref s.heap.objs.size ∧ s1 = { s with heap := s.heap.push (emptySet w) }) ⟨rfl, rfl⟩) fun r s1 hr => ?_
  match r, hr with
  | .error e, hr => exact hr
  | .ok (.ret obj), hr =>
    obtain ⟨rfl, rfl⟩ := hr
    have hT : Shared.TypeIs { s with heap := s.heap.push (emptySet w) } (.ref s.heap.objs.size) "set" := ⟨_, Heap.get?_push_size _ rfl, rfl⟩
    have n1 := F.called_set.init.lookup
    have n2 := F.called_set.init.bind (.ref s.heap.objs.size)
    repeat (any_goals (first | assumption | wp_step))
    refine codeAny_mono (fill_list (E := E) ns (by simp [hh]) hl hit hb) fun r2 s2 hr2 => ?_
    match r2, hr2 with
    | .error e, hr2 => exact hr2
    | .ok (.ret r), hr2 =>
      obtain ⟨rfl, hF⟩ := hr2
      obtain ⟨h', tk, c', rfl, hR, hc', hk⟩ := id hF
      repeat (any_goals (first | assumption | wp_step))
      exact h _ hF
    | .ok .next, hr2 => exact hr2.elim
    | .ok .brk, hr2 => exact hr2.elim
    | .ok .cont, hr2 => exact hr2.elim
  | .ok .next, hr => exact hr.elim
  | .ok .brk, hr => exact hr.elim
  | .ok .cont, hr => exact hr.elim
end
section
variable {X : Cx}
def rSetL (K : PySem.W.Frag) (w : World) : List V → Hp → VK → Prop := fun vs H Q => ∃ (a : Addr) (ns : List Int), vs = [V.ref a] ∧ SqL K H a (ns.map V.int) ∧ ns.length ≤ 60 ∧
  ∀ p c, H p = none → c ≤ ns.length → Q (.ref p) (upd H p (SetO w p (fun j => decide (j ∈ ns)) c))
theorem cr_setL (hc : X.calm = true) : CallR X (.type "set") (rSetL X.K X.w) := by
  intro pins s σ H vs us Q I r h
  obtain ⟨a, ns, rfl, hs, hl, q⟩ := h
  obtain ⟨its, rv, pl, hz⟩ := I.list hs
  rw [Vals.ref1 r]
  refine call_setL ns (I.ok.hd hc) pl.isList (by simpa using rv.ints) (by unfold scanBound; omega) fun s2 hF => ?_
  obtain ⟨h', tk, c, rfl, hR, hcn, hk⟩ := hF
  exact ⟨.ref s.heap.objs.size, upd H s.heap.objs.size (SetO X.w s.heap.objs.size (fun j => decide (j ∈ ns)) c), I.laid hk (Nat.le_refl _) (setO_new hR), rfl, q _ c (I.hok.fresh (Nat.le_refl _)) hcn⟩
end
end Bw

/-! defs that are called where no repr is under way; repr of [flag, number] -/
namespace Bw
open PySem PySem.Spec PyProof.Rows L2

/-- a def's promise where no repr is under way -/
structure FnG (P : Program) (w : World) (K : PySem.W.Frag) (mg : Str → Option Value) (base : Heap) (k : Nat) (f : Addr) (fd : FuncData) (ps : List Str) (sp : Sp) : Prop where
  len : ∀ vs H Q E, sp vs H Q E → vs.length = ps.length
  run : ∀ (A : Around) (outer : List Env) (s : Shared) (H : Hp) (args : Args) (us : List Value) (vs : List V) (Q : VK) (E : XK), Room k A → A.guards = some [] → Env0 P w K mg base A outer s H → BindsTo s fd args (ps.zip us) → Vals vs us → sp vs H Q E →
    codeAny (model P w) A (.call (.ref f) args) (CR CX0 outer P w H s Q E) s
section
variable {P : Program} {w : World} {K : PySem.W.Frag} {mg : Str → Option Value} {base : Heap}
theorem FnG.mk' {x qual : Str} {st : Stmt} {f : Addr} {fd : FuncData} {N ps : List Str} {k : Nat} {sp : Sp} (F : Fun K x qual st f fd) (S : FnScope N ps (defScope st)) (len : ∀ vs H Q E, sp vs H Q E → vs.length = ps.length)
    (hbody : ∀ (cdv : Value) (A : Around) (outer : List Env) (s : Shared) (H : Hp) (vs : List V) (Q : VK) (E : XK), Room k (A.deeper (envOfC qual (defScope st) s.heap.objs.size f cdv)) → A.guards = some [] → sp vs H Q E →
      ∃ t, PSs (cxOf CX0 P w K mg base N qual (defScope st) f cdv A outer s H E).nox (defBody st) t ∧ t { nx := fun _ H' => Q .non H', rt := Q } (start N vs) H) : FnG P w K mg base (k + 1) f fd ps sp := by
  obtain ⟨oc, od, kV, doc, pm, an, cdv, ct, osl, rfl, lk, hcd⟩ := F.ex
  refine ⟨len, fun A outer s H args us vs Q E hr hg e0 hb r hsp => ?_⟩
  have kp : ∀ b o, base.get? b = some o → s.heap.get? b = some o := fun b o e => (e0.bs b o e).1
  have KX : K.In s.heap := e0.mod.kin.keeps kp
  have lim : s.heap.NoLimit := e0.mod.nolimit.keeps kp
  have hkind : ∀ y ∈ ps.zip us, (defScope st).names.lookup y.1 = some .local ∨ ((defScope st).names.lookup y.1 = some .cell ∧ ((cellsFrom (s.heap.objs.size + 1) (defScope st).names []).lookup y.1).isSome = true) := fun y hy => by
    rcases S.par y.1 (List.of_mem_zip (a := y.1) (b := y.2) hy).1 with q | q
    · exact .inl q
    · exact .inr ⟨q, PySem.W.cellsFrom_some _ _ _ (.inl q)⟩
  refine codeAny_call_function hr.depth (KX _ _ lk) rfl S.co S.gen rfl (PySem.W.codeRec_of KX hcd) (hb _ _ _ _ (wpAny_newFunctionEnv_cells S.kind hkind fun env he s1 x => ?_))
  subst he
  obtain ⟨t, ht, hq⟩ := hbody cdv A outer s H vs Q E (hr.deeper _) hg hsp
  have I := inv_start (CX := CX0) (E := E) S hr.hd e0 (len _ _ _ _ hsp) r x
  refine ⟨lim.keeps x.toInCall.keep, codeAny_func (wpAny_mono (ht.nox.run [] s1 (start N vs) H _ I hq) (fun fl s' hs => ?_) fun e s' hs => hs)⟩
  match fl, hs with
  | .ret u, hs =>
    obtain ⟨v, σ', H', J, rv, q⟩ := hs
    exact ⟨v, H', J.os, J.bare, J.base, J.hok, rv, q⟩
  | .next, hs =>
    obtain ⟨σ', H', J, q⟩ := hs
    exact ⟨.non, H', J.os, J.bare, J.base, J.hok, rfl, q⟩
  | .brk, hs => exact (let ⟨_, _, _, q⟩ := hs; q : False).elim
  | .cont, hs => exact (let ⟨_, _, _, q⟩ := hs; q : False).elim
end
section
variable {X : Cx} {k : Nat} {f : Addr} {fd : FuncData} {ps : List Str} {sp : Sp} {x : Str} {p pos : Pos} {e : Expr} {es : List Expr} {t : TA}
theorem pe_callG (F : FnG X.prog X.w X.K X.mg X.base k f fd ps sp) (hr : Room k X.A) (hgd : X.A.guards = some []) (hg : Gl X x) (hm : X.mg x = some (.ref f)) (hk : PySem.W.keepIn X.K (.ref f) = true) (hb : Binds X.K fd ps [])
    (ha : PA X (e :: es) t) (hdb : (x == ("__debug__" : Str)) = false := by decide) (he : starEach (e :: es) X.env = (false, eval e X.env) :: starEach es X.env := by rfl) (hpl : (backTo pos (starEach es X.env)).any (·.1) = false := by rfl) :
    PE X (.Call (.Name x p) (e :: es) [] pos) (tCall sp [] E0 t) := by
  refine ⟨fun pins s σ H Q I h => ?_⟩
  refine wpAny_Call_Name_kw (ld_glob I hg hm ?_ hdb)
  refine PySem.W.callWith_K (h₀ := X.base) I.ok.mod.kin hk (thn (ha.run pos pins s σ H _ I h) fun us s1 hu => ?_) he hpl
  obtain ⟨vs, H1, I1, r, q⟩ := hu
  refine ⟨I1.kIn, ?_⟩
  have q' : sp vs H1 Q E0 := by simpa using q
  have hl : (us ++ []).length = ps.length := by rw [List.append_nil, ← r.length]; exact F.len _ _ _ _ q'
  have hb' := hb s1 us I1.kIn hl
  rw [List.append_nil] at hb'
  refine wpAny_call (codeAny_mono (F.run X.A X.stack s1 H1 ⟨us, []⟩ us vs Q E0 hr hgd I1.env0 hb' r q') fun rr s' hq => ?_)
  match rr, hq with
  | .error e, hq => exact False.elim hq
  | .ok (.ret u), hq => exact I1.after hq
  | .ok .next, hq => exact False.elim hq
  | .ok .brk, hq => exact False.elim hq
  | .ok .cont, hq => exact False.elim hq
end

/-! ### repr([flag, number]) -/
def bnText (b : Bool) (n : Int) : Str := PyData.shown (.list [.bool b, .int n])
theorem bn_len (b : Bool) {n : Int} (h : n.natAbs.log2 < 1920) : (bnText b n).length ≤ sizeLine := by
  have h1 := listText_len_le (PyData.shownAll [.bool b, .int n])
  have h2 := int_text_len_1921 h
  have h3 : (PyData.shown (.bool b)).length ≤ 5 := by cases b <;> decide +kernel
  have e : bnText b n = listText (PyData.shownAll [.bool b, .int n]) := rfl
  rw [e]
  have e2 : ((PyData.shownAll [.bool b, .int n]).map (·.length)).sum = (PyData.shown (.bool b)).length + (PySem.Str.ofString (toString n)).length := by
    simp only [PyData.shownAll, List.map_cons, List.map_nil, List.sum_cons, List.sum_nil, Nat.add_zero]
    rfl
  rw [e2] at h1
  have e3 : (PyData.shownAll [.bool b, .int n]).length = 2 := rfl
  rw [e3] at h1
  rw [sizeLine_eq]
  omega
section
variable {X : Cx}
def rReprBN (K : PySem.W.Frag) : List V → Hp → VK → Prop := fun vs H Q => ∃ (a : Addr) (b : Bool) (n : Int), vs = [V.ref a] ∧ SqL K H a [.bl b, .int n] ∧ n.natAbs.log2 < 1920 ∧ Q (.str (bnText b n)) H
theorem cr_reprBN (hgd : X.A.guards = some []) (hu : X.A.units + 64 < cLine) : CallR X (.builtin "repr") (rReprBN X.K) := by
  intro pins s σ H vs us Q I r h
  obtain ⟨a, b, n, rfl, hs, hn, q⟩ := h
  rw [Vals.ref1 r]
  obtain ⟨as, r1⟩ := Dp.reads I (.list [.bool b, .int n]) (.ref a) (.ref a) (.lst hs (.cons (.bl b) (.cons (.int n) .nil))) rfl
  refine repr_of_reads' r1 ?_ (PyData.noDict_hsm rfl) hgd ?_ (fun _ _ e => e) (fun h' u tk hk => ⟨.str (bnText b n), H, I.kept hk, ⟨u, rfl⟩, q⟩) (bn_len b hn)
  · simp [PyData.showable, PyData.showableAll, hn]
  · have e : (PyData.list [.bool b, .int n]).depth ≤ 60 := by simp [PyData.depth, PyData.depthAll]
    omega
end
end Bw

/-! the end of the row, the law's def promised where no repr is under way -/
namespace Bw
open PySem PySem.Spec PyProof.Rows L2
section
variable {P : Program} {w : World} {K : PySem.W.Frag} {mg mb : Str → Option Value} {k : Nat} {fa a : Addr} {fd : FuncData} {x : Str} {sp : Sp} {s1 : Shared} {vs : List Value} {ns : List Int}
/-- from an abstract heap that tracks the script at most -/
theorem law_coreG {H : Hp} (hA : ∀ b u, H b = some u → b = a ∧ ∃ o xs, u = .frz o (.lst xs)) (hK : ∀ o, H a ≠ none → K.lookup a ≠ some o) (hok : HOk P w H s1.heap)
    (KX : K.In s1.heap) (hns : s1.heap.Ns mainGlobals mg) (hb : s1.heap.Ns builtinsNs mb) (hbb : ∀ x : Str, x ≠ "__name__" → mb x = bootBuiltins x) (hlim : s1.heap.NoLimit) (hg : s1.gens = #[])
    (ha : s1.heap.get? a = some { cls := .type "list", data := .seq vs.toArray }) (hr : Room k callerA)
    (F : ∀ base : Heap, K.In base → base.Ns mainGlobals mg → FnG P w K mg base k fa fd [x] sp) (hbind : ∀ (s : Shared) (u : Value), BindsTo s fd ⟨[u], []⟩ [(x, u)])
    (hsp : sp [.ref a] H (fun v _ => v = .bl true) E0) :
    codeAny (model P w) callerA (.call (.ref fa) ⟨[.ref a], []⟩) (fun r s' => r = .ok (.ret (.bool true)) ∧ OldK s1.heap s'.heap ∧ s'.os = s1.os ∧ AllBare s'.gens) s1 := by
  have free : ∀ {b : Addr} {o : Obj} {es : Array DictEntry} {ep : Nat}, s1.heap.get? b = some o → o.data = .dict es ep → H b = none := fun {b o es ep} e d => by
    cases q : H b with
    | none => rfl
    | some u =>
      obtain ⟨rfl, _⟩ := hA b u q
      rw [ha] at e
      cases e
      cases d
  have nsK : ∀ {b : Addr} {m : Str → Option Value}, s1.heap.Ns b m → (hidT s1.heap H).Ns b m := fun {b m} n => by
    obtain ⟨o, es, ep, e, d, r⟩ := n
    exact ⟨o, es, ep, hidT_get e (free e d), d, r⟩
  have hKb : K.In (hidT s1.heap H) := fun b o e => hidT_get (KX b o e) (by
    cases q : H b with
    | none => rfl
    | some u =>
      obtain ⟨rfl, _⟩ := hA b u q
      exact absurd e (hK o (by rw [q]; exact nofun)))
  have hM : Mod K mg (hidT s1.heap H) := ⟨hKb, nsK hns, ⟨mb, nsK hb, hbb⟩, by obtain ⟨mc, h1, h2⟩ := hlim; exact ⟨mc, nsK h1, h2⟩⟩
  have e0 : Env0 P w K mg (hidT s1.heap H) callerA [] s1 H := ⟨rfl, hM, fun b o e => of_hidT e, Nat.le_of_eq (hidT_size _ _), trivial, fun b hb' => (by cases hb'), hok, .of_eq hg⟩
  refine codeAny_mono ((F _ hKb (nsK hns)).run callerA [] s1 H ⟨[.ref a], []⟩ [.ref a] [.ref a] _ _ hr rfl e0 (hbind s1 (.ref a)) (.cons rfl .nil) hsp) fun r s' h => ?_
  match r, h with
  | .error e, h => exact False.elim h
  | .ok .next, h => exact False.elim h
  | .ok .brk, h => exact False.elim h
  | .ok .cont, h => exact False.elim h
  | .ok (.ret u), h =>
    obtain ⟨v, H', os, bare, un, hok', r', q⟩ := h
    have q' : v = .bl true := q
    subst q'
    obtain rfl : u = Value.bool true := r'
    refine ⟨rfl, OldK.of_keep fun b o e => ?_, os, bare⟩
    cases q2 : H b with
    | none => exact un.keep b o e q2 (by intro z; cases z) (by simp)
    | some u =>
      obtain ⟨_, ob, xs, rfl⟩ := hA b u q2
      obtain ⟨e1, _⟩ := hok b _ q2
      obtain ⟨e2, _⟩ := hok' b _ (un.frzs b ob _ q2)
      rw [e] at e1
      cases e1
      exact e2
theorem law_callG (KX : K.In s1.heap) (hns : s1.heap.Ns mainGlobals mg) (hb : s1.heap.Ns builtinsNs mb) (hbb : ∀ x : Str, x ≠ "__name__" → mb x = bootBuiltins x) (hlim : s1.heap.NoLimit) (hg : s1.gens = #[])
    (ha : s1.heap.get? a = some { cls := .type "list", data := .seq vs.toArray }) (hi : IntsAre vs ns) (hl : ns.length ≤ sizeLine) (hr : Room k callerA)
    (F : ∀ base : Heap, K.In base → base.Ns mainGlobals mg → FnG P w K mg base k fa fd [x] sp) (hbind : ∀ (s : Shared) (u : Value), BindsTo s fd ⟨[u], []⟩ [(x, u)])
    (hsp : ∀ H : Hp, SqL K H a (ns.map V.int) → sp [.ref a] H (fun v _ => v = .bl true) E0) :
    codeAny (model P w) callerA (.call (.ref fa) ⟨[.ref a], []⟩) (fun r s' => r = .ok (.ret (.bool true)) ∧ OldK s1.heap s'.heap ∧ s'.os = s1.os ∧ AllBare s'.gens) s1 := by
  have rv := vals_ints hi
  have lenV := hi.length
  cases hk : K.lookup a with
  | some o =>
    have e := KX a o hk
    rw [ha] at e
    cases e
    exact law_coreG (H := fun _ => none) (fun b u q => (by cases q)) (fun o z => absurd rfl z) (fun b u q => (by cases q)) KX hns hb hbb hlim hg ha hr F hbind
      (hsp _ (.inr ⟨_, vs.toArray, _, hk, rfl, rfl, rfl, by rw [List.size_toArray, lenV]; exact hl, by simpa using rv⟩))
  | none =>
    have hH : ∀ b u, (fun b => if b = a then some (HO.frz { cls := .type "list", data := .seq vs.toArray } (.lst (ns.map V.int))) else none) b = some u → b = a ∧ u = .frz { cls := .type "list", data := .seq vs.toArray } (.lst (ns.map V.int)) := fun b u q => by
      by_cases hb : b = a
      · have q' := (if_pos hb).symm.trans q
        cases q'
        exact ⟨hb, rfl⟩
      · have q' := (if_neg hb).symm.trans q
        cases q'
    refine law_coreG (H := fun b => if b = a then some (HO.frz { cls := .type "list", data := .seq vs.toArray } (.lst (ns.map V.int))) else none) (fun b u q => ?_) (fun o _ z => by rw [hk] at z; cases z) (fun b u q => ?_) KX hns hb hbb hlim hg ha hr F hbind
      (hsp _ (.inl (.inr ⟨_, if_pos rfl⟩)))
    · obtain ⟨e1, e2⟩ := hH b u q
      exact ⟨e1, _, _, e2⟩
    · obtain ⟨rfl, rfl⟩ := hH b u q
      exact ⟨ha, by rw [List.length_map]; exact hl, vs, _, rv, ha⟩
end
theorem walk_ofG {l : PySem.W.OpenLaw} {n k : Nat} {q : Program} {loose : List Str} {XP : (Str → Option Value) → Heap → Prop} {YP : World → Heap → Prop} {d : DefRec} {K : Params → PySem.W.Frag} {sp : PySem.W.Frag → Sp} {x : Str}
    (hn : l.most = some n) (hn2 : n ≤ sizeLine) (hdf : d.params.defaults = []) (hr : Room k callerA)
    (hY : ∀ (w : World) (h : Heap), YP w h → (K w.params).In h)
    (F : ∀ (w : World) (mg : Str → Option Value) (fa : Addr) (h : Heap), (K w.params).In h → h.Ns mainGlobals mg → mg d.name = some (.ref fa) →
      ∃ fd : FuncData, (∀ (s : Shared) (u : Value), BindsTo s fd ⟨[u], []⟩ [(x, u)]) ∧
        ∀ base : Heap, (K w.params).In base → base.Ns mainGlobals mg → FnG l.prog w (K w.params) mg base k fa fd [x] (sp (K w.params)))
    (hsp : ∀ (K : PySem.W.Frag) (H : Hp) (a : Addr) (ns : List Int), ns.length ≤ n → SqL K H a (ns.map V.int) → sp K [.ref a] H (fun v _ => v = .bl true) E0) :
    PySem.W.WalkO q loose XP YP l.row.toRowW d [] (fun f vs => PySem.call f vs) := by
  refine Att.attach_call hn hdf fun w s0 s1 mg mb fa o pm cd doc a vs ns G Y ho hd hcd hmg hobj hints hlen hg => ?_
  have KX := hY w _ Y
  obtain ⟨fd, hb, hF⟩ := F w mg fa _ KX G.T.g hmg
  exact law_callG KX G.T.g G.T.b G.T.builtins G.T.nolimit hg hobj hints (Nat.le_trans hlen hn2) hr hF hb fun H hS => hsp _ H a ns hlen hS
end Bw

namespace Bw
open PySem PySem.Spec PyProof.Rows L2
/-! ### the text by places -/
def top (i : Nat) : Stmt := PySem.Challenge.pw_burstapart_k50_whole_ways.main.body.getD i (.Pass ⟨0, 0, 0, 0⟩)

/-! ### defs as they stand behind the top, and as they keep a promise -/
structure DefIn (K : PySem.W.Frag) (mg : Str → Option Value) (glob x : Str) (st : Stmt) (ps : List Str) : Prop where
  ex : ∃ f fd, Fun K x x st f fd ∧ mg glob = some (.ref f) ∧ Binds K fd ps []
structure Cal (P : Program) (w : World) (K : PySem.W.Frag) (mg : Str → Option Value) (base : Heap) (k : Nat) (glob : Str) (ps : List Str) (sp : Sp) : Prop where
  ex : ∃ f fd, FnOk P w K mg base CX0 k f fd ps sp ∧ PySem.W.keepIn K (.ref f) = true ∧ mg glob = some (.ref f) ∧ Binds K fd ps []
structure CalG (P : Program) (w : World) (K : PySem.W.Frag) (mg : Str → Option Value) (base : Heap) (k : Nat) (glob : Str) (ps : List Str) (sp : Sp) : Prop where
  ex : ∃ f fd, FnG P w K mg base k f fd ps sp ∧ PySem.W.keepIn K (.ref f) = true ∧ mg glob = some (.ref f) ∧ Binds K fd ps []
section
variable {P : Program} {w : World} {K : PySem.W.Frag} {mg : Str → Option Value} {base : Heap} {k : Nat} {glob x : Str} {st : Stmt} {ps : List Str} {sp : Sp}
theorem DefIn.cal (D : DefIn K mg glob x st ps) (h : ∀ f fd, Fun K x x st f fd → FnOk P w K mg base CX0 k f fd ps sp) : Cal P w K mg base k glob ps sp := by
  obtain ⟨f, fd, F, m, b⟩ := D.ex
  exact ⟨f, fd, h f fd F, F.kp, m, b⟩
theorem DefIn.calG (D : DefIn K mg glob x st ps) (h : ∀ f fd, Fun K x x st f fd → FnG P w K mg base k f fd ps sp) : CalG P w K mg base k glob ps sp := by
  obtain ⟨f, fd, F, m, b⟩ := D.ex
  exact ⟨f, fd, h f fd F, F.kp, m, b⟩
end
section
variable {X : Cx} {k : Nat} {ps : List Str} {sp : Sp} {x : Str} {p pos : Pos} {e : Expr} {es : List Expr} {t : TA}
theorem pe_cal (C : Cal X.prog X.w X.K X.mg X.base k x ps sp) (hr : Room k X.A) (ha : PA X (e :: es) t) (hg : Gl X x := by rfl)
    (hdb : (x == ("__debug__" : Str)) = false := by decide) (he : starEach (e :: es) X.env = (false, eval e X.env) :: starEach es X.env := by rfl) (hpl : (backTo pos (starEach es X.env)).any (·.1) = false := by rfl) :
    PE X (.Call (.Name x p) (e :: es) [] pos) (tCall sp [] E0 t) := by
  obtain ⟨f, fd, F, kp, m, b⟩ := C.ex
  exact pe_call F hr hg m kp b .nil pass0 ha hdb he hpl
theorem pe_calG (C : CalG X.prog X.w X.K X.mg X.base k x ps sp) (hr : Room k X.A) (hgd : X.A.guards = some []) (ha : PA X (e :: es) t) (hg : Gl X x := by rfl)
    (hdb : (x == ("__debug__" : Str)) = false := by decide) (he : starEach (e :: es) X.env = (false, eval e X.env) :: starEach es X.env := by rfl) (hpl : (backTo pos (starEach es X.env)).any (·.1) = false := by rfl) :
    PE X (.Call (.Name x p) (e :: es) [] pos) (tCall sp [] E0 t) := by
  obtain ⟨f, fd, F, kp, m, b⟩ := C.ex
  exact pe_callG F hr hgd hg m kp b ha hdb he hpl
end

/-! ### the built-in names -/
structure Bi (mg : Str → Option Value) : Prop where
  isinstance : mg "isinstance" = none
  int : mg "int" = none
  bool : mg "bool" = none
  tuple : mg "tuple" = none
  list : mg "list" = none
  len : mg "len" = none
  all : mg "all" = none
  zip : mg "zip" = none
  sorted : mg "sorted" = none
  range : mg "range" = none
  enumerate : mg "enumerate" = none
  max : mg "max" = none
  min : mg "min" = none
  sum : mg "sum" = none
  set : mg "set" = none
  repr : mg "repr" = none
/-- a module's whole number -/
def KInt (mg : Str → Option Value) (x : Str) (n : Int) : Prop := ∃ u, mg x = some u ∧ RelV (.int n) u
theorem pe_kint {X : Cx} {x : Str} {n : Int} {p : Pos} (h : KInt X.mg x n) (hg : Gl X x := by rfl) (hd : (x == ("__debug__" : Str)) = false := by decide) : PE X (.Name x p) (tC (.int n)) := by
  obtain ⟨u, hm, r⟩ := h
  exact pe_glob hg hm r hd

/-! ### lists of whole numbers -/
abbrev iv (L : List Int) : List V := L.map V.int
theorem iv_get {L : List Int} {i : Nat} {v : V} (h : (iv L)[i]? = some v) : ∃ n, L[i]? = some n ∧ v = .int n := by
  rw [List.getElem?_map] at h
  cases e : L[i]? with
  | none => rw [e] at h; cases h
  | some n => rw [e] at h; exact ⟨n, rfl, (Option.some.inj h).symm⟩
theorem iv_at {L : List Int} {i : Nat} {n : Int} (h : L[i]? = some n) : (iv L)[i]? = some (.int n) := by rw [List.getElem?_map, h]; rfl
theorem iv_val {L : List Int} {i : Nat} {x : V} {n : Int} (h : (iv L)[i]? = some x) (e : L[i]? = some n) : x = .int n := by
  rw [iv_at e] at h
  exact (Option.some.inj h).symm
theorem iv_len (L : List Int) : (iv L).length = L.length := List.length_map ..
theorem bl_t {p : Prop} [Decidable p] (h : p) : V.bl (decide p) = V.bl true := by rw [decide_eq_true h]
theorem bl_f {p : Prop} [Decidable p] (h : ¬ p) : V.bl (decide p) = V.bl false := by rw [decide_eq_false h]
theorem small {n : Nat} (h : n ≤ 16000000) : n < sizeLine := by rw [sizeLine_eq]; omega
theorem smallLe {n : Nat} (h : n ≤ 16000000) : n ≤ sizeLine := Nat.le_of_lt (small h)
theorem Same.tup {K : PySem.W.Frag} {H H' : Hp} {a : Addr} {xs : List V} (e : Same H H') (h : SqT K H a xs) : SqT K H' a xs := by
  rcases h with (h | ⟨o, h⟩) | h
  · exact .inl (.inl (e _ _ h))
  · exact .inl (.inr ⟨o, e _ _ h⟩)
  · exact .inr h
theorem same_new {H : Hp} {p : Addr} {o : HO} (h : H p = none) : Same H (upd H p o) := fun b x e => by
  rw [upd_ne (ne_of_none e h)]
  exact e
/-- x in xs -/
theorem in_iv (n : Int) (L : List Int) : inV (.int n) (iv L) = decide (n ∈ L) := by
  unfold inV
  rw [List.any_map]
  induction L with
  | nil => rfl
  | cons m L ih =>
    rw [List.any_cons, ih]
    show (decide (m = n) || _) = _
    by_cases h : m = n
    · subst h; simp
    · have h' : ¬ n = m := fun z => h z.symm
      simp [h, h']
theorem flat_iv (L : List Int) : (iv L).all flatV = true := by
  rw [List.all_map]
  exact List.all_eq_true.mpr fun _ _ => rfl
theorem seqIx {n : Nat} {i : Nat} (h : i < n) : seqIndex? (i : Int) n = some i := by
  have e : atI (List.range n) (i : Int) = some i := atI_nat (by rw [List.getElem?_range h])
  obtain ⟨j, h1, h2, _, _⟩ := atI_get e
  rw [List.length_range] at h1
  have h3 : j < n := by
    have := (List.getElem?_eq_some_iff.mp h2).1
    rwa [List.length_range] at this
  rw [List.getElem?_range h3] at h2
  rw [h1]
  exact h2

/-! ### comprehensions whose elements are pure -/
section
variable {α : Type} {H1 H H4 : Hp} {D : Addr} {L : List α} {p : α → Bool} {f : α → V} {i : Nat} {x : α}
/-- behind i turns the new list at D holds what the first i give; all else stands -/
def LcP (H1 : Hp) (D : Addr) (L : List α) (p : α → Bool) (f : α → V) (i : Nat) (H : Hp) : Prop := Same H1 H ∧ H D = some (.lst (((L.take i).filter p).map f))
theorem LcP.start (hD : H1 D = none) : LcP H1 D L p f 0 (upd H1 D (.lst [])) := ⟨same_new hD, by rw [upd_same]; rfl⟩
theorem LcP.kept (h : LcP H1 D L p f i H) (hD : H1 D = none) (hx : L[i]? = some x) (hp : p x = true) (hl : L.length ≤ 16000000) (s : Same H H4) :
    ∃ acc, H4 D = some (.lst acc) ∧ acc.length < sizeLine ∧ LcP H1 D L p f (i + 1) (upd H4 D (.lst (acc ++ [f x]))) := by
  refine ⟨_, s _ _ h.2, small ?_, fun b o e => ?_, ?_⟩
  · rw [List.length_map]
    exact Nat.le_trans (Nat.le_trans (List.length_filter_le _ _) (by rw [List.length_take]; exact Nat.min_le_right _ _)) hl
  · have nb : b ≠ D := ne_of_none e hD
    rw [upd_ne nb]
    exact s _ _ (h.1 _ _ e)
  · rw [upd_same, List.take_add_one, hx, List.filter_append, List.map_append]
    simp [hp]
theorem LcP.drop (h : LcP H1 D L p f i H) (hx : L[i]? = some x) (hp : p x = false) (s : Same H H4) : LcP H1 D L p f (i + 1) H4 := by
  refine ⟨h.1.trans s, ?_⟩
  rw [s _ _ h.2, List.take_add_one, hx, List.filter_append, List.map_append]
  simp [hp]
theorem LcP.done (h : LcP H1 D L p f L.length H) : Same H1 H ∧ H D = some (.lst ((L.filter p).map f)) := by
  refine ⟨h.1, ?_⟩
  rw [h.2, List.take_length]
end

theorem filter_yes {α : Type} (L : List α) : L.filter (fun _ => true) = L := List.filter_eq_self.mpr fun _ _ => rfl
/-! ### the slice behind the first -/
theorem cut_tail (xs : List V) : cutV xs (some 1) none = xs.tail := by
  unfold cutV
  rw [show HT.sIx xs.length 0 (some 1) = min 1 xs.length from HT.sIx_nat xs.length 0 1, HT.sIx_none]
  cases xs with
  | nil => rfl
  | cons x r =>
    rw [show min 1 (x :: r).length = 1 by rw [List.length_cons]; omega]
    show List.take ((x :: r).length - 1) r = r
    rw [List.length_cons, Nat.add_sub_cancel]
    exact List.take_length
theorem slice1 {K : PySem.W.Frag} {H : Hp} {a : Addr} {L : List Int} {Q : VK} (h : SqT K H a (iv L)) (q : ∀ b H', Same H H' → SqT K H' b (iv L.tail) → Q (.ref b) H') : rSlA K (.ref a) (some 1) none H Q := by
  refine ⟨a, iv L, rfl, h, fun hw => ?_, fun hw p hp => ?_⟩
  · have e : L = [] := by
      have h1 := hw.1
      rw [show HT.sIx (iv L).length 0 (some 1) = min 1 (iv L).length from HT.sIx_nat _ 0 1, iv_len] at h1
      cases L with
      | nil => rfl
      | cons x r => rw [List.length_cons] at h1; omega
    subst e
    exact q a H (Same.refl _) h
  · refine q p _ (same_new hp) (SqT.of ?_)
    rw [upd_same, cut_tail]
    cases L <;> rfl
/-- zip of two tuples -/
theorem walk_zipT {K : PySem.W.Frag} {a b : Addr} {xs ys : List V} {n : Nat} (hn : n = min xs.length ys.length) : Walk (RZ.ItzT K a b) n (fun H => SqT K H a xs ∧ SqT K H b ys) (YPair (fun i => xs[i]?) (fun i => ys[i]?)) := by
  subst hn
  refine ⟨fun i _ hi q => ?_, fun _ q => ⟨xs, ys, q.1, q.2, by omega⟩, fun i H v H' _ q y => ?_⟩
  · have h1 : i < xs.length := by omega
    have h2 : i < ys.length := by omega
    exact ⟨xs, ys, xs[i], ys[i], q.1, q.2, by simp [h1], by simp [h2]⟩
  · obtain ⟨T, x, z, h1, h2, h3, h4, h5⟩ := y
    exact ⟨T, x, z, h1, h2, h3, h4 xs q.1, h5 ys q.2⟩
end Bw

/-! tables: is_integer, is_between; states -/
namespace Bw
open PySem PySem.Spec PyProof.Rows L2
section
variable {P : Program} {w : World} {K : PySem.W.Frag} {mg : Str → Option Value} {base : Heap}
abbrev sIsInteger : Stmt := top 14
theorem scIsInteger : FnScope ["thing"] ["thing"] (defScope sIsInteger) := ⟨rfl, rfl, rfl, by decide +kernel, rfl, by decide +kernel, by decide +kernel⟩
def spIsInteger : Sp := fun vs H Q _ => ∃ n : Int, vs = [.int n] ∧ Q (.bl true) H
theorem ok_is_integer (B : Bi mg) (D : DefIn K mg "is_integer" "is_integer" sIsInteger ["thing"]) : Cal P w K mg base 1 "is_integer" ["thing"] spIsInteger := by
  refine D.cal fun f fd F => F.ok scIsInteger (fun vs H Q E h => ?_) (fun cdv A outer s H vs Q E hr h => ?_)
  · obtain ⟨n, rfl, _⟩ := h
    rfl
  · obtain ⟨n, rfl, q⟩ := h
    refine ⟨_, pss_one (ps_ret (pe_and (pe_callB call_isi (by rfl) B.isinstance (by decide +kernel) (pa_cons (pv 0) (pa_cons (pe_bltn (v := .ty "int") (by rfl) B.int (by decide +kernel) rfl) pa_nil)))
      (pe_one (pe_not (pe_callB call_isi (by rfl) B.isinstance (by decide +kernel) (pa_cons (pv 0) (pa_cons (pe_bltn (v := .ty "bool") (by rfl) B.bool (by decide +kernel) rfl) pa_nil))))))), ?_⟩
    refine ⟨.int n, rfl, .int n, .ty "int", .type "int", .type "int", true, rfl, .ty _, .base (.int n), kit_ty (by decide +kernel), true, rfl, iteT ?_⟩
    exact ⟨.int n, rfl, .int n, .ty "bool", .type "int", .type "bool", false, rfl, .ty _, .base (.int n), kit_ty (by decide +kernel), false, rfl, q⟩

abbrev sIsBetween : Stmt := top 15
theorem scIsBetween : FnScope ["thing", "low", "high"] ["thing", "low", "high"] (defScope sIsBetween) := ⟨rfl, rfl, rfl, by decide +kernel, rfl, by decide +kernel, by decide +kernel⟩
def spIsBetween : Sp := fun vs H Q _ => ∃ n lo hi : Int, vs = [.int n, .int lo, .int hi] ∧ Q (.bl (decide (lo ≤ n ∧ n ≤ hi))) H
theorem ok_is_between (D : DefIn K mg "is_between" "is_between" sIsBetween ["thing", "low", "high"]) (C1 : Cal P w K mg base 1 "is_integer" ["thing"] spIsInteger) : Cal P w K mg base 2 "is_between" ["thing", "low", "high"] spIsBetween := by
  refine D.cal fun f fd F => F.ok scIsBetween (fun vs H Q E h => ?_) (fun cdv A outer s H vs Q E hr h => ?_)
  · obtain ⟨n, lo, hi, rfl, _⟩ := h
    rfl
  · obtain ⟨n, lo, hi, rfl, q⟩ := h
    refine ⟨_, pss_one (ps_ret (pe_and (pe_cal C1 hr (pa_cons (pv 0) pa_nil)) (pe_one (pe_chain op_le op_le (pv 1) (pv 0) (pv 2))))), ?_⟩
    refine ⟨.int n, rfl, n, rfl, true, rfl, iteT ?_⟩
    refine ⟨.int lo, rfl, .int n, rfl, _, _, rfl, rfl, _, rfl, ite2 (fun e1 => ?_) (fun e1 => ?_)⟩
    · refine ⟨.int hi, rfl, _, _, rfl, rfl, ?_⟩
      have e1 : lo ≤ n := of_decide_eq_true e1
      by_cases e2 : n ≤ hi
      · show Q (V.bl (decide (n ≤ hi))) H
        rw [decide_eq_true e2]
        rw [decide_eq_true (show lo ≤ n ∧ n ≤ hi from ⟨e1, e2⟩)] at q
        exact q
      · show Q (V.bl (decide (n ≤ hi))) H
        rw [decide_eq_false e2]
        rw [decide_eq_false (show ¬ (lo ≤ n ∧ n ≤ hi) from fun z => e2 z.2)] at q
        exact q
    · have e1 : ¬ lo ≤ n := fun z => e1 (decide_eq_true z)
      rw [decide_eq_false (show ¬ (lo ≤ n ∧ n ≤ hi) from fun z => e1 z.1)] at q
      exact q
/-- what the states' constants are -/
structure Cst (mg : Str → Option Value) : Prop where
  LONGEST : KInt mg "LONGEST" 24
  GREATEST_HOLD : KInt mg "GREATEST_HOLD" 60
  MOST_HELD : KInt mg "MOST_HELD" 60
  GREATEST : KInt mg "GREATEST" 999
  MOST_ROW : KInt mg "MOST_ROW" 100
  GREATEST_SHORT : KInt mg "GREATEST_SHORT" 99
  MOST_TICKS : KInt mg "MOST_TICKS" 60

abbrev sIsState : Stmt := top 20
theorem scIsState : FnScope ["thing", "number", "one", "other"] ["thing"] (defScope sIsState) := ⟨rfl, rfl, rfl, by decide +kernel, rfl, by decide +kernel, by decide +kernel⟩
def spIsState (K : PySem.W.Frag) : Sp := fun vs H Q _ => ∃ a L, vs = [.ref a] ∧ SqT K H a (iv L) ∧ IsSt 999 L ∧ L.length ≤ 60 ∧ ∀ H', Same H H' → Q (.bl true) H'
theorem tyTup {H : Hp} {a : Addr} {xs : List V} (h : SqT K H a xs) : TyX K H (.ref a) (.type "tuple") := by
  rcases h with (h | ⟨o, h⟩) | ⟨o, its, n, hk, hc, _⟩
  · exact .base (.tup h)
  · exact .fTuple h
  · exact .kTuple hk hc
theorem all_id_rep (n : Nat) : (List.replicate n true).all id = true := by
  induction n with
  | zero => rfl
  | succ n ih => rw [List.replicate_succ, List.all_cons, ih]; rfl
theorem ok_is_state (B : Bi mg) (C : Cst mg) (D : DefIn K mg "is_state" "is_state" sIsState ["thing"]) (C1 : Cal P w K mg base 2 "is_between" ["thing", "low", "high"] spIsBetween) : Cal P w K mg base 3 "is_state" ["thing"] (spIsState K) := by
  refine D.cal fun f fd F => F.ok scIsState (fun vs H Q E h => ?_) (fun cdv A outer s H vs Q E hr h => ?_)
  · obtain ⟨a, L, rfl, _⟩ := h
    rfl
  · obtain ⟨a, L, rfl, hT, hS, hl, q⟩ := h
    refine ⟨_, pss_cons (ps_if (PW.pt (pw_or (pt_not (pt_val (pe_callB call_isi (by rfl) B.isinstance (by decide +kernel) (pa_cons (pv 0) (pa_cons (pe_bltn (v := .ty "tuple") (by rfl) B.tuple (by decide +kernel) rfl) pa_nil)))))
        (pw_or1 (pt_cmpR op_gt (pe_callB call_len_seq (by rfl) B.len PySem.boot_len (pa_cons (pv 0) pa_nil)) (pe_kint C.MOST_HELD) (nomark _))))) pss_never pss_nil)
      (pss_cons (ps_if (pt_not (pt_val (pe_callB (cr_all rfl) (by rfl) B.all (by decide +kernel) (pa_cons
          (pe_lc (own := [("number", 1)]) (g := gName 1) (tt := tYes) rfl scIsState.nd (pi_tup (pv 0)) (blkOk_by (own := [("number", 1)]) (N := ["thing", "number", "one", "other"]) (sc := defScope sIsState) (by decide +kernel))
            (fun _ _ _ _ _ => pg_name (i := 1) scIsState.nd rfl (Or.inl rfl)) (fun _ _ _ _ _ => pts_nil) (fun _ _ _ _ _ => pe_cal C1 hr (pa_cons (pv 1) (pa_cons pe_int (pa_cons (pe_kint C.GREATEST) pa_nil))))) pa_nil)))) pss_never pss_nil)
      (pss_one (ps_ret (pe_callB (cr_all rfl) (by rfl) B.all (by decide +kernel) (pa_cons
          (pe_lc (own := [("one", 2), ("other", 3)]) (g := gTup K 2 (gCons (gName 2) (gCons (gName 3) gNil))) (tt := tYes) rfl scIsState.nd (RZ.pi_zipA (by rfl) B.zip (pa_cons (pv 0) (pa_cons (pe_slice sl_tupA (pv 0) (po_some pe_int) po_none) pa_nil)))
            (blkOk_by (own := [("one", 2), ("other", 3)]) (N := ["thing", "number", "one", "other"]) (sc := defScope sIsState) (by decide +kernel))
            (fun _ _ _ _ _ => pg_tup rfl (pgs_cons (pg_name (i := 2) scIsState.nd rfl (Or.inl rfl)) (pgs_cons (pg_name (i := 3) scIsState.nd rfl (Or.inl rfl)) pgs_nil))) (fun _ _ _ _ _ => pts_nil)
            (fun _ _ _ _ _ => pe_cmpR op_lt (pv 2) (pv 3) (nomark _))) pa_nil))))), ?_⟩
    -- not isinstance(thing, tuple) or len(thing) > 60
    refine ⟨.ref a, rfl, .ref a, .ty "tuple", .type "tuple", .type "tuple", true, rfl, .ty _, tyTup hT, kit_ty (by decide +kernel), true, rfl, iteF ?_⟩
    refine ⟨.ref a, rfl, a, iv L, rfl, .inr hT, (L.length : Int), 60, by rw [iv_len], rfl, false, bl_f (by omega), iteF ?_⟩
    -- all([is_between(number, 0, 999) ..])
    refine ⟨.ref a, rfl, a, rfl, ⟨_, hT⟩, fun D1 hD1 => ?_⟩
    refine lc_tup (K := K) (a := a) (xs := iv L) (fun i H1 => LcP H D1 L (fun _ => true) (fun _ => .bl true) i H1) (LcP.start hD1) (fun i H1 _ h => Same.tup h.1 hT) (fun i x H1 hx h => ?_) (fun H1 h => ?_)
    · obtain ⟨n, hn, rfl⟩ := iv_get hx
      have hm := List.mem_of_getElem? hn
      refine ⟨rfl, .int n, rfl, n, 0, 999, rfl, ?_⟩
      rw [decide_eq_true (show (0 : Int) ≤ n ∧ n ≤ 999 from ⟨hS.lo n hm, hS.hi n hm⟩)]
      exact h.kept hD1 hn rfl (by omega) (Same.refl _)
    · rw [iv_len] at h
      have h := h.done
      rw [filter_yes] at h
      have e1 : L.map (fun _ => V.bl true) = (List.replicate L.length true).map V.bl := by
        rw [List.map_replicate]
        exact List.map_const' ..
      rw [e1] at h
      obtain ⟨s1, h1⟩ := h
      refine ⟨D1, List.replicate L.length true, rfl, SqL.of h1, true, by rw [all_id_rep], iteF ?_⟩
      -- all([one < other ..])
      have hT1 := Same.tup s1 hT
      refine ⟨.ref a, rfl, .ref a, rfl, 1, rfl, ?_⟩
      delta tNoPart
      refine slice1 hT1 fun b H2 s2 hT2 => ?_
      refine ⟨a, b, iv L, iv L.tail, rfl, .inr ⟨Same.tup s2 hT1, hT2, fun D2 hD2 => ?_⟩⟩
      refine lc_it (walk_zipT (n := L.length - 1) (by rw [iv_len, iv_len, List.length_tail]; omega)) (fun i H3 => Same H2 H3 ∧ H3 D2 = some (.lst ((List.replicate i true).map V.bl))) ⟨same_new hD2, upd_same⟩ (fun i H3 _ h => ⟨Same.tup (s2.trans h.1) hT1, Same.tup h.1 hT2⟩) (fun i x H3 H4 hi h y => ?_) (fun H3 h => ?_)
      · obtain ⟨T, x1, x2, rfl, nT, rfl, g1, g2⟩ := y
        have i1 : i < L.length := by omega
        have i2 : i + 1 < L.length := by omega
        have e1 : x1 = .int L[i] := iv_val g1 (List.getElem?_eq_getElem i1)
        have e2 : x2 = .int L[i + 1] := iv_val g2 (by rw [List.getElem?_tail]; exact List.getElem?_eq_getElem i2)
        subst e1 e2
        refine ⟨T, [.int L[i], .int L[i + 1]], rfl, SqT.of upd_same, rfl, _, [.int L[i + 1]], rfl, _, [], rfl, rfl, rfl, _, rfl, _, rfl, _, _, rfl, rfl, ?_⟩
        have hlt : L[i] < L[i + 1] := sorted_get hS.asc (List.getElem?_eq_getElem i1) (List.getElem?_eq_getElem i2) (Nat.lt_succ_self i)
        have sT : Same H3 (upd H3 T (.tup [.int L[i], .int L[i + 1]])) := same_new nT
        dsimp only
        rw [decide_eq_true hlt]
        refine ⟨_, sT _ _ h.2, small (by rw [List.length_map, List.length_replicate]; omega), fun c o e => ?_, ?_⟩
        · rw [upd_ne (ne_of_none e hD2)]
          exact sT _ _ (h.1 _ _ e)
        · rw [upd_same, List.replicate_succ', List.map_append]
          rfl
      · refine ⟨D2, List.replicate (L.length - 1) true, rfl, SqL.of h.2, ?_⟩
        rw [all_id_rep]
        exact q _ ((s1.trans s2).trans h.1)
end
end Bw

/-! states, further -/
namespace Bw
open PySem PySem.Spec PyProof.Rows L2
/-! ### == of tuples and lists of whole numbers -/
abbrev pd (L : List Int) : List PyData := L.map PyData.int
theorem canLay_pd : ∀ L : List Int, PyData.canLayAll0 (pd L) = true
  | [] => rfl
  | x :: L => by
    have := canLay_pd L
    simp [PyData.canLayAll0, PyData.canLay0, this]
theorem depth_pd : ∀ L : List Int, PyData.depthAll (pd L) ≤ 1
  | [] => by simp [PyData.depthAll]
  | x :: L => by
    have := depth_pd L
    simp [PyData.depthAll, PyData.depth]
    omega
theorem shaped_tup (L : List Int) : SeqAt.shaped (.tuple (pd L)) = true := by
  have h1 := canLay_pd L
  have h2 := depth_pd L
  unfold SeqAt.shaped
  rw [Bool.and_eq_true]
  refine ⟨h1, decide_eq_true ?_⟩
  show PyData.depthAll (pd L) + 1 ≤ 64
  omega
theorem shaped_lst (L : List Int) : SeqAt.shaped (.list (pd L)) = true := by
  have h1 := canLay_pd L
  have h2 := depth_pd L
  unfold SeqAt.shaped
  rw [Bool.and_eq_true]
  refine ⟨h1, decide_eq_true ?_⟩
  show PyData.depthAll (pd L) + 1 ≤ 64
  omega
theorem eqvAll_pd : ∀ L M : List Int, PyData.eqvAll (pd L) (pd M) = decide (L = M)
  | [], [] => rfl
  | [], _ :: _ => rfl
  | _ :: _, [] => rfl
  | x :: L, y :: M => by
    have ih := eqvAll_pd L M
    show (PyData.eqv (.int x) (.int y) && PyData.eqvAll (pd L) (pd M)) = _
    rw [ih]
    show ((x == y) && _) = _
    by_cases h : x = y
    · subst h; simp
    · simp [h]
section
variable {K : PySem.W.Frag} {H : Hp}
theorem dp_iv : ∀ L : List Int, DpAll K H (iv L) (pd L)
  | [] => .nil
  | x :: L => .cons (.int x) (dp_iv L)
theorem ne_tup {a b : Addr} {L M : List Int} {Q : VK} (h1 : SqT K H a (iv L)) (h2 : SqT K H b (iv M)) (q : Q (.bl (!decide (L = M))) H) : rNeD K (.ref a) (.ref b) H Q :=
  ⟨_, _, .tup h1 (dp_iv L), .tup h2 (dp_iv M), shaped_tup L, shaped_tup M, by show Q (.bl (!PyData.eqvAll (pd L) (pd M))) H; rw [eqvAll_pd]; exact q⟩
theorem eq_lst {a b : Addr} {L M : List Int} {Q : VK} (h1 : SqL K H a (iv L)) (h2 : SqL K H b (iv M)) (q : Q (.bl (decide (L = M))) H) : rEqD K (.ref a) (.ref b) H Q :=
  ⟨_, _, .lst h1 (dp_iv L), .lst h2 (dp_iv M), shaped_lst L, shaped_lst M, by show Q (.bl (PyData.eqvAll (pd L) (pd M))) H; rw [eqvAll_pd]; exact q⟩
theorem ne_lst {a b : Addr} {L M : List Int} {Q : VK} (h1 : SqL K H a (iv L)) (h2 : SqL K H b (iv M)) (q : Q (.bl (!decide (L = M))) H) : rNeD K (.ref a) (.ref b) H Q :=
  ⟨_, _, .lst h1 (dp_iv L), .lst h2 (dp_iv M), shaped_lst L, shaped_lst M, by show Q (.bl (!PyData.eqvAll (pd L) (pd M))) H; rw [eqvAll_pd]; exact q⟩
end

section
variable {P : Program} {w : World} {K : PySem.W.Frag} {mg : Str → Option Value} {base : Heap}
abbrev sNeedState : Stmt := top 21
theorem scNeedState : FnScope ["state"] ["state"] (defScope sNeedState) := ⟨rfl, rfl, rfl, by decide +kernel, rfl, by decide +kernel, by decide +kernel⟩
def spNeedState (K : PySem.W.Frag) : Sp := fun vs H Q _ => ∃ a L, vs = [.ref a] ∧ SqT K H a (iv L) ∧ IsSt 999 L ∧ L.length ≤ 60 ∧ ∀ H', Same H H' → Q .non H'
theorem ok_need_state (D : DefIn K mg "need_state" "need_state" sNeedState ["state"]) (C1 : Cal P w K mg base 3 "is_state" ["thing"] (spIsState K)) : Cal P w K mg base 4 "need_state" ["state"] (spNeedState K) := by
  refine D.cal fun f fd F => F.ok scNeedState (fun vs H Q E h => ?_) (fun cdv A outer s H vs Q E hr h => ?_)
  · obtain ⟨a, L, rfl, _⟩ := h
    rfl
  · obtain ⟨a, L, rfl, hT, hS, hl, q⟩ := h
    exact ⟨_, pss_one (ps_if (pt_not (pt_val (pe_cal C1 hr (pa_cons (pv 0) pa_nil)))) pss_never pss_nil), .ref a, rfl, a, L, rfl, hT, hS, hl, fun H' s' => ⟨true, rfl, iteF (q H' s')⟩⟩

abbrev sIsRow : Stmt := top 22
theorem scIsRow : FnScope ["thing", "most", "hold"] ["thing", "most"] (defScope sIsRow) := ⟨rfl, rfl, rfl, by decide +kernel, rfl, by decide +kernel, by decide +kernel⟩
def spIsRow (K : PySem.W.Frag) : Sp := fun vs H Q _ => ∃ a L m, vs = [.ref a, .int m] ∧ SqT K H a (iv L) ∧ (L.length : Int) ≤ m ∧ m ≤ 1000 ∧ ∀ H', Same H H' → Q (.bl true) H'
theorem ok_is_row (B : Bi mg) (D : DefIn K mg "is_row" "is_row" sIsRow ["thing", "most"]) (C1 : Cal P w K mg base 1 "is_integer" ["thing"] spIsInteger) : Cal P w K mg base 2 "is_row" ["thing", "most"] (spIsRow K) := by
  refine D.cal fun f fd F => F.ok scIsRow (fun vs H Q E h => ?_) (fun cdv A outer s H vs Q E hr h => ?_)
  · obtain ⟨a, L, m, rfl, _⟩ := h
    rfl
  · obtain ⟨a, L, m, rfl, hT, hl, hm, q⟩ := h
    refine ⟨_, pss_one (ps_ret (pe_and (pe_callB call_isi (by rfl) B.isinstance (by decide +kernel) (pa_cons (pv 0) (pa_cons (pe_bltn (v := .ty "tuple") (by rfl) B.tuple (by decide +kernel) rfl) pa_nil)))
      (pe_and (pe_cmpR op_le (pe_callB call_len_seq (by rfl) B.len PySem.boot_len (pa_cons (pv 0) pa_nil)) (pv 1) (nomark _))
      (pe_one (pe_callB (cr_all rfl) (by rfl) B.all (by decide +kernel) (pa_cons
          (pe_lc (own := [("hold", 2)]) (g := gName 2) (tt := tYes) rfl scIsRow.nd (pi_tup (pv 0)) (blkOk_by (own := [("hold", 2)]) (N := ["thing", "most", "hold"]) (sc := defScope sIsRow) (by decide +kernel))
            (fun _ _ _ _ _ => pg_name (i := 2) scIsRow.nd rfl (Or.inl rfl)) (fun _ _ _ _ _ => pts_nil) (fun _ _ _ _ _ => pe_cal C1 hr (pa_cons (pv 2) pa_nil))) pa_nil)))))), ?_⟩
    refine ⟨.ref a, rfl, .ref a, .ty "tuple", .type "tuple", .type "tuple", true, rfl, .ty _, tyTup hT, kit_ty (by decide +kernel), true, rfl, iteT ?_⟩
    refine ⟨.ref a, rfl, a, iv L, rfl, .inr hT, .int m, rfl, (L.length : Int), m, by rw [iv_len], rfl, true, bl_t hl, iteT ?_⟩
    refine ⟨.ref a, rfl, a, rfl, ⟨_, hT⟩, fun D1 hD1 => ?_⟩
    refine lc_tup (K := K) (a := a) (xs := iv L) (fun i H1 => LcP H D1 L (fun _ => true) (fun _ => .bl true) i H1) (LcP.start hD1) (fun i H1 _ h => Same.tup h.1 hT) (fun i x H1 hx h => ?_) (fun H1 h => ?_)
    · obtain ⟨n, hn, rfl⟩ := iv_get hx
      exact ⟨rfl, .int n, rfl, n, rfl, h.kept hD1 hn rfl (by omega) (Same.refl _)⟩
    · rw [iv_len] at h
      have h := h.done
      rw [filter_yes] at h
      have e1 : L.map (fun _ => V.bl true) = (List.replicate L.length true).map V.bl := by
        rw [List.map_replicate]
        exact List.map_const' ..
      rw [e1] at h
      refine ⟨D1, List.replicate L.length true, rfl, SqL.of h.2, ?_⟩
      rw [all_id_rep]
      exact q _ h.1

abbrev sMayBe : Stmt := top 23
theorem scMayBe : FnScope ["state", "hold"] ["state", "hold"] (defScope sMayBe) := ⟨rfl, rfl, rfl, by decide +kernel, rfl, by decide +kernel, by decide +kernel⟩
def spMayBe (K : PySem.W.Frag) : Sp := fun vs H Q _ => ∃ a s h, vs = [.ref a, .int h] ∧ SqT K H a (iv s) ∧ Q (.bl (mayM s h)) H
theorem ok_may_be (C : Cst mg) (D : DefIn K mg "may_be" "may_be" sMayBe ["state", "hold"]) (C1 : Cal P w K mg base 1 "is_integer" ["thing"] spIsInteger) (C2 : Cal P w K mg base 2 "is_between" ["thing", "low", "high"] spIsBetween) :
    Cal P w K mg base 3 "may_be" ["state", "hold"] (spMayBe K) := by
  refine D.cal fun f fd F => F.ok scMayBe (fun vs H Q E h => ?_) (fun cdv A outer s H vs Q E hr h => ?_)
  · obtain ⟨a, s, h, rfl, _⟩ := h
    rfl
  · obtain ⟨a, st, h, rfl, hT, q⟩ := h
    refine ⟨_, pss_cons (ps_if (pt_cmpR op_notIn_seq pe_int (pv 0) (by rfl)) (pss_one (ps_ret (pe_and (pe_cal C1 (hr.mono (by decide)) (pa_cons (pv 1) pa_nil)) (pe_one (pe_cmpR op_eq (pv 1) pe_int (nomark _)))))) pss_nil)
      (pss_one (ps_ret (pe_and (pe_cal C2 hr (pa_cons (pv 1) (pa_cons pe_int (pa_cons (pe_op op_add (pe_kint C.GREATEST) pe_int) pa_nil)))) (pe_one (pe_cmpR op_notIn_seq (pv 1) (pv 0) (by rfl)))))), ?_⟩
    refine ⟨.ref a, rfl, a, iv st, rfl, .inr hT, rfl, flat_iv st, _, rfl, ?_⟩
    show if (!inV (.int 0) (iv st)) = true then _ else _
    rw [in_iv]
    by_cases h0 : (0 : Int) ∈ st
    · rw [decide_eq_true h0]
      refine iteF ?_
      refine ⟨.int h, rfl, _, _, rfl, rfl, h, 1, 1000, rfl, ?_⟩
      unfold mayM at q
      rw [if_pos h0] at q
      refine ⟨_, rfl, ite2 (fun e => ?_) (fun e => ?_)⟩
      · have e := of_decide_eq_true e
        refine ⟨.int h, rfl, .ref a, rfl, a, iv st, rfl, .inr hT, rfl, flat_iv st, ?_⟩
        show Q (.bl (!inV (.int h) (iv st))) H
        rw [in_iv]
        rw [decide_eq_true e.1, decide_eq_true e.2] at q
        exact q
      · have e : ¬ (1 ≤ h ∧ h ≤ 1000) := fun z => e (decide_eq_true z)
        have e2 : (decide (1 ≤ h) && decide (h ≤ 1000) && !decide (h ∈ st)) = false := by
          by_cases h1 : 1 ≤ h
          · rw [decide_eq_false (show ¬ h ≤ 1000 from fun z => e ⟨h1, z⟩)]; simp
          · rw [decide_eq_false h1]; simp
        rw [e2] at q
        exact q
    · rw [decide_eq_false h0]
      refine iteT ?_
      unfold mayM at q
      rw [if_neg h0] at q
      refine ⟨.int h, rfl, h, rfl, true, rfl, iteT ⟨.int h, rfl, rfl, ?_⟩⟩
      show Q (.bl (decide (V.int h = V.int 0))) H
      have e : decide (V.int h = V.int 0) = decide (h = 0) := by
        by_cases hz : h = 0
        · subst hz; rfl
        · rw [decide_eq_false hz, decide_eq_false (fun z => hz (V.int.inj z))]
      rw [e]
      exact q

abbrev sBehind : Stmt := top 24
theorem scBehind : FnScope ["state", "hold", "number"] ["state", "hold"] (defScope sBehind) := ⟨rfl, rfl, rfl, by decide +kernel, rfl, by decide +kernel, by decide +kernel⟩
def spBehind (K : PySem.W.Frag) : Sp := fun vs H Q _ => ∃ a s h, vs = [.ref a, .int h] ∧ SqT K H a (iv s) ∧ s.length ≤ 1000 ∧ ∀ H' p, Same H H' → H p = none → H' p = some (.tup (iv (bhM s h))) → Q (.ref p) H'
theorem ok_behind (B : Bi mg) (D : DefIn K mg "behind" "behind" sBehind ["state", "hold"]) : Cal P w K mg base 1 "behind" ["state", "hold"] (spBehind K) := by
  refine D.cal fun f fd F => F.ok scBehind (fun vs H Q E h => ?_) (fun cdv A outer s H vs Q E hr h => ?_)
  · obtain ⟨a, s, h, rfl, _⟩ := h
    rfl
  · obtain ⟨a, st, h, rfl, hT, hl, q⟩ := h
    refine ⟨_, pss_one (ps_ret (pe_tupleOf (by rfl) B.tuple (pe_callB cr_sortedI (by rfl) B.sorted (by decide +kernel) (pa_cons
      (pe_lc (own := [("number", 2)]) (g := gName 2) rfl scBehind.nd (pi_tup (pe_tup (StX.pa_star (pv 0) (pa_cons (pv 1) pa_nil)))) (blkOk_by (own := [("number", 2)]) (N := ["state", "hold", "number"]) (sc := defScope sBehind) (by decide +kernel))
        (fun _ _ _ _ _ => pg_name (i := 2) scBehind.nd rfl (Or.inl rfl)) (fun _ _ _ _ _ => pts_one (pt_cmpR op_gt (pv 2) pe_int (nomark _))) (fun _ _ _ _ _ => pe_op op_sub (pv 2) pe_int)) pa_nil)))), ?_⟩
    have ex : iv st ++ [V.int h] = iv (st ++ [h]) := by simp
    refine ⟨.ref a, rfl, a, iv st, rfl, .inl hT, .int h, rfl, smallLe (by rw [ex, iv_len, List.length_append]; simp; omega), fun p np => ⟨p, rfl, ⟨_, SqT.of upd_same⟩, fun D1 hD1 => ?_⟩⟩
    have hp : (upd H p (.tup (iv st ++ [V.int h]))) p = some (.tup (iv (st ++ [h]))) := by rw [upd_same, ex]
    have s0 : Same H (upd H p (.tup (iv st ++ [V.int h]))) := same_new np
    generalize upd H p (.tup (iv st ++ [V.int h])) = H0 at hD1 hp s0
    refine lc_tup (K := K) (a := p) (xs := iv (st ++ [h])) (fun i H1 => LcP H0 D1 (st ++ [h]) (fun n => decide (0 < n)) (fun n => .int (n - 1)) i H1) (LcP.start hD1) (fun i H1 _ h => SqT.of (h.1 _ _ hp)) (fun i x H1 hx hq => ?_) (fun H1 hq => ?_)
    · obtain ⟨n, hn, rfl⟩ := iv_get hx
      refine ⟨rfl, .int n, rfl, _, _, rfl, rfl, _, rfl, ite2 (fun e => ?_) (fun e => ?_)⟩
      · refine ⟨.int n, rfl, _, _, rfl, rfl, ?_⟩
        exact hq.kept hD1 hn e (by rw [List.length_append]; simp; omega) (Same.refl _)
      · exact hq.drop hn (by rw [decide_eq_false]; exact fun z => e (decide_eq_true z)) (Same.refl _)
    · rw [iv_len] at hq
      have hq := hq.done
      refine ⟨D1, ((st ++ [h]).filter fun n => decide (0 < n)).map fun n => n - 1, rfl, ?_, fun ns' p2 pm so np2 => .inl ⟨p2, _, rfl, SqL.of upd_same, fun r nr => ?_⟩⟩
      · refine SqL.of ?_
        rw [hq.2, List.map_map]
        rfl
      · have e : ns' = bhM st h := srt_eq pm so
        subst e
        refine q _ r (fun b o e => ?_) (s0.free (hq.1.free ((same_new np2).free nr))) upd_same
        exact same_new nr _ _ (same_new np2 _ _ (hq.1 _ _ (s0 _ _ e)))
end
end Bw

/-! led, ground, follow; the guards of ways; does_reach, least_of -/
namespace Bw
open PySem PySem.Spec PyProof.Rows L2
theorem drop_at {α : Type} {L : List α} {i : Nat} {x : α} (h : L[i]? = some x) : L.drop i = x :: L.drop (i + 1) := by
  obtain ⟨hi, e⟩ := List.getElem?_eq_some_iff.mp h
  rw [List.drop_eq_getElem_cons hi, e]
theorem bhM_len (s : List Int) (h : Int) : (bhM s h).length ≤ s.length + 1 := by
  unfold bhM
  rw [(srt_perm _).length_eq, List.length_map]
  exact Nat.le_trans (List.length_filter_le _ _) (by rw [List.length_append]; simp)
section
variable {P : Program} {w : World} {K : PySem.W.Frag} {mg : Str → Option Value} {base : Heap}
abbrev sLed : Stmt := top 25
theorem scLed : FnScope ["state", "row", "hold"] ["state", "row"] (defScope sLed) := ⟨rfl, rfl, rfl, by decide +kernel, rfl, by decide +kernel, by decide +kernel⟩
def spLed (K : PySem.W.Frag) : Sp := fun vs H Q _ => ∃ a b s row g, vs = [.ref a, .ref b] ∧ SqT K H a (iv s) ∧ SqT K H b (iv row) ∧ ledM s row = some g ∧ s.length ≤ 100 ∧ row.length ≤ 100 ∧
  ∀ H' p, Same H H' → SqT K H' p (iv g) → Q (.ref p) H'
theorem ok_led (D : DefIn K mg "led" "led" sLed ["state", "row"]) (C1 : Cal P w K mg base 3 "may_be" ["state", "hold"] (spMayBe K)) (C2 : Cal P w K mg base 1 "behind" ["state", "hold"] (spBehind K)) :
    Cal P w K mg base 4 "led" ["state", "row"] (spLed K) := by
  refine D.cal fun f fd F => F.ok scLed (fun vs H Q E h => ?_) (fun cdv A outer s H vs Q E hr h => ?_)
  · obtain ⟨a, b, st, row, g, rfl, _⟩ := h
    rfl
  · obtain ⟨a, b, st, row, g, rfl, hT, hR, hg, l1, l2, q⟩ := h
    refine ⟨_, pss_cons (ps_for PassesOwn.never rfl (pi_tup (pv 1)) (pg_name (i := 2) scLed.nd rfl (.inl rfl))
        (pss_cons (ps_if (pt_not (pt_val (pe_cal C1 hr (pa_cons (pv 0) (pa_cons (pv 2) pa_nil))))) pss_never pss_nil)
        (pss_one (ps_set (i := 0) scLed.nd rfl (.inl rfl) (pe_cal C2 (hr.mono (by decide)) (pa_cons (pv 0) (pa_cons (pv 2) pa_nil)))))))
      (pss_one (ps_ret (pv 0))), ?_⟩
    refine ⟨.ref b, rfl, b, rfl, ⟨_, hR⟩, for_tup (K := K) (a := b) (xs := iv row) (fun i σ H1 => ∃ p st1 y, σ = [some (.ref p), some (.ref b), y] ∧ Same H H1 ∧ SqT K H1 p (iv st1) ∧ ledM st1 (row.drop i) = some g ∧ st1.length ≤ 100 + i)
      ⟨a, st, none, rfl, Same.refl _, hT, hg, by omega⟩ (fun i σ H1 _ h => ?_) (fun i x σ H1 hx h => ?_) (fun σ H1 h => ?_)⟩
    · obtain ⟨_, _, _, _, s1, _⟩ := h
      exact Same.tup s1 hR
    · obtain ⟨p, st1, y, rfl, s1, h1, h2, h3⟩ := h
      obtain ⟨n, hn, rfl⟩ := iv_get hx
      have hi : i < row.length := (List.getElem?_eq_some_iff.mp hn).1
      rw [drop_at hn] at h2
      have hm : mayM st1 n = true := by
        cases e : mayM st1 n with
        | true => rfl
        | false => rw [ledM, e] at h2; simp at h2
      have h2' : ledM (bhM st1 n) (row.drop (i + 1)) = some g := by
        rw [ledM, hm] at h2
        simpa using h2
      refine ⟨.ref p, rfl, .int n, rfl, p, st1, n, rfl, h1, ?_⟩
      rw [hm]
      refine ⟨true, rfl, iteF ?_⟩
      refine ⟨.ref p, rfl, .int n, rfl, p, st1, n, rfl, h1, by omega, fun H2 r s2 nr er => ?_⟩
      refine ⟨r, bhM st1 n, _, rfl, s1.trans s2, SqT.of er, h2', ?_⟩
      have := bhM_len st1 n
      omega
    · obtain ⟨p, st1, y, rfl, s1, h1, h2, h3⟩ := h
      rw [iv_len, List.drop_length] at h2
      have e : st1 = g := by simpa [ledM] using h2
      subst e
      exact ⟨.ref p, rfl, q H1 p s1 h1⟩

abbrev sGround : Stmt := top 26
theorem scGround : FnScope ["many"] ["many"] (defScope sGround) := ⟨rfl, rfl, rfl, by decide +kernel, rfl, by decide +kernel, by decide +kernel⟩
def spGround : Sp := fun vs H Q _ => ∃ m : Nat, vs = [.int m] ∧ m ≤ 60 ∧ ∀ H' p, Same H H' → H p = none → H' p = some (.tup (iv (rg m))) → Q (.ref p) H'
theorem rgV_rg (m : Nat) : rgV 0 (m : Int) = iv (rg m) := by
  unfold rgV rg
  show _ = List.map V.int (List.map (fun k : Nat => (k : Int)) (List.range m))
  rw [List.map_map]
  have e : ((m : Int) - 0).toNat = m := by omega
  rw [e]
  refine List.map_congr_left fun i _ => ?_
  show V.int (0 + (i : Nat)) = V.int (i : Nat)
  rw [Int.zero_add]
theorem ok_ground (B : Bi mg) (C : Cst mg) (D : DefIn K mg "ground" "ground" sGround ["many"]) (C1 : Cal P w K mg base 2 "is_between" ["thing", "low", "high"] spIsBetween) : Cal P w K mg base 3 "ground" ["many"] spGround := by
  refine D.cal fun f fd F => F.ok scGround (fun vs H Q E h => ?_) (fun cdv A outer s H vs Q E hr h => ?_)
  · obtain ⟨m, rfl, _⟩ := h
    rfl
  · obtain ⟨m, rfl, hm, q⟩ := h
    refine ⟨_, pss_cons (ps_if (pt_not (pt_val (pe_cal C1 hr (pa_cons (pv 0) (pa_cons pe_int (pa_cons (pe_kint C.MOST_HELD) pa_nil)))))) pss_never pss_nil)
      (pss_one (ps_ret (pe_tupRg rfl (by rfl) B.tuple (prg_1 (by rfl) B.range (pv 0))))), ?_⟩
    refine ⟨.int m, rfl, m, 0, 60, rfl, true, bl_t (by omega), iteF ?_⟩
    refine ⟨.int m, rfl, m, rfl, RgOk.of_le (by omega) (by omega) (by omega) (by omega), fun p np => ?_⟩
    rw [rgV_rg]
    exact q _ p (same_new np) np upd_same

abbrev sFollow : Stmt := top 27
theorem scFollow : FnScope ["state", "row"] ["state", "row"] (defScope sFollow) := ⟨rfl, rfl, rfl, by decide +kernel, rfl, by decide +kernel, by decide +kernel⟩
def spFollow (K : PySem.W.Frag) : Sp := fun vs H Q _ => ∃ a b s row g, vs = [.ref a, .ref b] ∧ SqT K H a (iv s) ∧ SqT K H b (iv row) ∧ ledM s row = some g ∧ IsSt 999 s ∧ s.length ≤ 60 ∧ row.length ≤ 100 ∧
  ∀ H' p, Same H H' → SqT K H' p (iv g) → Q (.ref p) H'
theorem ok_follow (C : Cst mg) (D : DefIn K mg "follow" "follow" sFollow ["state", "row"]) (C1 : Cal P w K mg base 4 "need_state" ["state"] (spNeedState K)) (C2 : Cal P w K mg base 2 "is_row" ["thing", "most"] (spIsRow K))
    (C3 : Cal P w K mg base 4 "led" ["state", "row"] (spLed K)) : Cal P w K mg base 5 "follow" ["state", "row"] (spFollow K) := by
  refine D.cal fun f fd F => F.ok scFollow (fun vs H Q E h => ?_) (fun cdv A outer s H vs Q E hr h => ?_)
  · obtain ⟨a, b, st, row, g, rfl, _⟩ := h
    rfl
  · obtain ⟨a, b, st, row, g, rfl, hT, hR, hg, hS, l1, l2, q⟩ := h
    refine ⟨_, pss_cons (ps_expr (pe_cal C1 hr (pa_cons (pv 0) pa_nil)))
      (pss_cons (ps_if (pt_not (pt_val (pe_cal C2 (hr.mono (by decide)) (pa_cons (pv 1) (pa_cons (pe_kint C.MOST_ROW) pa_nil))))) pss_never pss_nil)
      (pss_one (ps_ret (pe_cal C3 hr (pa_cons (pv 0) (pa_cons (pv 1) pa_nil)))))), ?_⟩
    refine ⟨.ref a, rfl, a, st, rfl, hT, hS, l1, fun H1 s1 => ?_⟩
    refine ⟨.ref b, rfl, b, row, 100, rfl, Same.tup s1 hR, by omega, by omega, fun H2 s2 => ⟨true, rfl, iteF ?_⟩⟩
    exact ⟨.ref a, rfl, .ref b, rfl, a, b, st, row, g, rfl, Same.tup (s1.trans s2) hT, Same.tup (s1.trans s2) hR, hg, by omega, l2, fun H3 p s3 h3 => q H3 p ((s1.trans s2).trans s3) h3⟩

/-! ### ways: the guards -/
abbrev sNeedShort : Stmt := top 31
theorem scNeedShort : FnScope ["state"] ["state"] (defScope sNeedShort) := ⟨rfl, rfl, rfl, by decide +kernel, rfl, by decide +kernel, by decide +kernel⟩
def spNeedShort (K : PySem.W.Frag) : Sp := fun vs H Q _ => ∃ a L, vs = [.ref a] ∧ SqT K H a (iv L) ∧ IsSt 99 L ∧ L.length ≤ 60 ∧ ∀ H', Same H H' → Q .non H'
theorem IsSt.up {t t' : Int} {s : List Int} (h : IsSt t s) (ht : t ≤ t') : IsSt t' s := ⟨h.asc, h.lo, fun x hx => Int.le_trans (h.hi x hx) ht⟩
theorem ok_need_short (C : Cst mg) (D : DefIn K mg "need_short" "need_short" sNeedShort ["state"]) (C1 : Cal P w K mg base 3 "is_state" ["thing"] (spIsState K)) : Cal P w K mg base 4 "need_short" ["state"] (spNeedShort K) := by
  refine D.cal fun f fd F => F.ok scNeedShort (fun vs H Q E h => ?_) (fun cdv A outer s H vs Q E hr h => ?_)
  · obtain ⟨a, L, rfl, _⟩ := h
    rfl
  · obtain ⟨a, L, rfl, hT, hS, hl, q⟩ := h
    refine ⟨_, pss_one (ps_if (PW.pt (pw_or (pt_not (pt_val (pe_cal C1 hr (pa_cons (pv 0) pa_nil)))) (pw_or1 (PW.pt (pw_and (pt_cmpR (op_neD hr.units) (pv 0) (pe_tup pa_nil) (nomark _))
      (pw_and1 (pt_cmpR op_gt (pe_ix ix_tup (pv 0) (pe_un un_neg pe_int) (fun _ _ => rfl)) (pe_kint C.GREATEST_SHORT) (nomark _)))))))) pss_never pss_nil), ?_⟩
    refine ⟨.ref a, rfl, a, L, rfl, hT, hS.up (by decide), hl, fun H1 s1 => ⟨true, rfl, iteF ?_⟩⟩
    refine ⟨.ref a, rfl, smallLe (by decide), fun p np => ?_⟩
    have hT2 : SqT K (upd H1 p (.tup [])) a (iv L) := Same.tup (s1.trans (same_new np)) hT
    refine ne_tup (M := []) hT2 (SqT.of upd_same) ⟨_, rfl, ?_⟩
    by_cases hL : L = []
    · rw [decide_eq_true hL]
      exact iteF (iteF (q _ (s1.trans (same_new np))))
    · rw [decide_eq_false hL]
      refine iteT ?_
      have e : iv L = (iv L.dropLast) ++ [.int (L.getLast hL)] := by
        rw [← List.map_singleton, ← List.map_append, List.dropLast_concat_getLast]
      refine ⟨.ref a, rfl, 1, rfl, a, iv L, -1, .int (L.getLast hL), rfl, rfl, hT2, by rw [e]; exact atI_last _ _, _, _, rfl, rfl, false, bl_f ?_, iteF (q _ (s1.trans (same_new np)))⟩
      have := hS.hi _ (List.getLast_mem hL)
      omega

abbrev sNeedBoth : Stmt := top 32
theorem scNeedBoth : FnScope ["one", "other"] ["one", "other"] (defScope sNeedBoth) := ⟨rfl, rfl, rfl, by decide +kernel, rfl, by decide +kernel, by decide +kernel⟩
/-- two states that may be asked about -/
structure Two (K : PySem.W.Frag) (H : Hp) (a b : Addr) (one two : List Int) : Prop where
  t1 : SqT K H a (iv one)
  t2 : SqT K H b (iv two)
  s1 : IsSt 99 one
  s2 : IsSt 99 two
  l1 : one.length ≤ 60
  l2 : two.length ≤ 60
theorem Two.mono {H H' : Hp} {a b : Addr} {one two : List Int} (t : Two K H a b one two) (s : Same H H') : Two K H' a b one two := ⟨Same.tup s t.t1, Same.tup s t.t2, t.s1, t.s2, t.l1, t.l2⟩
def spNeedBoth (K : PySem.W.Frag) : Sp := fun vs H Q _ => ∃ a b one two, vs = [.ref a, .ref b] ∧ Two K H a b one two ∧ ∀ H', Same H H' → Q .non H'
theorem ok_need_both (D : DefIn K mg "need_both" "need_both" sNeedBoth ["one", "other"]) (C1 : Cal P w K mg base 4 "need_short" ["state"] (spNeedShort K)) : Cal P w K mg base 5 "need_both" ["one", "other"] (spNeedBoth K) := by
  refine D.cal fun f fd F => F.ok scNeedBoth (fun vs H Q E h => ?_) (fun cdv A outer s H vs Q E hr h => ?_)
  · obtain ⟨a, b, one, two, rfl, _⟩ := h
    rfl
  · obtain ⟨a, b, one, two, rfl, t, q⟩ := h
    refine ⟨_, pss_cons (ps_expr (pe_cal C1 hr (pa_cons (pv 0) pa_nil))) (pss_one (ps_expr (pe_cal C1 hr (pa_cons (pv 1) pa_nil)))), ?_⟩
    exact ⟨.ref a, rfl, a, one, rfl, t.t1, t.s1, t.l1, fun H1 s1 => ⟨.ref b, rfl, b, two, rfl, Same.tup s1 t.t2, t.s2, t.l2, fun H2 s2 => q H2 (s1.trans s2)⟩⟩

abbrev sNeedTicks : Stmt := top 33
theorem scNeedTicks : FnScope ["ticks"] ["ticks"] (defScope sNeedTicks) := ⟨rfl, rfl, rfl, by decide +kernel, rfl, by decide +kernel, by decide +kernel⟩
def spNeedTicks : Sp := fun vs H Q _ => ∃ t : Nat, vs = [.int t] ∧ t ≤ 60 ∧ Q .non H
theorem ok_need_ticks (C : Cst mg) (D : DefIn K mg "need_ticks" "need_ticks" sNeedTicks ["ticks"]) (C1 : Cal P w K mg base 2 "is_between" ["thing", "low", "high"] spIsBetween) : Cal P w K mg base 3 "need_ticks" ["ticks"] spNeedTicks := by
  refine D.cal fun f fd F => F.ok scNeedTicks (fun vs H Q E h => ?_) (fun cdv A outer s H vs Q E hr h => ?_)
  · obtain ⟨t, rfl, _⟩ := h
    rfl
  · obtain ⟨t, rfl, ht, q⟩ := h
    exact ⟨_, pss_one (ps_if (pt_not (pt_val (pe_cal C1 hr (pa_cons (pv 0) (pa_cons pe_int (pa_cons (pe_kint C.MOST_TICKS) pa_nil)))))) pss_never pss_nil), .int t, rfl, t, 0, 60, rfl, true, bl_t (by omega), iteF q⟩

/-! ### does_reach, least_of -/
abbrev sDoesReach : Stmt := top 34
theorem scDoesReach : FnScope ["one", "other", "ticks", "number"] ["one", "other", "ticks"] (defScope sDoesReach) := ⟨rfl, rfl, rfl, by decide +kernel, rfl, by decide +kernel, by decide +kernel⟩
def spDoesReach (K : PySem.W.Frag) : Sp := fun vs H Q _ => ∃ a b one two, ∃ t : Nat, vs = [.ref a, .ref b, .int t] ∧ SqT K H a (iv one) ∧ SqT K H b (iv two) ∧ one.length ≤ 60 ∧ ∀ H', Same H H' → Q (.bl (decide (Rch one two t))) H'
theorem rch_all (one two : List Int) (t : Nat) : (((one.filter fun n => decide ((t : Int) ≤ n)).map fun n => decide (n - (t : Int) ∈ two)).all id) = decide (∀ n ∈ one, (t : Int) ≤ n → n - (t : Int) ∈ two) := by
  rw [Bool.eq_iff_iff, List.all_eq_true, decide_eq_true_iff]
  constructor
  · intro h n hn ht
    have := h (decide (n - (t : Int) ∈ two)) (List.mem_map.mpr ⟨n, List.mem_filter.mpr ⟨hn, decide_eq_true ht⟩, rfl⟩)
    exact of_decide_eq_true this
  · intro h b hb
    obtain ⟨n, hn, rfl⟩ := List.mem_map.mp hb
    obtain ⟨h1, h2⟩ := List.mem_filter.mp hn
    exact decide_eq_true (h n h1 (of_decide_eq_true h2))
theorem ok_does_reach (B : Bi mg) (D : DefIn K mg "does_reach" "does_reach" sDoesReach ["one", "other", "ticks"]) : Cal P w K mg base 1 "does_reach" ["one", "other", "ticks"] (spDoesReach K) := by
  refine D.cal fun f fd F => F.ok scDoesReach (fun vs H Q E h => ?_) (fun cdv A outer s H vs Q E hr h => ?_)
  · obtain ⟨a, b, one, two, t, rfl, _⟩ := h
    rfl
  · obtain ⟨a, b, one, two, t, rfl, hT1, hT2, hl, q⟩ := h
    refine ⟨_, pss_one (ps_ret (pe_and (pe_cmpR op_eq (pe_callB call_len_seq (by rfl) B.len PySem.boot_len (pa_cons (pv 0) pa_nil)) (pe_callB call_len_seq (by rfl) B.len PySem.boot_len (pa_cons (pv 1) pa_nil)) (nomark _))
      (pe_one (pe_callB (cr_all rfl) (by rfl) B.all (by decide +kernel) (pa_cons
        (pe_lc (own := [("number", 3)]) (g := gName 3) rfl scDoesReach.nd (pi_tup (pv 0)) (blkOk_by (own := [("number", 3)]) (N := ["one", "other", "ticks", "number"]) (sc := defScope sDoesReach) (by decide +kernel))
          (fun _ _ _ _ _ => pg_name (i := 3) scDoesReach.nd rfl (Or.inl rfl)) (fun _ _ _ _ _ => pts_one (pt_cmpR op_ge (pv 3) (pv 2) (nomark _)))
          (fun _ _ _ _ _ => pe_cmpR (show OpR _ (compareOp .In) (rIn K false) from op_in_seq) (pe_op op_sub (pv 3) (pv 2)) (pv 1) (by rfl))) pa_nil))))), ?_⟩
    refine ⟨.ref a, rfl, a, iv one, rfl, .inr hT1, .ref b, rfl, b, iv two, rfl, .inr hT2, rfl, _, rfl, ite2 (fun e => ?_) (fun e => ?_)⟩
    · have e1 : one.length = two.length := by
        have := V.int.inj (of_decide_eq_true e)
        rw [iv_len, iv_len] at this
        omega
      refine ⟨.ref a, rfl, a, rfl, ⟨_, hT1⟩, fun D1 hD1 => ?_⟩
      refine lc_tup (K := K) (a := a) (xs := iv one) (fun i H1 => LcP H D1 one (fun n => decide ((t : Int) ≤ n)) (fun n => .bl (decide (n - (t : Int) ∈ two))) i H1) (LcP.start hD1) (fun i H1 _ h => Same.tup h.1 hT1) (fun i x H1 hx h => ?_) (fun H1 h => ?_)
      · obtain ⟨n, hn, rfl⟩ := iv_get hx
        refine ⟨rfl, .int n, rfl, .int t, rfl, _, _, rfl, rfl, _, rfl, ite2 (fun e => ?_) (fun e => ?_)⟩
        · refine ⟨.int n, rfl, .int t, rfl, _, _, rfl, rfl, .ref b, rfl, b, iv two, rfl, .inr (Same.tup h.1 hT2), rfl, flat_iv two, ?_⟩
          have z := h.kept hD1 hn e (by omega) (Same.refl _)
          have e3 : inV (.int (n - (t : Int))) (iv two) = decide (n - (t : Int) ∈ two) := in_iv _ _
          rw [← e3] at z
          exact z
        · exact h.drop hn (by rw [decide_eq_false]; exact fun z => e (decide_eq_true z)) (Same.refl _)
      · rw [iv_len] at h
        have h := h.done
        refine ⟨D1, (one.filter fun n => decide ((t : Int) ≤ n)).map fun n => decide (n - (t : Int) ∈ two), rfl, SqL.of (by rw [h.2, List.map_map]; rfl), ?_⟩
        rw [rch_all]
        have z := q _ h.1
        have e2 : decide (Rch one two t) = decide (∀ n ∈ one, (t : Int) ≤ n → n - (t : Int) ∈ two) := by
          unfold Rch
          simp [e1]
        rw [e2] at z
        exact z
    · have e1 : ¬ one.length = two.length := fun z => e (decide_eq_true (by rw [iv_len, iv_len, z]))
      have z := q H (Same.refl _)
      rw [decide_eq_false (show ¬ Rch one two t from fun r => e1 r.1)] at z
      exact z

abbrev sLeastOf : Stmt := top 35
theorem scLeastOf : FnScope ["one", "other", "ticks"] ["one", "other"] (defScope sLeastOf) := ⟨rfl, rfl, rfl, by decide +kernel, rfl, by decide +kernel, by decide +kernel⟩
/-- t is the least number of ticks -/
def Least (one two : List Int) (t : Nat) : Prop := Rch one two t ∧ t ≤ 60 ∧ ∀ t' : Nat, t' < t → ¬ Rch one two t'
def spLeastOf (K : PySem.W.Frag) : Sp := fun vs H Q _ => ∃ a b one two, ∃ T : Nat, vs = [.ref a, .ref b] ∧ SqT K H a (iv one) ∧ SqT K H b (iv two) ∧ one.length ≤ 60 ∧ Rch one two T ∧ T ≤ 60 ∧ ∀ (t : Nat) H', Same H H' → Least one two t → Q (.int t) H'
theorem ok_least_of (B : Bi mg) (D : DefIn K mg "least_of" "least_of" sLeastOf ["one", "other"]) (C1 : Cal P w K mg base 1 "does_reach" ["one", "other", "ticks"] (spDoesReach K)) : Cal P w K mg base 2 "least_of" ["one", "other"] (spLeastOf K) := by
  refine D.cal fun f fd F => F.ok scLeastOf (fun vs H Q E h => ?_) (fun cdv A outer s H vs Q E hr h => ?_)
  · obtain ⟨a, b, one, two, T, rfl, _⟩ := h
    rfl
  · obtain ⟨a, b, one, two, T, rfl, hT1, hT2, hl, hR, hT60, q⟩ := h
    refine ⟨_, pss_cons (ps_if (pt_cmpR op_ne (pe_callB call_len_seq (by rfl) B.len PySem.boot_len (pa_cons (pv 0) pa_nil)) (pe_callB call_len_seq (by rfl) B.len PySem.boot_len (pa_cons (pv 1) pa_nil)) (nomark _)) pss_never pss_nil)
      (pss_cons (ps_set (i := 2) scLeastOf.nd rfl (.inl rfl) pe_int)
      (pss_cons (ps_while PassesOwn.never (pt_not (pt_val (pe_cal C1 hr (pa_cons (pv 0) (pa_cons (pv 1) (pa_cons (pv 2) pa_nil)))))) (pss_one (ps_set (i := 2) scLeastOf.nd rfl (.inl rfl) (pe_op op_add (pv 2) pe_int))))
      (pss_one (ps_ret (pv 2))))), ?_⟩
    refine ⟨.ref a, rfl, a, iv one, rfl, .inr hT1, .ref b, rfl, b, iv two, rfl, .inr hT2, rfl, _, rfl, iteNS (by rw [iv_len, iv_len, hR.1]) ?_⟩
    refine ⟨fun m σ H1 => ∃ t : Nat, σ = [some (.ref a), some (.ref b), some (.int t)] ∧ t + m = T ∧ Same H H1 ∧ ∀ t' : Nat, t' < t → ¬ Rch one two t', ⟨T, 0, rfl, by omega, Same.refl _, fun t' h => absurd h (Nat.not_lt_zero _)⟩, fun m σ H1 hW => ?_⟩
    obtain ⟨t, rfl, hm, s1, hno⟩ := hW
    refine ⟨.ref a, rfl, .ref b, rfl, .int t, rfl, a, b, one, two, t, rfl, Same.tup s1 hT1, Same.tup s1 hT2, hl, fun H2 s2 => ?_⟩
    by_cases hr1 : Rch one two t
    · rw [decide_eq_true hr1]
      exact ⟨true, rfl, iteF ⟨.int t, rfl, q t H2 (s1.trans s2) ⟨hr1, by omega, hno⟩⟩⟩
    · rw [decide_eq_false hr1]
      have hlt : t < T := by
        rcases Nat.lt_or_ge t T with z | z
        · exact z
        · have e : t = T := by omega
          exact absurd (e ▸ hR) hr1
      refine ⟨false, rfl, iteT ⟨fun σ' H' => σ' = [some (.ref a), some (.ref b), some (.int ((t + 1 : Nat) : Int))] ∧ Same H H', fun σ' H' hN => ?_, ?_⟩⟩
      · obtain ⟨e1, e2⟩ := hN
        refine ⟨m - 1, by omega, t + 1, e1, by omega, e2, fun t' h => ?_⟩
        rcases Nat.lt_or_eq_of_le (Nat.le_of_lt_succ h) with z | z
        · exact hno t' z
        · rw [z]; exact hr1
      · refine ⟨.int t, rfl, _, _, rfl, rfl, ?_, s1.trans s2⟩
        show [some (V.ref a), some (V.ref b), some (V.int ((t : Int) + 1))] = _
        rw [show ((t + 1 : Nat) : Int) = (t : Int) + 1 by omega]
end
end Bw

/-! places_of, many_of, first_of, reaches, least_ticks, many_ways, ways, shortest_way, first_way -/
namespace Bw
open PySem PySem.Spec PyProof.Rows L2
section
variable {P : Program} {w : World} {K : PySem.W.Frag} {mg : Str → Option Value} {base : Heap}
abbrev sPlacesOf : Stmt := top 36
theorem scPlacesOf : FnScope ["one", "other", "ticks", "places", "place", "number"] ["one", "other", "ticks"] (defScope sPlacesOf) := ⟨rfl, rfl, rfl, by decide +kernel, rfl, by decide +kernel, by decide +kernel⟩
def spPlacesOf (K : PySem.W.Frag) : Sp := fun vs H Q _ => ∃ a b one two, ∃ t : Nat, vs = [.ref a, .ref b, .int t] ∧ SqT K H a (iv one) ∧ SqT K H b (iv two) ∧ two.length ≤ 1000 ∧ t ≤ 1000 ∧
  ∀ H' p, Same H H' → H p = none → H' p = some (.lst (iv (pl one two t))) → Q (.ref p) H'
theorem ok_places_of (B : Bi mg) (D : DefIn K mg "places_of" "places_of" sPlacesOf ["one", "other", "ticks"]) : Cal P w K mg base 1 "places_of" ["one", "other", "ticks"] (spPlacesOf K) := by
  refine D.cal fun f fd F => F.ok scPlacesOf (fun vs H Q E h => ?_) (fun cdv A outer s H vs Q E hr h => ?_)
  · obtain ⟨a, b, one, two, t, rfl, _⟩ := h
    rfl
  · obtain ⟨a, b, one, two, t, rfl, hT1, hT2, hl, ht, q⟩ := h
    refine ⟨_, pss_cons (ps_set (i := 3) scPlacesOf.nd rfl (.inl rfl) (pe_lst (pa_starR rfl (prg_1 (by rfl) B.range (pv 2)) (StX.pa_star
        (pe_lc (own := [("number", 5)]) (g := gName 5) (tt := tYes) rfl scPlacesOf.nd (pi_tup (pv 1)) (blkOk_by (own := [("number", 5)]) (N := ["one", "other", "ticks", "places", "place", "number"]) (sc := defScope sPlacesOf) (by decide +kernel))
          (fun _ _ _ _ _ => pg_name (i := 5) scPlacesOf.nd rfl (Or.inl rfl)) (fun _ _ _ _ _ => pts_nil) (fun _ _ _ _ _ => pe_op op_add (pv 5) (pv 2))) pa_nil))))
      (pss_one (ps_ret (pe_lc (own := [("place", 4)]) (g := gName 4) rfl scPlacesOf.nd (pi_list (pv 3)) (blkOk_by (own := [("place", 4)]) (N := ["one", "other", "ticks", "places", "place", "number"]) (sc := defScope sPlacesOf) (by decide +kernel))
          (fun _ _ _ _ _ => pg_name (i := 4) scPlacesOf.nd rfl (Or.inl rfl)) (fun _ _ _ _ _ => pts_one (pt_cmpR (show OpR _ (compareOp .NotIn) (rIn K true) from op_notIn_seq) (pv 4) (pv 0) (by rfl))) (fun _ _ _ _ _ => pv 4)))), ?_⟩
    refine ⟨.int t, rfl, t, rfl, RgOk.of_le (by omega) (by omega) (by omega) (by omega), .ref b, rfl, b, rfl, ⟨_, hT2⟩, fun D1 hD1 => ?_⟩
    refine lc_tup (K := K) (a := b) (xs := iv two) (fun i H1 => LcP H D1 two (fun _ => true) (fun n => .int (n + (t : Int))) i H1) (LcP.start hD1) (fun i H1 _ h => Same.tup h.1 hT2) (fun i x H1 hx h => ?_) (fun H1 h => ?_)
    · obtain ⟨n, hn, rfl⟩ := iv_get hx
      exact ⟨rfl, .int n, rfl, .int t, rfl, _, _, rfl, rfl, h.kept hD1 hn rfl (by omega) (Same.refl _)⟩
    · rw [iv_len] at h
      have h := h.done
      rw [filter_yes] at h
      have eU : rgV 0 (t : Int) ++ (two.map (fun n => V.int (n + (t : Int))) ++ []) = iv (uni two t) := by
        unfold uni
        rw [rgV_rg, List.append_nil]
        simp only [iv, List.map_append, List.map_map]
        rfl
      refine ⟨D1, two.map fun n => .int (n + (t : Int)), rfl, .inr (SqL.of h.2), ?_⟩
      have hz : (uni two t).length = t + two.length := uni_length two t
      refine ⟨?_, fun p np => ?_⟩
      · show (rgV 0 (t : Int) ++ (two.map (fun n => V.int (n + (t : Int))) ++ [])).length ≤ sizeLine
        rw [eU, iv_len]
        exact smallLe (by omega)
      · have hp : (upd H1 p (.lst (rgV 0 (t : Int) ++ (two.map (fun n => V.int (n + (t : Int))) ++ [])))) p = some (.lst (iv (uni two t))) := by rw [upd_same, eU]
        have s2 : Same H (upd H1 p (.lst (rgV 0 (t : Int) ++ (two.map (fun n => V.int (n + (t : Int))) ++ [])))) := h.1.trans (same_new np)
        generalize upd H1 p (.lst (rgV 0 (t : Int) ++ (two.map (fun n => V.int (n + (t : Int))) ++ []))) = H2 at hp s2
        refine ⟨.ref p, rfl, p, rfl, ⟨_, SqL.of hp⟩, fun D2 hD2 => ?_⟩
        refine lc_list (K := K) (a := p) (xs := iv (uni two t)) (fun i H3 => LcP H2 D2 (uni two t) (fun n => !decide (n ∈ one)) (fun n => .int n) i H3) (LcP.start hD2) (fun i H3 _ h => SqL.of (h.1 _ _ hp)) (fun i x H3 hx h3 => ?_) (fun H3 h3 => ?_)
        · obtain ⟨n, hn, rfl⟩ := iv_get hx
          refine ⟨rfl, .int n, rfl, .ref a, rfl, a, iv one, rfl, .inr (Same.tup (s2.trans h3.1) hT1), rfl, flat_iv one, _, rfl, ?_⟩
          show if (!inV (.int n) (iv one)) = true then _ else _
          rw [in_iv]
          refine ite2 (fun e => ?_) (fun e => ?_)
          · exact ⟨.int n, rfl, h3.kept hD2 hn e (by omega) (Same.refl _)⟩
          · exact h3.drop hn (by cases hb : (!decide (n ∈ one)) with
              | true => exact absurd hb e
              | false => rfl) (Same.refl _)
        · rw [iv_len] at h3
          have h3 := h3.done
          exact q _ D2 (s2.trans h3.1) (s2.free hD2) h3.2

abbrev sManyOf : Stmt := top 37
theorem scManyOf : FnScope ["places", "thing", "turn", "found", "at", "last"] ["places", "thing"] (defScope sManyOf) := ⟨rfl, rfl, rfl, by decide +kernel, rfl, by decide +kernel, by decide +kernel⟩
def spManyOf (K : PySem.W.Frag) : Sp := fun vs H Q _ => ∃ a L t, vs = [.ref a, .int t] ∧ SqL K H a (iv L) ∧ Asc L ∧ L.length ≤ 1000 ∧ Q (.int (mo L t)) H
theorem ok_many_of (B : Bi mg) (D : DefIn K mg "many_of_ways" "many_of" sManyOf ["places", "thing"]) : Cal P w K mg base 1 "many_of_ways" ["places", "thing"] (spManyOf K) := by
  refine D.cal fun f fd F => F.ok scManyOf (fun vs H Q E h => ?_) (fun cdv A outer s H vs Q E hr h => ?_)
  · obtain ⟨a, L, t, rfl, _⟩ := h
    rfl
  · obtain ⟨a, L, t, rfl, hL, hs, hl, q⟩ := h
    refine ⟨_, pss_cons (ps_par (i := 3) (j := 4) (by rfl) scManyOf.nd rfl rfl (by decide) rfl rfl (pa_cons pe_int (pa_cons (pe_callB call_len_seq (by rfl) B.len PySem.boot_len (pa_cons (pv 0) pa_nil)) pa_nil)) (by rfl))
      (pss_cons (ps_for PassesOwn.never rfl (pi_range1 (by rfl) B.range (pa_cons (pe_callB call_len_seq (by rfl) B.len PySem.boot_len (pa_cons (pv 0) pa_nil)) pa_nil)) (pg_name (i := 2) scManyOf.nd rfl (.inl rfl))
        (pss_cons (ps_set (i := 5) scManyOf.nd rfl (.inl rfl) (pe_op op_sub (pe_op op_sub (pe_op op_add (pv 1) (pe_callB call_len_seq (by rfl) B.len PySem.boot_len (pa_cons (pv 0) pa_nil))) pe_int) (pv 2)))
        (pss_cons (ps_while PassesOwn.never (PW.pt (pw_and (pt_cmpR op_gt (pv 4) pe_int (nomark _)) (pw_and1 (pt_cmpR op_ge (pe_ix ix_list (pv 0) (pe_op op_sub (pv 4) pe_int) (fun _ _ => rfl)) (pv 5) (nomark _)))))
          (pss_one (ps_set (i := 4) scManyOf.nd rfl (.inl rfl) (pe_op op_sub (pv 4) pe_int))))
        (pss_one (ps_set (i := 3) scManyOf.nd rfl (.inl rfl) (pe_op op_mul (pv 3) (pe_op op_sub (pe_op op_sub (pe_callB call_len_seq (by rfl) B.len PySem.boot_len (pa_cons (pv 0) pa_nil)) (pv 4)) (pv 2))))))))
      (pss_one (ps_ret (pv 3)))), ?_⟩
    refine ⟨.ref a, rfl, a, iv L, rfl, .inl hL, .int 1, .int (iv L).length, rfl, ?_⟩
    refine ⟨.ref a, rfl, a, iv L, rfl, .inl hL, ((iv L).length : Int), rfl, by rw [iv_len]; omega, by rw [iv_len]; omega, ?_⟩
    refine for_range (lo := 0) (n := ((iv L).length : Int).toNat) (fun k σ H1 => H1 = H ∧ ∃ (at' : Nat) (y2 y5 : Option V), σ = [some (.ref a), some (.int t), y2, some (.int (moTo L L.length t k)), some (.int at'), y5] ∧ at' ≤ L.length ∧
        ∀ (j : Nat) (v : Int), at' ≤ j → L[j]? = some v → t + (L.length : Int) - (k : Int) ≤ v)
      ⟨rfl, L.length, none, none, by rw [iv_len]; rfl, Nat.le_refl _, fun j v hj hv => ?_⟩ (fun k σ H1 hk h => ?_) (fun σ H1 h => ?_)
    · have := (List.getElem?_eq_some_iff.mp hv).1
      omega
    · obtain ⟨rfl, at0, y2, y5, rfl, hle, hhi⟩ := h
      have hk' : k < L.length := by rw [iv_len] at hk; omega
      -- last = thing + len(places) - 1 - turn
      refine ⟨.int t, rfl, .ref a, rfl, a, iv L, rfl, .inl hL, _, _, rfl, rfl, _, _, rfl, rfl, _, rfl, _, _, rfl, rfl, ?_⟩
      have e1 : t + ((iv L).length : Int) - 1 - (0 + (k : Int)) = t + (L.length : Int) - 1 - (k : Int) := by rw [iv_len]; omega
      refine ⟨fun m σ H2 => H2 = H1 ∧ ∃ at1 : Nat, m = at1 ∧ σ = [some (.ref a), some (.int t), some (.int (0 + (k : Int))), some (.int (moTo L L.length t k)), some (.int at1), some (.int (t + (L.length : Int) - 1 - (k : Int)))] ∧ at1 ≤ L.length ∧
          ∀ (j : Nat) (v : Int), at1 ≤ j → L[j]? = some v → t + (L.length : Int) - 1 - (k : Int) ≤ v, ⟨at0, rfl, at0, rfl, ?_, hle, fun j v hj hv => ?_⟩, fun m σ H2 hW => ?_⟩
      · show [some (V.ref a), some (V.int t), some (V.int (0 + (k : Int))), some (V.int (moTo L L.length t k)), some (V.int at0), some (V.int (t + ((iv L).length : Int) - 1 - (0 + (k : Int))))] = _
        rw [e1]
      · have := hhi j v hj hv
        omega
      · obtain ⟨rfl, at1, rfl, rfl, hle1, hhi1⟩ := hW
        by_cases h0 : m = 0
        · refine ⟨.int m, rfl, _, _, rfl, rfl, false, bl_f (by omega), iteF (iteF ?_)⟩
          have hc := cge_split hs hle1 hhi1 (.inl h0)
          refine ⟨_, rfl, .ref a, rfl, a, iv L, rfl, .inl hL, .int m, rfl, _, _, rfl, rfl, .int (0 + (k : Int)), rfl, _, _, rfl, rfl, _, _, rfl, rfl, .inr ?_, rfl, m, some (.int (0 + (k : Int))), some (.int (t + (L.length : Int) - 1 - (k : Int))), ?_, hle1, fun j v hj hv => ?_⟩
          · rw [iv_len]; omega
          · show [_, _, _, some (V.int (moTo L L.length t k * (((iv L).length : Int) - (m : Int) - (0 + (k : Int))))), _, _] = [_, _, _, some (V.int (moTo L L.length t k * (cge L (t + (L.length : Int) - 1 - (k : Int)) - (k : Int)))), _, _]
            rw [hc, iv_len, show ((L.length : Int) - (m : Int) - (0 + (k : Int))) = (L.length : Int) - (m : Int) - (k : Int) by omega]
          · have := hhi1 j v hj hv
            omega
        · have hlt : m - 1 < L.length := by omega
          have hg : L[m - 1]? = some L[m - 1] := List.getElem?_eq_getElem hlt
          have e2 : (m : Int) - 1 = ((m - 1 : Nat) : Int) := by omega
          refine ⟨.int m, rfl, _, _, rfl, rfl, true, bl_t (by omega), iteT ?_⟩
          refine ⟨.ref a, rfl, .int m, rfl, _, _, rfl, rfl, a, iv L, _, .int L[m - 1], rfl, rfl, hL, at_of e2 (iv_at hg), .int (t + (L.length : Int) - 1 - (k : Int)), rfl, _, _, rfl, rfl, _, rfl, ite2 (fun e => ?_) (fun e => ?_)⟩
          · have e := of_decide_eq_true e
            refine ⟨fun σ' H' => H' = H2 ∧ σ' = [some (.ref a), some (.int t), some (.int (0 + (k : Int))), some (.int (moTo L L.length t k)), some (.int ((m - 1 : Nat) : Int)), some (.int (t + (L.length : Int) - 1 - (k : Int)))], fun σ' H' hN => ?_, ?_⟩
            · obtain ⟨rfl, rfl⟩ := hN
              refine ⟨m - 1, by omega, rfl, m - 1, rfl, rfl, by omega, fun j v hj hv => ?_⟩
              rcases Nat.lt_or_eq_of_le hj with z | z
              · exact hhi1 j v (by omega) hv
              · rw [← z, hg] at hv
                have := Option.some.inj hv
                omega
            · refine ⟨.int m, rfl, _, _, rfl, rfl, rfl, ?_⟩
              show [_, _, _, _, some (V.int ((m : Int) - 1)), _] = _
              rw [e2]
          · have e : ¬ t + (L.length : Int) - 1 - (k : Int) ≤ L[m - 1] := fun z => e (decide_eq_true z)
            have hc := cge_split hs hle1 hhi1 (.inr ⟨_, hg, by omega⟩)
            refine ⟨_, rfl, .ref a, rfl, a, iv L, rfl, .inl hL, .int m, rfl, _, _, rfl, rfl, .int (0 + (k : Int)), rfl, _, _, rfl, rfl, _, _, rfl, rfl, .inr ?_, rfl, m, some (.int (0 + (k : Int))), some (.int (t + (L.length : Int) - 1 - (k : Int))), ?_, hle1, fun j v hj hv => ?_⟩
            · rw [iv_len]; omega
            · show [_, _, _, some (V.int (moTo L L.length t k * (((iv L).length : Int) - (m : Int) - (0 + (k : Int))))), _, _] = [_, _, _, some (V.int (moTo L L.length t k * (cge L (t + (L.length : Int) - 1 - (k : Int)) - (k : Int)))), _, _]
              rw [hc, iv_len, show ((L.length : Int) - (m : Int) - (0 + (k : Int))) = (L.length : Int) - (m : Int) - (k : Int) by omega]
            · have := hhi1 j v hj hv
              omega
    · obtain ⟨rfl, at0, y2, y5, rfl, _, _⟩ := h
      have e : ((iv L).length : Int).toNat = L.length := by rw [iv_len]; omega
      rw [e]
      exact ⟨_, rfl, q⟩
end
end Bw

/-! first_of, reaches, least_ticks, many_ways, ways, shortest_way, first_way -/
namespace Bw
open PySem PySem.Spec PyProof.Rows L2
/-- how many ways of so many ticks there are -/
def wN (one two : List Int) (t : Nat) : Int := if Rch one two t then mo (pl one two t) 0 else 0
section
variable {P : Program} {w : World} {K : PySem.W.Frag} {mg : Str → Option Value} {base : Heap}
abbrev sFirstOf : Stmt := top 39
theorem scFirstOf : FnScope ["one", "other", "ticks", "thing", "place"] ["one", "other", "ticks"] (defScope sFirstOf) := ⟨rfl, rfl, rfl, by decide +kernel, rfl, by decide +kernel, by decide +kernel⟩
def spFirstOf (K : PySem.W.Frag) : Sp := fun vs H Q _ => ∃ a b one two, ∃ t : Nat, vs = [.ref a, .ref b, .int t] ∧ SqT K H a (iv one) ∧ SqT K H b (iv two) ∧ two.length ≤ 1000 ∧ t ≤ 1000 ∧
  ∀ H' p, Same H H' → H p = none → H' p = some (.tup (iv (firstRow (pl one two t) 0))) → Q (.ref p) H'
theorem ok_first_of (B : Bi mg) (D : DefIn K mg "first_of" "first_of" sFirstOf ["one", "other", "ticks"]) (C1 : Cal P w K mg base 1 "places_of" ["one", "other", "ticks"] (spPlacesOf K)) :
    Cal P w K mg base 2 "first_of" ["one", "other", "ticks"] (spFirstOf K) := by
  refine D.cal fun f fd F => F.ok scFirstOf (fun vs H Q E h => ?_) (fun cdv A outer s H vs Q E hr h => ?_)
  · obtain ⟨a, b, one, two, t, rfl, _⟩ := h
    rfl
  · obtain ⟨a, b, one, two, t, rfl, hT1, hT2, hl, ht, q⟩ := h
    refine ⟨_, pss_one (ps_ret (pe_tupleOf (by rfl) B.tuple
        (pe_lc (own := [("thing", 3), ("place", 4)]) (g := gTup K 2 (gCons (gName 3) (gCons (gName 4) gNil))) (tt := tYes) rfl scFirstOf.nd (pi_enum (by rfl) B.enumerate (pa_cons (pe_cal C1 hr (pa_cons (pv 0) (pa_cons (pv 1) (pa_cons (pv 2) pa_nil)))) pa_nil))
          (blkOk_by (own := [("thing", 3), ("place", 4)]) (N := ["one", "other", "ticks", "thing", "place"]) (sc := defScope sFirstOf) (by decide +kernel))
          (fun _ _ _ _ _ => pg_tup rfl (pgs_cons (pg_name (i := 3) scFirstOf.nd rfl (Or.inl rfl)) (pgs_cons (pg_name (i := 4) scFirstOf.nd rfl (Or.inl rfl)) pgs_nil))) (fun _ _ _ _ _ => pts_nil)
          (fun _ _ _ _ _ => pe_op op_sub (pv 4) (pv 3))))), ?_⟩
    refine ⟨.ref a, rfl, .ref b, rfl, .int t, rfl, a, b, one, two, t, rfl, hT1, hT2, hl, ht, fun H1 p s1 np hp => ?_⟩
    refine ⟨p, iv (pl one two t), rfl, SqL.of hp, fun D1 hD1 => ?_⟩
    have hz : (pl one two t).length ≤ t + two.length := by
      rw [← uni_length]
      exact List.length_filter_le _ _
    refine lc_it walk_enum (fun i H3 => Same H1 H3 ∧ H3 D1 = some (.lst ((iv (firstRow (pl one two t) 0)).take i))) ⟨same_new hD1, upd_same⟩ (fun i H3 _ h => SqL.of (h.1 _ _ hp)) (fun i x H3 H4 hi h y => ?_) (fun H3 h => ?_)
    · obtain ⟨T, x1, x2, rfl, nT, rfl, g1, g2⟩ := y
      rw [iv_len] at hi
      have hg := List.getElem?_eq_getElem hi
      have e1 : x1 = .int (i : Nat) := (Option.some.inj g1).symm
      have e2 : x2 = .int (pl one two t)[i] := iv_val g2 hg
      subst e1 e2
      refine ⟨T, [.int (i : Nat), .int (pl one two t)[i]], rfl, SqT.of upd_same, rfl, _, [.int (pl one two t)[i]], rfl, _, [], rfl, rfl, rfl, _, rfl, _, rfl, _, _, rfl, rfl, ?_⟩
      have sT : Same H3 (upd H3 T (.tup [.int (i : Nat), .int (pl one two t)[i]])) := same_new nT
      refine ⟨_, sT _ _ h.2, small (by rw [List.length_take, iv_len, firstRow_length]; omega), fun c o e => ?_, ?_⟩
      · rw [upd_ne (ne_of_none e hD1)]
        exact sT _ _ (h.1 _ _ e)
      · have e3 : (iv (firstRow (pl one two t) 0))[i]? = some (.int ((pl one two t)[i] - (i : Nat))) := by
          refine iv_at ?_
          rw [firstRow_get, hg]
          show some ((pl one two t)[i] - (0 + (i : Int))) = _
          rw [Int.zero_add]
        rw [upd_same, List.take_add_one, e3]
        rfl
    · refine .inl ⟨D1, _, rfl, SqL.of h.2, fun r nr => ?_⟩
      have e4 : (iv (firstRow (pl one two t) 0)).take (iv (pl one two t)).length = iv (firstRow (pl one two t) 0) := List.take_of_length_le (by rw [iv_len, iv_len, firstRow_length]; exact Nat.le_refl _)
      rw [e4]
      exact q _ r ((s1.trans h.1).trans (same_new nr)) ((s1.trans h.1).free nr) upd_same

abbrev sReaches : Stmt := top 40
theorem scReaches : FnScope ["one", "other", "ticks"] ["one", "other", "ticks"] (defScope sReaches) := ⟨rfl, rfl, rfl, by decide +kernel, rfl, by decide +kernel, by decide +kernel⟩
def spReaches (K : PySem.W.Frag) : Sp := fun vs H Q _ => ∃ a b one two, ∃ t : Nat, vs = [.ref a, .ref b, .int t] ∧ Two K H a b one two ∧ t ≤ 60 ∧ ∀ H', Same H H' → Q (.bl (decide (Rch one two t))) H'
theorem ok_reaches (D : DefIn K mg "reaches" "reaches" sReaches ["one", "other", "ticks"]) (C1 : Cal P w K mg base 5 "need_both" ["one", "other"] (spNeedBoth K)) (C2 : Cal P w K mg base 3 "need_ticks" ["ticks"] spNeedTicks)
    (C3 : Cal P w K mg base 1 "does_reach" ["one", "other", "ticks"] (spDoesReach K)) : Cal P w K mg base 6 "reaches" ["one", "other", "ticks"] (spReaches K) := by
  refine D.cal fun f fd F => F.ok scReaches (fun vs H Q E h => ?_) (fun cdv A outer s H vs Q E hr h => ?_)
  · obtain ⟨a, b, one, two, t, rfl, _⟩ := h
    rfl
  · obtain ⟨a, b, one, two, t, rfl, tw, ht, q⟩ := h
    refine ⟨_, pss_cons (ps_expr (pe_cal C1 hr (pa_cons (pv 0) (pa_cons (pv 1) pa_nil)))) (pss_cons (ps_expr (pe_cal C2 (hr.mono (by decide)) (pa_cons (pv 2) pa_nil)))
      (pss_one (ps_ret (pe_cal C3 (hr.mono (by decide)) (pa_cons (pv 0) (pa_cons (pv 1) (pa_cons (pv 2) pa_nil))))))), ?_⟩
    refine ⟨.ref a, rfl, .ref b, rfl, a, b, one, two, rfl, tw, fun H1 s1 => ⟨.int t, rfl, t, rfl, ht, ?_⟩⟩
    exact ⟨.ref a, rfl, .ref b, rfl, .int t, rfl, a, b, one, two, t, rfl, (tw.mono s1).t1, (tw.mono s1).t2, tw.l1, fun H2 s2 => q H2 (s1.trans s2)⟩

abbrev sLeastTicks : Stmt := top 41
theorem scLeastTicks : FnScope ["one", "other"] ["one", "other"] (defScope sLeastTicks) := ⟨rfl, rfl, rfl, by decide +kernel, rfl, by decide +kernel, by decide +kernel⟩
def spLeastTicks (K : PySem.W.Frag) : Sp := fun vs H Q _ => ∃ a b one two, vs = [.ref a, .ref b] ∧ Two K H a b one two ∧ Rch one two 60 ∧ ∀ (t : Nat) H', Same H H' → Least one two t → Q (.int t) H'
theorem ok_least_ticks (D : DefIn K mg "least_ticks" "least_ticks" sLeastTicks ["one", "other"]) (C1 : Cal P w K mg base 5 "need_both" ["one", "other"] (spNeedBoth K)) (C2 : Cal P w K mg base 2 "least_of" ["one", "other"] (spLeastOf K)) :
    Cal P w K mg base 6 "least_ticks" ["one", "other"] (spLeastTicks K) := by
  refine D.cal fun f fd F => F.ok scLeastTicks (fun vs H Q E h => ?_) (fun cdv A outer s H vs Q E hr h => ?_)
  · obtain ⟨a, b, one, two, rfl, _⟩ := h
    rfl
  · obtain ⟨a, b, one, two, rfl, tw, hR, q⟩ := h
    refine ⟨_, pss_cons (ps_expr (pe_cal C1 hr (pa_cons (pv 0) (pa_cons (pv 1) pa_nil)))) (pss_one (ps_ret (pe_cal C2 (hr.mono (by decide)) (pa_cons (pv 0) (pa_cons (pv 1) pa_nil))))), ?_⟩
    refine ⟨.ref a, rfl, .ref b, rfl, a, b, one, two, rfl, tw, fun H1 s1 => ?_⟩
    exact ⟨.ref a, rfl, .ref b, rfl, a, b, one, two, 60, rfl, (tw.mono s1).t1, (tw.mono s1).t2, tw.l1, hR, Nat.le_refl _, fun t H2 s2 hL => q t H2 (s1.trans s2) hL⟩

abbrev sManyWays : Stmt := top 42
theorem scManyWays : FnScope ["one", "other", "ticks"] ["one", "other", "ticks"] (defScope sManyWays) := ⟨rfl, rfl, rfl, by decide +kernel, rfl, by decide +kernel, by decide +kernel⟩
def spManyWays (K : PySem.W.Frag) : Sp := fun vs H Q _ => ∃ a b one two, ∃ t : Nat, vs = [.ref a, .ref b, .int t] ∧ Two K H a b one two ∧ t ≤ 60 ∧ ∀ H', Same H H' → Q (.int (wN one two t)) H'
theorem ok_many_ways (D : DefIn K mg "many_ways" "many_ways" sManyWays ["one", "other", "ticks"]) (C1 : Cal P w K mg base 1 "does_reach" ["one", "other", "ticks"] (spDoesReach K)) (C2 : Cal P w K mg base 1 "places_of" ["one", "other", "ticks"] (spPlacesOf K))
    (C3 : Cal P w K mg base 1 "many_of_ways" ["places", "thing"] (spManyOf K)) : Cal P w K mg base 2 "many_ways" ["one", "other", "ticks"] (spManyWays K) := by
  refine D.cal fun f fd F => F.ok scManyWays (fun vs H Q E h => ?_) (fun cdv A outer s H vs Q E hr h => ?_)
  · obtain ⟨a, b, one, two, t, rfl, _⟩ := h
    rfl
  · obtain ⟨a, b, one, two, t, rfl, tw, ht, q⟩ := h
    refine ⟨_, pss_one (ps_ret (pe_ifExp (pt_val (pe_cal C1 hr (pa_cons (pv 0) (pa_cons (pv 1) (pa_cons (pv 2) pa_nil))))) (pe_cal C3 hr (pa_cons (pe_cal C2 hr (pa_cons (pv 0) (pa_cons (pv 1) (pa_cons (pv 2) pa_nil)))) (pa_cons pe_int pa_nil))) pe_int)), ?_⟩
    refine ⟨.ref a, rfl, .ref b, rfl, .int t, rfl, a, b, one, two, t, rfl, tw.t1, tw.t2, tw.l1, fun H1 s1 => ?_⟩
    unfold wN at q
    have l1 := tw.l1
    have l2 := tw.l2
    by_cases hR : Rch one two t
    · rw [decide_eq_true hR]
      refine ⟨true, rfl, iteT ?_⟩
      refine ⟨.ref a, rfl, .ref b, rfl, .int t, rfl, a, b, one, two, t, rfl, (tw.mono s1).t1, (tw.mono s1).t2, by omega, by omega, fun H2 p s2 np hp => ?_⟩
      have hz : (pl one two t).length ≤ t + two.length := by
        rw [← uni_length]
        exact List.length_filter_le _ _
      rw [if_pos hR] at q
      exact ⟨p, pl one two t, 0, rfl, SqL.of hp, pl_asc tw.s2 t, by omega, q H2 (s1.trans s2)⟩
    · rw [decide_eq_false hR]
      rw [if_neg hR] at q
      exact ⟨false, rfl, iteF (q H1 s1)⟩

abbrev sWays : Stmt := top 43
theorem scWays : FnScope ["one", "other", "ticks"] ["one", "other", "ticks"] (defScope sWays) := ⟨rfl, rfl, rfl, by decide +kernel, rfl, by decide +kernel, by decide +kernel⟩
theorem ok_ways (D : DefIn K mg "ways" "ways" sWays ["one", "other", "ticks"]) (C1 : Cal P w K mg base 5 "need_both" ["one", "other"] (spNeedBoth K)) (C2 : Cal P w K mg base 3 "need_ticks" ["ticks"] spNeedTicks)
    (C3 : Cal P w K mg base 2 "many_ways" ["one", "other", "ticks"] (spManyWays K)) : Cal P w K mg base 6 "ways" ["one", "other", "ticks"] (spManyWays K) := by
  refine D.cal fun f fd F => F.ok scWays (fun vs H Q E h => ?_) (fun cdv A outer s H vs Q E hr h => ?_)
  · obtain ⟨a, b, one, two, t, rfl, _⟩ := h
    rfl
  · obtain ⟨a, b, one, two, t, rfl, tw, ht, q⟩ := h
    refine ⟨_, pss_cons (ps_expr (pe_cal C1 hr (pa_cons (pv 0) (pa_cons (pv 1) pa_nil)))) (pss_cons (ps_expr (pe_cal C2 (hr.mono (by decide)) (pa_cons (pv 2) pa_nil)))
      (pss_one (ps_ret (pe_cal C3 (hr.mono (by decide)) (pa_cons (pv 0) (pa_cons (pv 1) (pa_cons (pv 2) pa_nil))))))), ?_⟩
    refine ⟨.ref a, rfl, .ref b, rfl, a, b, one, two, rfl, tw, fun H1 s1 => ⟨.int t, rfl, t, rfl, ht, ?_⟩⟩
    exact ⟨.ref a, rfl, .ref b, rfl, .int t, rfl, a, b, one, two, t, rfl, tw.mono s1, ht, fun H2 s2 => q H2 (s1.trans s2)⟩

abbrev sShortestWay : Stmt := top 44
theorem scShortestWay : FnScope ["one", "other", "ticks"] ["one", "other"] (defScope sShortestWay) := ⟨rfl, rfl, rfl, by decide +kernel, rfl, by decide +kernel, by decide +kernel⟩
def spShortest (K : PySem.W.Frag) : Sp := fun vs H Q _ => ∃ a b one two, vs = [.ref a, .ref b] ∧ Two K H a b one two ∧ Rch one two 60 ∧ ∀ (t : Nat) H' p, Same H H' → Least one two t → H p = none → H' p = some (.tup (iv (firstRow (pl one two t) 0))) → Q (.ref p) H'
theorem ok_shortest_way (C : Cst mg) (D : DefIn K mg "shortest_way" "shortest_way" sShortestWay ["one", "other"]) (C1 : Cal P w K mg base 2 "least_of" ["one", "other"] (spLeastOf K)) (C2 : Cal P w K mg base 2 "first_of" ["one", "other", "ticks"] (spFirstOf K)) :
    Cal P w K mg base 3 "shortest_way" ["one", "other"] (spShortest K) := by
  refine D.cal fun f fd F => F.ok scShortestWay (fun vs H Q E h => ?_) (fun cdv A outer s H vs Q E hr h => ?_)
  · obtain ⟨a, b, one, two, rfl, _⟩ := h
    rfl
  · obtain ⟨a, b, one, two, rfl, tw, hR, q⟩ := h
    refine ⟨_, pss_cons (ps_set (i := 2) scShortestWay.nd rfl (.inl rfl) (pe_cal C1 hr (pa_cons (pv 0) (pa_cons (pv 1) pa_nil))))
      (pss_cons (ps_if (pt_cmpR op_isN (pv 2) pe_non (nomark _)) pss_never pss_nil)
      (pss_cons (ps_if (pt_cmpR op_gt (pv 2) (pe_kint C.MOST_TICKS) (nomark _)) pss_never pss_nil)
      (pss_one (ps_ret (pe_cal C2 hr (pa_cons (pv 0) (pa_cons (pv 1) (pa_cons (pv 2) pa_nil)))))))), ?_⟩
    have l2 := tw.l2
    refine ⟨.ref a, rfl, .ref b, rfl, a, b, one, two, 60, rfl, tw.t1, tw.t2, tw.l1, hR, Nat.le_refl _, fun t H1 s1 hL => ?_⟩
    have h60 := hL.2.1
    refine ⟨.int t, rfl, rfl, false, bl_f (by intro z; cases z), iteF ?_⟩
    refine ⟨.int t, rfl, _, _, rfl, rfl, false, bl_f (by omega), iteF ?_⟩
    exact ⟨.ref a, rfl, .ref b, rfl, .int t, rfl, a, b, one, two, t, rfl, (tw.mono s1).t1, (tw.mono s1).t2, by omega, by omega, fun H2 p s2 np hp => q t H2 p (s1.trans s2) hL (s1.free np) hp⟩

abbrev sFirstWay : Stmt := top 45
theorem scFirstWay : FnScope ["one", "other"] ["one", "other"] (defScope sFirstWay) := ⟨rfl, rfl, rfl, by decide +kernel, rfl, by decide +kernel, by decide +kernel⟩
theorem ok_first_way (D : DefIn K mg "first_way" "first_way" sFirstWay ["one", "other"]) (C1 : Cal P w K mg base 5 "need_both" ["one", "other"] (spNeedBoth K)) (C2 : Cal P w K mg base 3 "shortest_way" ["one", "other"] (spShortest K)) :
    Cal P w K mg base 6 "first_way" ["one", "other"] (spShortest K) := by
  refine D.cal fun f fd F => F.ok scFirstWay (fun vs H Q E h => ?_) (fun cdv A outer s H vs Q E hr h => ?_)
  · obtain ⟨a, b, one, two, rfl, _⟩ := h
    rfl
  · obtain ⟨a, b, one, two, rfl, tw, hR, q⟩ := h
    refine ⟨_, pss_cons (ps_expr (pe_cal C1 hr (pa_cons (pv 0) (pa_cons (pv 1) pa_nil)))) (pss_one (ps_ret (pe_cal C2 (hr.mono (by decide)) (pa_cons (pv 0) (pa_cons (pv 1) pa_nil))))), ?_⟩
    refine ⟨.ref a, rfl, .ref b, rfl, a, b, one, two, rfl, tw, fun H1 s1 => ?_⟩
    exact ⟨.ref a, rfl, .ref b, rfl, a, b, one, two, rfl, tw.mono s1, hR, fun t H2 p s2 hL np hp => q t H2 p (s1.trans s2) hL (s1.free np) hp⟩
end
end Bw

/-! way_at -/
namespace Bw
open PySem PySem.Spec PyProof.Rows L2
theorem cut_lo (L : List Int) (c : Nat) : cutV (iv L) none (some (c : Int)) = iv (L.take c) := by
  unfold cutV
  rw [HT.sIx_none, HT.sIx_nat, Nat.sub_zero, List.drop_zero, iv_len]
  show List.take (min c L.length) (List.map V.int L) = List.map V.int (L.take c)
  rw [List.map_take]
  rcases Nat.le_total c L.length with h | h
  · rw [Nat.min_eq_left h]
  · rw [Nat.min_eq_right h, List.take_of_length_le (by rw [List.length_map]; exact Nat.le_refl _), List.take_of_length_le (by rw [List.length_map]; exact h)]
theorem cut_hi (L : List Int) (c : Nat) : cutV (iv L) (some (c : Int)) none = iv (L.drop c) := by
  unfold cutV
  rw [HT.sIx_none, HT.sIx_nat, iv_len]
  show List.take (L.length - min c L.length) (List.drop (min c L.length) (List.map V.int L)) = List.map V.int (L.drop c)
  rw [List.map_drop]
  rcases Nat.le_total c L.length with h | h
  · rw [Nat.min_eq_left h, List.take_of_length_le (by rw [List.length_drop, List.length_map]; exact Nat.le_refl _)]
  · rw [Nat.min_eq_right h, Nat.sub_self, List.take_zero, List.drop_eq_nil_of_le (by rw [List.length_map]; exact h)]
section
variable {K : PySem.W.Frag}
/-- many_of_ways(left[:j] + left[j + 1:], thing + 1) -/
theorem rd_rest {σ : L2.St} {H : Hp} {Q : VK} {p : Addr} {L : List Int} {c i j k : Nat} {th : Int} (h1 : σ[i]? = some (some (.ref p))) (h2 : σ[j]? = some (some (.int (c : Int)))) (h3 : σ[k]? = some (some (.int th))) (hp : H p = some (.lst (iv L)))
    (hs : Asc L) (hl : L.length ≤ 1000) (q : ∀ H', Same H H' → Q (.int (mo (L.eraseIdx c) (th + 1))) H') :
    tCall (spManyOf K) [] E0 (tCons (tOp rCat (tSl (rSlL K) (tVar i) tNoPart (tPart (tVar j))) (tSl (rSlL K) (tVar i) (tPart (tOp (rI0 fun i j => V.int (i + j)) (tVar j) (tC (.int 1)))) tNoPart)) (tCons (tOp (rI0 fun i j => V.int (i + j)) (tVar k) (tC (.int 1))) tNil)) σ H Q := by
  refine ⟨.ref p, h1, .int c, h2, c, rfl, p, iv L, rfl, SqL.of hp, fun p1 n1 => ?_⟩
  have s1 : Same H (upd H p1 (.lst (cutV (iv L) none (some (c : Int))))) := same_new n1
  refine ⟨.ref p, h1, .int c, h2, _, _, rfl, rfl, (c : Int) + 1, rfl, p, iv L, rfl, SqL.of (s1 _ _ hp), fun p2 n2 => ?_⟩
  have e1 : (c : Int) + 1 = ((c + 1 : Nat) : Int) := by omega
  have g1 : (upd (upd H p1 (.lst (cutV (iv L) none (some (c : Int))))) p2 (.lst (cutV (iv L) (some ((c : Int) + 1)) none))) p1 = some (.lst (iv (L.take c))) := by
    rw [upd_ne (ne_of_none upd_same n2), upd_same, cut_lo]
  have g2 : (upd (upd H p1 (.lst (cutV (iv L) none (some (c : Int))))) p2 (.lst (cutV (iv L) (some ((c : Int) + 1)) none))) p2 = some (.lst (iv (L.drop (c + 1)))) := by
    rw [upd_same, e1, cut_hi]
  have s2 : Same H (upd (upd H p1 (.lst (cutV (iv L) none (some (c : Int))))) p2 (.lst (cutV (iv L) (some ((c : Int) + 1)) none))) := s1.trans (same_new n2)
  generalize upd (upd H p1 (.lst (cutV (iv L) none (some (c : Int))))) p2 (.lst (cutV (iv L) (some ((c : Int) + 1)) none)) = H2 at g1 g2 s2
  refine ⟨p1, p2, iv (L.take c), iv (L.drop (c + 1)), rfl, rfl, g1, g2, ?_, fun p3 n3 => ?_⟩
  · rw [iv_len, iv_len, List.length_take, List.length_drop]
    exact smallLe (by omega)
  · have e2 : iv (L.take c) ++ iv (L.drop (c + 1)) = iv (L.eraseIdx c) := by
      rw [List.eraseIdx_eq_take_drop_succ]
      simp
    rw [e2]
    refine ⟨.int th, h3, _, _, rfl, rfl, p3, L.eraseIdx c, th + 1, rfl, SqL.of upd_same, sorted_erase hs c, ?_, q _ (s2.trans (same_new n3))⟩
    exact Nat.le_trans (List.length_eraseIdx_le L c) hl
end
section
variable {P : Program} {w : World} {K : PySem.W.Frag} {mg : Str → Option Value} {base : Heap}
/-- the inner loop's state behind c looks: what was taken off, what was found last -/
def offC (L : List Int) (i : Int) : Nat → Int
  | 0 => 0
  | c + 1 => pre L i c
def lastC (L : List Int) (i : Int) : Nat → Int
  | 0 => 0
  | c + 1 => fAt L i c
theorem off_last (L : List Int) (i : Int) : ∀ c, offC L i c + lastC L i c = pre L i c
  | 0 => rfl
  | c + 1 => rfl
abbrev sWayAt : Stmt := top 46
theorem scWayAt : FnScope ["one", "other", "ticks", "place", "thing", "left", "row", "rest", "at", "found"] ["one", "other", "ticks", "place"] (defScope sWayAt) := ⟨rfl, rfl, rfl, by decide +kernel, rfl, by decide +kernel, by decide +kernel⟩
def spWayAt (K : PySem.W.Frag) : Sp := fun vs H Q _ => ∃ a b one two, ∃ t : Nat, ∃ pl0 : Int, vs = [.ref a, .ref b, .int t, .int pl0] ∧ Two K H a b one two ∧ t ≤ 60 ∧ Rch one two t ∧ 0 ≤ pl0 ∧ pl0 < mo (pl one two t) 0 ∧
  ∀ row H' p, Same H H' → Way (pl one two t) 0 pl0 row → H p = none → H' p = some (.tup (iv row)) → Q (.ref p) H'
theorem ok_way_at (B : Bi mg) (D : DefIn K mg "way_at" "way_at" sWayAt ["one", "other", "ticks", "place"]) (C1 : Cal P w K mg base 5 "need_both" ["one", "other"] (spNeedBoth K)) (C2 : Cal P w K mg base 3 "need_ticks" ["ticks"] spNeedTicks)
    (C3 : Cal P w K mg base 2 "is_between" ["thing", "low", "high"] spIsBetween) (C4 : Cal P w K mg base 2 "many_ways" ["one", "other", "ticks"] (spManyWays K)) (C5 : Cal P w K mg base 1 "places_of" ["one", "other", "ticks"] (spPlacesOf K))
    (C6 : Cal P w K mg base 1 "many_of_ways" ["places", "thing"] (spManyOf K)) : Cal P w K mg base 6 "way_at" ["one", "other", "ticks", "place"] (spWayAt K) := by
  refine D.cal fun f fd F => F.ok scWayAt (fun vs H Q E h => ?_) (fun cdv A outer s H vs Q E hr h => ?_)
  · obtain ⟨a, b, one, two, t, r, rfl, _⟩ := h
    rfl
  · obtain ⟨a, b, one, two, t, pl0, rfl, tw, ht, hR, hp0, hp1, q⟩ := h
    have hr1 := hr.mono (show 1 ≤ 5 by decide)
    refine ⟨_, pss_cons (ps_expr (pe_cal C1 hr (pa_cons (pv 0) (pa_cons (pv 1) pa_nil))))
      (pss_cons (ps_expr (pe_cal C2 (hr.mono (by decide)) (pa_cons (pv 2) pa_nil)))
      (pss_cons (ps_if (pt_not (pt_val (pe_cal C3 (hr.mono (by decide)) (pa_cons (pv 3) (pa_cons pe_int (pa_cons (pe_op op_sub (pe_cal C4 (hr.mono (by decide)) (pa_cons (pv 0) (pa_cons (pv 1) (pa_cons (pv 2) pa_nil)))) pe_int) pa_nil)))))) pss_never pss_nil)
      (pss_cons (ps_par3 (i := 5) (j := 6) (l := 7) (by rfl) scWayAt.nd rfl rfl rfl (by decide) (by decide) (by decide) rfl rfl rfl (pa_cons (pe_cal C5 hr1 (pa_cons (pv 0) (pa_cons (pv 1) (pa_cons (pv 2) pa_nil)))) (pa_cons (pe_lst pa_nil) (pa_cons (pv 3) pa_nil))) (by rfl))
      (pss_cons (ps_for PassesOwn.never rfl (pi_range1 (by rfl) B.range (pa_cons (pv 2) pa_nil)) (pg_name (i := 4) scWayAt.nd rfl (.inl rfl))
        (pss_cons (ps_asg (pe_tup (pa_cons (pe_un un_neg pe_int) (pa_cons pe_int pa_nil))) (pg_tup rfl (pgs_cons (pg_name (i := 8) scWayAt.nd rfl (.inl rfl)) (pgs_cons (pg_name (i := 9) scWayAt.nd rfl (.inl rfl)) pgs_nil))))
        (pss_cons (ps_while PassesOwn.never (pt_cmpR op_le (pv 9) (pv 7) (nomark _))
          (pss_cons (ps_par (i := 7) (j := 8) (by rfl) scWayAt.nd rfl rfl (by decide) rfl rfl (pa_cons (pe_op op_sub (pv 7) (pv 9)) (pa_cons (pe_op op_add (pv 8) pe_int) pa_nil)) (by rfl))
          (pss_one (ps_set (i := 9) scWayAt.nd rfl (.inl rfl) (pe_ifExp (pt_cmpR op_ge (pe_ix ix_list (pv 5) (pv 8) (fun _ _ => rfl)) (pv 4) (nomark _))
            (pe_cal C6 hr1 (pa_cons (pe_op op_cat (pe_slice sl_list (pv 5) po_none (po_some (pv 8))) (pe_slice sl_list (pv 5) (po_some (pe_op op_add (pv 8) pe_int)) po_none)) (pa_cons (pe_op op_add (pv 4) pe_int) pa_nil))) pe_int)))))
        (pss_one (ps_expr (pe_bm PySem.F.plainAttrs_list PySem.F.slot_list_append PySem.F.type_list_append mt_append (pv 6) (pa_cons (pe_op op_sub (pe_bm PySem.F.plainAttrs_list PySem.F.slot_list_pop PySem.F.type_list_pop mt_popAt (pv 5) (pa_cons (pv 8) pa_nil)) (pv 4)) pa_nil)))))))
      (pss_one (ps_ret (pe_tupleOf (by rfl) B.tuple (pv 6)))))))), ?_⟩
    have l2 := tw.l2
    -- the guards
    refine ⟨.ref a, rfl, .ref b, rfl, a, b, one, two, rfl, tw, fun H1 s1 => ⟨.int t, rfl, t, rfl, ht, ?_⟩⟩
    refine ⟨.int pl0, rfl, .ref a, rfl, .ref b, rfl, .int t, rfl, a, b, one, two, t, rfl, tw.mono s1, ht, fun H2 s2 => ?_⟩
    have eW : wN one two t = mo (pl one two t) 0 := if_pos hR
    refine ⟨_, _, rfl, rfl, pl0, 0, wN one two t - 1, rfl, true, bl_t (by rw [eW]; omega), iteF ?_⟩
    -- left, row, rest
    refine ⟨.ref a, rfl, .ref b, rfl, .int t, rfl, a, b, one, two, t, rfl, (tw.mono (s1.trans s2)).t1, (tw.mono (s1.trans s2)).t2, by omega, by omega, fun H3 pL s3 nL hL => ?_⟩
    refine ⟨Nat.zero_le _, fun pR nR => ?_⟩
    have s03 : Same H H3 := (s1.trans s2).trans s3
    have nLR : pL ≠ pR := ne_of_none hL nR
    have nL0 : H pL = none := (s1.trans s2).free nL
    have nR0 : H pR = none := s03.free nR
    have hL4 : (upd H3 pR (.lst [])) pL = some (.lst (iv (pl one two t))) := by rw [upd_ne nLR]; exact hL
    have hR4 : (upd H3 pR (.lst [])) pR = some (.lst []) := upd_same
    have s04 : Same H (upd H3 pR (.lst [])) := s03.trans (same_new nR)
    generalize upd H3 pR (.lst []) = H4 at hL4 hR4 s04
    refine ⟨.int pl0, rfl, .ref pL, .ref pR, .int pl0, rfl, ?_⟩
    -- the things
    have hlen := pl_length tw.s1 tw.s2 hR
    refine ⟨.int t, rfl, (t : Int), rfl, by omega, by omega, ?_⟩
    refine for_range (lo := 0) (n := (t : Int).toNat) (fun k σ H' => ∃ (L done : List Int) (rest : Int) (v4 v8 v9 : Option V), σ = [some (.ref a), some (.ref b), some (.int t), some (.int pl0), v4, some (.ref pL), some (.ref pR), some (.int rest), v8, v9] ∧
        H' pL = some (.lst (iv L)) ∧ H' pR = some (.lst (iv done)) ∧ Same H H' ∧ Asc L ∧ L.length + k = t ∧ done.length = k ∧ 0 ≤ rest ∧ rest < mo L k ∧ ∀ row, Way L k rest row → Way (pl one two t) 0 pl0 (done ++ row))
      ⟨pl one two t, [], pl0, none, none, none, rfl, hL4, hR4, s04, pl_asc tw.s2 t, by omega, rfl, hp0, hp1, fun row w => w⟩ (fun k σ H' hk h => ?_) (fun σ H' h => ?_)
    · obtain ⟨L, done, r, v4, v8, v9, rfl, gL, gR, s5, hs, hlk, hdk, hr0, hr2, hw⟩ := h
      rw [Int.zero_add]
      have hne : L ≠ [] := by
        intro z
        subst z
        simp at hlk
        omega
      have hall := pre_all (k : Int) hne
      refine ⟨1, rfl, (by show 2 ≤ sizeLine; decide), fun pT nT => ⟨pT, [.int (-1), .int 0], rfl, SqT.of upd_same, rfl, .int (-1), [.int 0], rfl, .int 0, [], rfl, rfl, ?_⟩⟩
      have gL := same_new (o := .tup [.int (-1), .int 0]) nT _ _ gL
      have gR := same_new (o := .tup [.int (-1), .int 0]) nT _ _ gR
      have s5 := s5.trans (same_new (o := .tup [.int (-1), .int 0]) nT)
      generalize upd H' pT (.tup [.int (-1), .int 0]) = H5 at gL gR s5
      -- while found <= rest
      refine ⟨fun m σ H'' => ∃ c : Nat, m + c = L.length ∧ σ = [some (.ref a), some (.ref b), some (.int t), some (.int pl0), some (.int (k : Int)), some (.ref pL), some (.ref pR), some (.int (r - offC L k c)), some (.int ((c : Int) - 1)), some (.int (lastC L k c))] ∧
          H'' pL = some (.lst (iv L)) ∧ H'' pR = some (.lst (iv done)) ∧ Same H H'' ∧ offC L k c ≤ r, ⟨L.length, 0, rfl, ?_, gL, gR, s5, hr0⟩, fun m σ H'' hW => ?_⟩
      · show [_, _, _, _, some (V.int (k : Int)), _, _, some (V.int r), some (V.int (-1)), some (V.int 0)] = [_, _, _, _, _, _, _, some (V.int (r - 0)), some (V.int (((0 : Nat) : Int) - 1)), some (V.int 0)]
        rw [Int.sub_zero]
        rfl
      · obtain ⟨c, hmc, rfl, gL2, gR2, s6, hoff⟩ := hW
        have hol := off_last L k c
        refine ⟨_, rfl, _, rfl, _, _, rfl, rfl, _, rfl, ite2 (fun e => ?_) (fun e => ?_)⟩
        · -- one more look
          have e : lastC L k c ≤ r - offC L k c := of_decide_eq_true e
          have hpc : pre L k c ≤ r := by omega
          have hcl : c < L.length := by
            rcases Nat.lt_or_ge c L.length with z | z
            · exact z
            · have z2 : c = L.length := by omega
              rw [z2, hall] at hpc
              omega
          have hg : L[c]? = some L[c] := List.getElem?_eq_getElem hcl
          refine ⟨fun σ' H' => σ' = [some (.ref a), some (.ref b), some (.int t), some (.int pl0), some (.int (k : Int)), some (.ref pL), some (.ref pR), some (.int (r - offC L k (c + 1))), some (.int (((c + 1 : Nat) : Int) - 1)), some (.int (lastC L k (c + 1)))] ∧
              H' pL = some (.lst (iv L)) ∧ H' pR = some (.lst (iv done)) ∧ Same H H', fun σ' H' hN => ?_, ?_⟩
          · obtain ⟨rfl, h1, h2, h3⟩ := hN
            exact ⟨m - 1, by omega, c + 1, by omega, rfl, h1, h2, h3, hpc⟩
          · have e5 : (c : Int) - 1 + 1 = (c : Int) := by omega
            have e6 : r - offC L k c - lastC L k c = r - offC L k (c + 1) := by
              show _ = r - pre L k c
              omega
            refine ⟨_, rfl, _, rfl, _, _, rfl, rfl, _, rfl, _, _, rfl, rfl, .int (r - offC L k c - lastC L k c), .int ((c : Int) - 1 + 1), rfl, ?_⟩
            rw [e5, e6]
            have e7 : ((c + 1 : Nat) : Int) - 1 = (c : Int) := by omega
            rw [e7]
            refine ⟨.ref pL, rfl, .int (c : Int), rfl, pL, iv L, (c : Int), .int L[c], rfl, rfl, SqL.of gL2, at_of rfl (iv_at hg), .int (k : Int), rfl, _, _, rfl, rfl, _, rfl, ite2 (fun e8 => ?_) (fun e8 => ?_)⟩
            · have e8 := of_decide_eq_true e8
              refine rd_rest (p := pL) (L := L) (c := c) (th := (k : Int)) rfl rfl rfl gL2 hs (by omega) fun H7 s7 => ?_
              refine ⟨?_, s7 _ _ gL2, s7 _ _ gR2, s6.trans s7⟩
              have e9 : lastC L k (c + 1) = mo (L.eraseIdx c) ((k : Int) + 1) := by
                show fAt L k c = _
                rw [fAt_some hg, if_pos e8]
              rw [e9]
              rfl
            · have e8 : ¬ (k : Int) ≤ L[c] := fun z => e8 (decide_eq_true z)
              refine ⟨?_, gL2, gR2, s6⟩
              have e9 : lastC L k (c + 1) = 0 := by
                show fAt L k c = _
                rw [fAt_some hg, if_neg e8]
              rw [e9]
              rfl
        · -- found
          have e : ¬ lastC L k c ≤ r - offC L k c := fun z => e (decide_eq_true z)
          obtain ⟨o, rfl⟩ : ∃ o, c = o + 1 := by
            cases c with
            | zero =>
              exfalso
              have z1 : offC L k 0 = 0 := rfl
              have z2 : lastC L k 0 = 0 := rfl
              rw [z1, z2] at e
              omega
            | succ o => exact ⟨o, rfl⟩
          have ho : o < L.length := by omega
          have hg : L[o]? = some L[o] := List.getElem?_eq_getElem ho
          have z1 : offC L k (o + 1) = pre L k o := rfl
          have z2 : lastC L k (o + 1) = fAt L k o := rfl
          rw [z1, z2] at e
          rw [z1] at hoff
          have hi : (k : Int) ≤ L[o] := by
            rcases Int.lt_or_le L[o] (k : Int) with z | z
            · have z3 : fAt L k o = 0 := by rw [fAt_some hg, if_neg (by omega)]
              omega
            · exact z
          have hf : fAt L k o = mo (L.eraseIdx o) ((k : Int) + 1) := by rw [fAt_some hg, if_pos hi]
          rw [z1, z2]
          have e7 : ((o + 1 : Nat) : Int) - 1 = (o : Int) := by omega
          rw [e7]
          refine ⟨.ref pR, rfl, .inl ⟨rfl, _, SqL.of gR2⟩, .ref pL, rfl, .inl ⟨rfl, _, SqL.of gL2⟩, .int (o : Int), rfl, pL, iv L, (o : Int), o, .int L[o], rfl, rfl, gL2, by omega, by omega, seqIx (by rw [iv_len]; exact ho), iv_at hg, ?_⟩
          refine ⟨.int (k : Int), rfl, _, _, rfl, rfl, pR, iv done, .int (L[o] - (k : Int)), rfl, rfl, ?_, small (by rw [iv_len]; omega), ?_⟩
          · rw [upd_ne nLR.symm]
            exact gR2
          · have eL : (iv L).eraseIdx o = iv (L.eraseIdx o) := by
              show (List.map V.int L).eraseIdx o = List.map V.int (L.eraseIdx o)
              rw [List.eraseIdx_eq_take_drop_succ, List.eraseIdx_eq_take_drop_succ]
              simp
            have eD : iv done ++ [V.int (L[o] - (k : Int))] = iv (done ++ [L[o] - (k : Int)]) := by simp
            refine ⟨L.eraseIdx o, done ++ [L[o] - (k : Int)], r - pre L k o, _, _, _, rfl, ?_, ?_, fun c2 o2 e2 => ?_, sorted_erase hs o, ?_, ?_, by omega, ?_, fun row w => ?_⟩
            · rw [upd_ne nLR, upd_same, eL]
            · rw [upd_same, eD]
            · rw [upd_ne (ne_of_none e2 nR0), upd_ne (ne_of_none e2 nL0)]
              exact s6 _ _ e2
            · rw [List.length_eraseIdx_of_lt ho]
              omega
            · rw [List.length_append, hdk]
              rfl
            · have e3 : ((k + 1 : Nat) : Int) = (k : Int) + 1 := by omega
              rw [e3]
              omega
            · have e3 : ((k + 1 : Nat) : Int) = (k : Int) + 1 := by omega
              rw [e3] at w
              have w2 := Way.cons hg hi (by omega) (by omega) w
              rw [show pre L k o + (r - pre L k o) = r by omega] at w2
              have := hw _ w2
              rw [List.append_assoc]
              exact this
    · obtain ⟨L, done, r, v4, v8, v9, rfl, gL, gR, s5, hs, hlk, hdk, hr0, hr2, hw⟩ := h
      have eL : L = [] := List.length_eq_zero_iff.mp (by omega)
      subst eL
      rw [mo_nil] at hr2
      have er : r = 0 := by omega
      subst er
      have hW := hw [] (.nil _)
      rw [List.append_nil] at hW
      exact ⟨.ref pR, rfl, .inl ⟨pR, _, rfl, SqL.of gR, fun p np => q done _ p (s5.trans (same_new np)) hW (s5.free np) upd_same⟩⟩
end
end Bw

/-! place_of_way -/
namespace Bw
open PySem PySem.Spec PyProof.Rows L2
/-- the turns of a way: what the next hold tells -/
theorem Way.split {L : List Int} {i r h : Int} {row : List Int} (w : Way L i r (h :: row)) : ∃ (o : Nat) (a rest : Int), L[o]? = some a ∧ i ≤ a ∧ h = a - i ∧ r = pre L i o + rest ∧ Way (L.eraseIdx o) (i + 1) rest row := by
  cases w with
  | cons h1 h2 h3 h4 w => exact ⟨_, _, _, h1, h2, rfl, rfl, w⟩
theorem last_le {L : List Int} {top : Int} (h : IsSt top L) (hL : L ≠ []) : L.getLast hL ≤ top := h.hi _ (List.getLast_mem hL)
section
variable {P : Program} {w : World} {K : PySem.W.Frag} {mg : Str → Option Value} {base : Heap}
abbrev sPlaceOf : Stmt := top 47
theorem scPlaceOf : FnScope ["state", "row", "goal", "left", "found", "thing", "hold", "at", "other"] ["state", "row"] (defScope sPlaceOf) := ⟨rfl, rfl, rfl, by decide +kernel, rfl, by decide +kernel, by decide +kernel⟩
def spPlaceOf (K : PySem.W.Frag) : Sp := fun vs H Q _ => ∃ a b one two row, ∃ t : Nat, ∃ r : Int, vs = [.ref a, .ref b] ∧ SqT K H a (iv one) ∧ SqT K H b (iv row) ∧ IsSt 99 one ∧ IsSt 99 two ∧ one.length ≤ 60 ∧ two.length ≤ 60 ∧ t ≤ 60 ∧ Rch one two t ∧ Way (pl one two t) 0 r row ∧
  ∀ H', Same H H' → Q (.int r) H'
theorem ok_place_of (B : Bi mg) (C : Cst mg) (D : DefIn K mg "place_of_way" "place_of_way" sPlaceOf ["state", "row"]) (C1 : Cal P w K mg base 4 "need_short" ["state"] (spNeedShort K)) (C2 : Cal P w K mg base 2 "is_row" ["thing", "most"] (spIsRow K))
    (C3 : Cal P w K mg base 4 "led" ["state", "row"] (spLed K)) (C5 : Cal P w K mg base 1 "places_of" ["one", "other", "ticks"] (spPlacesOf K))
    (C6 : Cal P w K mg base 1 "many_of_ways" ["places", "thing"] (spManyOf K)) : Cal P w K mg base 5 "place_of_way" ["state", "row"] (spPlaceOf K) := by
  refine D.cal fun f fd F => F.ok scPlaceOf (fun vs H Q E h => ?_) (fun cdv A outer s H vs Q E hr h => ?_)
  · obtain ⟨a, b, one, two, row, t, r, rfl, _⟩ := h
    rfl
  · obtain ⟨a, b, one, two, row, t, r, rfl, hT, hB, h1, h2, l1, l2, ht, hR, hW, q⟩ := h
    have hr1 := hr.mono (show 1 ≤ 4 by decide)
    refine ⟨_, pss_cons (ps_expr (pe_cal C1 hr (pa_cons (pv 0) pa_nil)))
      (pss_cons (ps_if (pt_not (pt_val (pe_cal C2 (hr.mono (by decide)) (pa_cons (pv 1) (pa_cons (pe_kint C.MOST_TICKS) pa_nil))))) pss_never pss_nil)
      (pss_cons (ps_set (i := 2) scPlaceOf.nd rfl (.inl rfl) (pe_cal C3 hr (pa_cons (pv 0) (pa_cons (pv 1) pa_nil))))
      (pss_cons (ps_if (PW.pt (pw_and (pt_cmpR (op_neD hr.units) (pv 2) (pe_tup pa_nil) (nomark _)) (pw_and1 (pt_cmpR op_gt (pe_ix ix_tup (pv 2) (pe_un un_neg pe_int) (fun _ _ => rfl)) (pe_kint C.GREATEST_SHORT) (nomark _))))) pss_never pss_nil)
      (pss_cons (ps_par (i := 3) (j := 4) (by rfl) scPlaceOf.nd rfl rfl (by decide) rfl rfl (pa_cons (pe_cal C5 hr1 (pa_cons (pv 0) (pa_cons (pv 2) (pa_cons (pe_callB call_len_seq (by rfl) B.len PySem.boot_len (pa_cons (pv 1) pa_nil)) pa_nil)))) (pa_cons pe_int pa_nil)) (by rfl))
      (pss_cons (ps_for PassesOwn.never rfl (pi_enumT (by rfl) B.enumerate (pa_cons (pv 1) pa_nil)) (pg_tup rfl (pgs_cons (pg_name (i := 5) scPlaceOf.nd rfl (.inl rfl)) (pgs_cons (pg_name (i := 6) scPlaceOf.nd rfl (.inl rfl)) pgs_nil)))
        (pss_cons (ps_set (i := 7) scPlaceOf.nd rfl (.inl rfl) (pe_bm PySem.F.plainAttrs_list PySem.F.slot_list_index PySem.F.type_list_index mt_index (pv 3) (pa_cons (pe_op op_add (pv 5) (pv 6)) pa_nil)))
        (pss_cons (ps_for PassesOwn.never rfl (pi_range1 (by rfl) B.range (pa_cons (pv 7) pa_nil)) (pg_name (i := 8) scPlaceOf.nd rfl (.inl rfl))
          (pss_one (ps_if (pt_cmpR op_ge (pe_ix ix_list (pv 3) (pv 8) (fun _ _ => rfl)) (pv 5) (nomark _))
            (pss_one (ps_set (i := 4) scPlaceOf.nd rfl (.inl rfl) (pe_op op_add (pv 4) (pe_cal C6 hr1 (pa_cons (pe_op op_cat (pe_slice sl_list (pv 3) po_none (po_some (pv 8))) (pe_slice sl_list (pv 3) (po_some (pe_op op_add (pv 8) pe_int)) po_none)) (pa_cons (pe_op op_add (pv 5) pe_int) pa_nil)))))) pss_nil)))
        (pss_one (ps_expr (pe_bm PySem.F.plainAttrs_list PySem.F.slot_list_pop PySem.F.type_list_pop mt_popAt (pv 3) (pa_cons (pv 7) pa_nil)))))))
      (pss_one (ps_ret (pv 4)))))))), ?_⟩
    obtain ⟨hled, hrl⟩ := way_follow h1 h2 hR (by omega) (by omega) hW
    refine ⟨.ref a, rfl, a, one, rfl, hT, h1, l1, fun H1 s1 => ?_⟩
    refine ⟨.ref b, rfl, b, row, 60, rfl, Same.tup s1 hB, by omega, by omega, fun H2 s2 => ⟨true, rfl, iteF ?_⟩⟩
    have s12 := s1.trans s2
    refine ⟨.ref a, rfl, .ref b, rfl, a, b, one, row, two, rfl, Same.tup s12 hT, Same.tup s12 hB, hled, by omega, by omega, fun H3 g s3 hG => ?_⟩
    have s13 := s12.trans s3
    refine ⟨.ref g, rfl, smallLe (by decide), fun pE nE => ?_⟩
    have sE := same_new (o := .tup []) nE
    have hE : (upd H3 pE (.tup [])) pE = some (.tup []) := upd_same
    generalize upd H3 pE (.tup []) = H4 at sE hE
    have s14 := s13.trans sE
    have hG4 := Same.tup sE hG
    refine ne_tup (M := []) hG4 (SqT.of hE) ⟨_, rfl, ?_⟩
    -- behind the guards
    have key : tSeq (tPar 3 4 (tCons (tCall (spPlacesOf K) [] E0 (tCons (tVar 0) (tCons (tVar 2) (tCons (tCB (fun xs H Q => ∃ p ys, xs = [V.ref p] ∧ (SqL K H p ys ∨ SqT K H p ys) ∧ Q (V.int ys.length) H) (tCons (tVar 1) tNil)) tNil)))) (tCons (tC (.int 0)) tNil)))
        (tSeq (tFor (iEnumT K (tCons (tVar 1) tNil)) (gTup K 2 (gCons (gName 5) (gCons (gName 6) gNil)))
          (tSeq (tAsg (tBM K "list" (rIndex K) (tVar 3) (tCons (tOp (rI0 fun i j => V.int (i + j)) (tVar 5) (tVar 6)) tNil)) (gName 7))
          (tSeq (tFor (iRng1 (tCons (tVar 7) tNil)) (gName 8)
            (tIfS (tTest (tOp (rI0 fun i j => V.bl (decide (j ≤ i))) (tOp (rIxL K) (tVar 3) (tVar 8)) (tVar 5)))
              (tAsg (tOp (rI0 fun i j => V.int (i + j)) (tVar 4) (tCall (spManyOf K) [] E0 (tCons (tOp rCat (tSl (rSlL K) (tVar 3) tNoPart (tPart (tVar 8))) (tSl (rSlL K) (tVar 3) (tPart (tOp (rI0 fun i j => V.int (i + j)) (tVar 8) (tC (.int 1)))) tNoPart)) (tCons (tOp (rI0 fun i j => V.int (i + j)) (tVar 5) (tC (.int 1))) tNil)))) (gName 4)) tNext))
          (tDrop (tBM K "list" rPopAt (tVar 3) (tCons (tVar 7) tNil)))))) (tRet (tVar 4)))
        { nx := fun _ H' => Q .non H', rt := Q } [some (.ref a), some (.ref b), some (.ref g), none, none, none, none, none, none] H4 := by
      refine ⟨.ref a, rfl, .ref g, rfl, .ref b, rfl, b, iv row, rfl, .inr (Same.tup s14 hB), a, g, one, two, t, by rw [iv_len, hrl]; rfl, Same.tup s14 hT, hG4, by omega, by omega, fun H5 pL s5 nL hL => ?_⟩
      have s15 := s14.trans s5
      have nL0 := s14.free nL
      refine ⟨.ref pL, .int 0, rfl, ?_⟩
      have hlen := pl_length h1 h2 hR
      refine ⟨.ref b, rfl, b, iv row, rfl, Same.tup s15 hB, ?_⟩
      refine for_it (walk_enumT (xs := iv row)) (fun k σ H' => ∃ (L : List Int) (rk fd : Int) (v5 v6 v7 v8 : Option V), σ = [some (.ref a), some (.ref b), some (.ref g), some (.ref pL), some (.int fd), v5, v6, v7, v8] ∧ H' pL = some (.lst (iv L)) ∧ Same H H' ∧ Asc L ∧ L.length + k = t ∧
          Way L k rk (row.drop k) ∧ fd + rk = r)
        ⟨pl one two t, r, 0, none, none, none, none, rfl, hL, s15, pl_asc h2 t, by omega, by rw [List.drop_zero]; exact hW, by omega⟩ (fun k σ H' _ h => ?_) (fun k x σ H' H'' hk h y => ?_) (fun σ H' h => ?_)
      · obtain ⟨_, _, _, _, _, _, _, _, _, s, _⟩ := h
        exact Same.tup s hB
      · obtain ⟨L, rk, fd, v5, v6, v7, v8, rfl, gL, s6, hs, hlk, hw, hfd⟩ := h
        obtain ⟨T, x1, x2, rfl, nT, rfl, g1, g2⟩ := y
        rw [iv_len] at hk
        have e1 : x1 = .int (k : Int) := (Option.some.inj g1).symm
        have e2 : x2 = .int row[k] := iv_val g2 (List.getElem?_eq_getElem hk)
        subst e1 e2
        rw [drop_at (List.getElem?_eq_getElem hk)] at hw
        obtain ⟨o, v, rest, hg, hi, ev, erk, hw2⟩ := hw.split
        have ho : o < L.length := (List.getElem?_eq_some_iff.mp hg).1
        refine ⟨T, [.int (k : Int), .int row[k]], rfl, SqT.of upd_same, rfl, _, [.int row[k]], rfl, _, [], rfl, rfl, ?_⟩
        have gT : (upd H' T (.tup [.int (k : Int), .int row[k]])) pL = some (.lst (iv L)) := same_new nT _ _ gL
        have sT : Same H (upd H' T (.tup [.int (k : Int), .int row[k]])) := s6.trans (same_new nT)
        generalize upd H' T (.tup [.int (k : Int), .int row[k]]) = H7 at gT sT
        -- at = left.index(thing + hold)
        have eix : (k : Int) + row[k] = v := by omega
        refine ⟨.ref pL, rfl, .inl ⟨rfl, _, SqL.of gT⟩, .int (k : Int), rfl, .int row[k], rfl, _, _, rfl, rfl, ?_⟩
        refine ⟨pL, iv L, .int v, o, .int v, rfl, (by show [V.int ((k : Int) + row[k])] = [V.int v]; rw [eix]), SqL.of gT, rfl, flat_iv L, iv_at hg, by show decide (v = v) = true; exact decide_eq_true rfl, fun m z' hm hz => ?_, ?_⟩
        · obtain ⟨n, hn, rfl⟩ := iv_get hz
          have := sorted_get hs hn hg hm
          show decide (n = v) = false
          exact decide_eq_false (by omega)
        · -- the smaller places
          refine ⟨.int (o : Int), rfl, (o : Int), rfl, by omega, by omega, ?_⟩
          refine for_range (lo := 0) (n := (o : Int).toNat) (fun j σ H8 => ∃ v8 : Option V, σ = [some (.ref a), some (.ref b), some (.ref g), some (.ref pL), some (.int (fd + pre L k j)), some (.int (k : Int)), some (.int row[k]), some (.int (o : Int)), v8] ∧ H8 pL = some (.lst (iv L)) ∧ Same H H8)
            ⟨v8, by show _ = [_, _, _, _, some (V.int (fd + 0)), _, _, _, _]; rw [Int.add_zero]; rfl, gT, sT⟩ (fun j σ H8 hj h8 => ?_) (fun σ H8 h8 => ?_)
          · obtain ⟨v8', rfl, g8, s8⟩ := h8
            rw [Int.zero_add]
            have hjo : j < o := by omega
            have hjl : j < L.length := by omega
            have hgj : L[j]? = some L[j] := List.getElem?_eq_getElem hjl
            refine ⟨.ref pL, rfl, .int (j : Int), rfl, pL, iv L, (j : Int), .int L[j], rfl, rfl, SqL.of g8, at_of rfl (iv_at hgj), .int (k : Int), rfl, _, _, rfl, rfl, _, rfl, ite2 (fun e8 => ?_) (fun e8 => ?_)⟩
            · have e8 := of_decide_eq_true e8
              refine ⟨.int (fd + pre L k j), rfl, rd_rest (p := pL) (L := L) (c := j) (th := (k : Int)) rfl rfl rfl g8 hs (by omega) fun H9 s9 => ⟨_, _, rfl, rfl, some (.int (j : Int)), ?_, s9 _ _ g8, s8.trans s9⟩⟩
              have e9 : fd + pre L k (j + 1) = fd + pre L k j + mo (L.eraseIdx j) ((k : Int) + 1) := by
                show fd + (pre L k j + fAt L k j) = _
                rw [fAt_some hgj, if_pos e8]
                omega
              rw [e9]
              rfl
            · have e8 : ¬ (k : Int) ≤ L[j] := fun z => e8 (decide_eq_true z)
              refine ⟨some (.int (j : Int)), ?_, g8, s8⟩
              have e9 : fd + pre L k (j + 1) = fd + pre L k j := by
                show fd + (pre L k j + fAt L k j) = _
                rw [fAt_some hgj, if_neg e8]
                omega
              rw [e9]
              rfl
          · obtain ⟨v8', rfl, g8, s8⟩ := h8
            have eo : (o : Int).toNat = o := by omega
            rw [eo]
            refine ⟨.ref pL, rfl, .inl ⟨rfl, _, SqL.of g8⟩, .int (o : Int), rfl, pL, iv L, (o : Int), o, .int v, rfl, rfl, g8, by omega, by omega, seqIx (by rw [iv_len]; exact ho), iv_at hg, ?_⟩
            have eL : (iv L).eraseIdx o = iv (L.eraseIdx o) := by
              show (List.map V.int L).eraseIdx o = List.map V.int (L.eraseIdx o)
              rw [List.eraseIdx_eq_take_drop_succ, List.eraseIdx_eq_take_drop_succ]
              simp
            refine ⟨L.eraseIdx o, rest, fd + pre L k o, _, _, _, _, rfl, by rw [upd_same, eL], fun c2 o2 e2 => ?_, sorted_erase hs o, ?_, ?_, by omega⟩
            · rw [upd_ne (ne_of_none e2 nL0)]
              exact s8 _ _ e2
            · rw [List.length_eraseIdx_of_lt ho]
              omega
            · have e3 : ((k + 1 : Nat) : Int) = (k : Int) + 1 := by omega
              rw [e3]
              exact hw2
      · obtain ⟨L, rk, fd, v5, v6, v7, v8, rfl, gL, s6, hs, hlk, hw, hfd⟩ := h
        rw [iv_len, List.drop_length] at hw
        have er : rk = 0 := by
          generalize hrow : ([] : List Int) = row' at hw
          cases hw with
          | nil => rfl
          | cons => cases hrow
        subst er
        have e : fd = r := by omega
        subst e
        exact ⟨.int fd, rfl, q _ s6⟩
    by_cases hL : two = []
    · rw [decide_eq_true hL]
      exact iteF (iteF key)
    · rw [decide_eq_false hL]
      refine iteT ?_
      have e : iv two = (iv two.dropLast) ++ [.int (two.getLast hL)] := by
        rw [← List.map_singleton, ← List.map_append, List.dropLast_concat_getLast]
      refine ⟨.ref g, rfl, 1, rfl, g, iv two, -1, .int (two.getLast hL), rfl, rfl, hG4, by rw [e]; exact atI_last _ _, _, _, rfl, rfl, false, bl_f ?_, iteF key⟩
      have := last_le h2 hL
      omega
end
end Bw

/-! power, need_length, need_held, many; the law's cell, pen, draw, pick, same, product -/
namespace Bw
open PySem PySem.Spec PyProof.Rows L2
section
variable {P : Program} {w : World} {K : PySem.W.Frag} {mg : Str → Option Value} {base : Heap}
abbrev sPower : Stmt := top 49
theorem scPower : FnScope ["number", "many", "found", "turn"] ["number", "many"] (defScope sPower) := ⟨rfl, rfl, rfl, by decide +kernel, rfl, by decide +kernel, by decide +kernel⟩
def spPower : Sp := fun vs H Q _ => ∃ n : Int, ∃ m : Nat, vs = [.int n, .int m] ∧ 0 ≤ n ∧ n ≤ 100 ∧ m ≤ 100 ∧ Q (.int (n ^ m)) H
theorem ok_power (B : Bi mg) (D : DefIn K mg "power" "power" sPower ["number", "many"]) : Cal P w K mg base 1 "power" ["number", "many"] spPower := by
  refine D.cal fun f fd F => F.ok scPower (fun vs H Q E h => ?_) (fun cdv A outer s H vs Q E hr h => ?_)
  · obtain ⟨n, m, rfl, _⟩ := h
    rfl
  · obtain ⟨n, m, rfl, h0, h1, h2, q⟩ := h
    refine ⟨_, pss_cons (ps_set (i := 2) scPower.nd rfl (.inl rfl) pe_int)
      (pss_cons (ps_for PassesOwn.never rfl (pi_range1 (by rfl) B.range (pa_cons (pv 1) pa_nil)) (pg_name (i := 3) scPower.nd rfl (.inl rfl)) (pss_one (ps_set (i := 2) scPower.nd rfl (.inl rfl) (pe_op op_mul (pv 2) (pv 0)))))
      (pss_one (ps_ret (pv 2)))), ?_⟩
    refine ⟨.int m, rfl, (m : Int), rfl, by omega, by omega, ?_⟩
    refine for_range (lo := 0) (n := (m : Int).toNat) (fun k σ H' => H' = H ∧ ∃ v : Option V, σ = [some (.int n), some (.int m), some (.int (n ^ k)), v]) ⟨rfl, none, by rw [Int.pow_zero]; rfl⟩ (fun k σ H' hk h => ?_) (fun σ H' h => ?_)
    · obtain ⟨rfl, v, rfl⟩ := h
      refine ⟨_, rfl, _, rfl, _, _, rfl, rfl, .inr (by omega), rfl, some (.int (0 + (k : Int))), ?_⟩
      rw [Int.pow_succ]
      rfl
    · obtain ⟨rfl, v, rfl⟩ := h
      have e : (m : Int).toNat = m := by omega
      rw [e]
      exact ⟨_, rfl, q⟩
abbrev sNeedLength : Stmt := top 50
theorem scNeedLength : FnScope ["thing", "most"] ["thing", "most"] (defScope sNeedLength) := ⟨rfl, rfl, rfl, by decide +kernel, rfl, by decide +kernel, by decide +kernel⟩
def spNeedLength : Sp := fun vs H Q _ => ∃ n m : Int, vs = [.int n, .int m] ∧ 1 ≤ n ∧ n ≤ m ∧ Q .non H
theorem ok_need_length (D : DefIn K mg "need_length" "need_length" sNeedLength ["thing", "most"]) (C1 : Cal P w K mg base 2 "is_between" ["thing", "low", "high"] spIsBetween) : Cal P w K mg base 3 "need_length" ["thing", "most"] spNeedLength := by
  refine D.cal fun f fd F => F.ok scNeedLength (fun vs H Q E h => ?_) (fun cdv A outer s H vs Q E hr h => ?_)
  · obtain ⟨n, m, rfl, _⟩ := h
    rfl
  · obtain ⟨n, m, rfl, h0, h1, q⟩ := h
    exact ⟨_, pss_one (ps_if (pt_not (pt_val (pe_cal C1 hr (pa_cons (pv 0) (pa_cons pe_int (pa_cons (pv 1) pa_nil)))))) pss_never pss_nil), .int n, rfl, .int m, rfl, n, 1, m, rfl, true, bl_t (by omega), iteF q⟩
abbrev sNeedHeld : Stmt := top 51
theorem scNeedHeld : FnScope ["thing", "most"] ["thing", "most"] (defScope sNeedHeld) := ⟨rfl, rfl, rfl, by decide +kernel, rfl, by decide +kernel, by decide +kernel⟩
def spNeedHeld : Sp := fun vs H Q _ => ∃ n m : Int, vs = [.int n, .int m] ∧ 0 ≤ n ∧ n ≤ m ∧ Q .non H
theorem ok_need_held (D : DefIn K mg "need_held" "need_held" sNeedHeld ["thing", "most"]) (C1 : Cal P w K mg base 2 "is_between" ["thing", "low", "high"] spIsBetween) : Cal P w K mg base 3 "need_held" ["thing", "most"] spNeedHeld := by
  refine D.cal fun f fd F => F.ok scNeedHeld (fun vs H Q E h => ?_) (fun cdv A outer s H vs Q E hr h => ?_)
  · obtain ⟨n, m, rfl, _⟩ := h
    rfl
  · obtain ⟨n, m, rfl, h0, h1, q⟩ := h
    exact ⟨_, pss_one (ps_if (pt_not (pt_val (pe_cal C1 hr (pa_cons (pv 0) (pa_cons pe_int (pa_cons (pv 1) pa_nil)))))) pss_never pss_nil), .int n, rfl, .int m, rfl, n, 0, m, rfl, true, bl_t (by omega), iteF q⟩
abbrev sManyC : Stmt := top 53
theorem scManyC : FnScope ["length", "held"] ["length", "held"] (defScope sManyC) := ⟨rfl, rfl, rfl, by decide +kernel, rfl, by decide +kernel, by decide +kernel⟩
def spManyC : Sp := fun vs H Q _ => ∃ l : Nat, ∃ h : Int, vs = [.int l, .int h] ∧ 1 ≤ l ∧ l ≤ 24 ∧ 0 ≤ h ∧ h ≤ 60 ∧ Q (.int ((h + 1) ^ l - h ^ l)) H
theorem ok_many_c (D : DefIn K mg "many_of_counting" "many_of" sManyC ["length", "held"]) (C1 : Cal P w K mg base 1 "power" ["number", "many"] spPower) : Cal P w K mg base 2 "many_of_counting" ["length", "held"] spManyC := by
  refine D.cal fun f fd F => F.ok scManyC (fun vs H Q E h => ?_) (fun cdv A outer s H vs Q E hr h => ?_)
  · obtain ⟨n, m, rfl, _⟩ := h
    rfl
  · obtain ⟨l, h, rfl, h0, h1, h2, h3, q⟩ := h
    refine ⟨_, pss_one (ps_ret (pe_op op_sub (pe_cal C1 hr (pa_cons (pe_op op_add (pv 1) pe_int) (pa_cons (pv 0) pa_nil))) (pe_cal C1 hr (pa_cons (pv 1) (pa_cons (pv 0) pa_nil))))), ?_⟩
    exact ⟨.int h, rfl, _, _, rfl, rfl, .int l, rfl, h + 1, l, rfl, by omega, by omega, by omega, .int h, rfl, .int l, rfl, h, l, rfl, by omega, by omega, by omega, _, _, rfl, rfl, q⟩
abbrev sMany : Stmt := top 55
theorem scMany : FnScope ["length", "held"] ["length", "held"] (defScope sMany) := ⟨rfl, rfl, rfl, by decide +kernel, rfl, by decide +kernel, by decide +kernel⟩
theorem ok_many (C : Cst mg) (D : DefIn K mg "many" "many" sMany ["length", "held"]) (C1 : Cal P w K mg base 3 "need_length" ["thing", "most"] spNeedLength) (C2 : Cal P w K mg base 3 "need_held" ["thing", "most"] spNeedHeld)
    (C3 : Cal P w K mg base 2 "many_of_counting" ["length", "held"] spManyC) : Cal P w K mg base 4 "many" ["length", "held"] spManyC := by
  refine D.cal fun f fd F => F.ok scMany (fun vs H Q E h => ?_) (fun cdv A outer s H vs Q E hr h => ?_)
  · obtain ⟨n, m, rfl, _⟩ := h
    rfl
  · obtain ⟨l, h, rfl, h0, h1, h2, h3, q⟩ := h
    refine ⟨_, pss_cons (ps_expr (pe_cal C1 hr (pa_cons (pv 0) (pa_cons (pe_kint C.LONGEST) pa_nil)))) (pss_cons (ps_expr (pe_cal C2 hr (pa_cons (pv 1) (pa_cons (pe_kint C.GREATEST_HOLD) pa_nil))))
      (pss_one (ps_ret (pe_cal C3 (hr.mono (by decide)) (pa_cons (pv 0) (pa_cons (pv 1) pa_nil)))))), ?_⟩
    exact ⟨.int l, rfl, l, 24, rfl, by omega, by omega, .int h, rfl, h, 60, rfl, by omega, by omega, .int l, rfl, .int h, rfl, l, h, rfl, h0, h1, h2, h3, q⟩

/-! ### the law: its cells and its pen -/
abbrev sCellAt : Stmt := top 57
theorem scCellAt : FnScope ["_law_script", "_law_k"] ["_law_script", "_law_k"] (defScope sCellAt) := ⟨rfl, rfl, rfl, by decide +kernel, rfl, by decide +kernel, by decide +kernel⟩
def spCellAt (K : PySem.W.Frag) : Sp := fun vs H Q _ => ∃ a ns, ∃ k : Nat, vs = [.ref a, .int k] ∧ SqL K H a (iv ns) ∧ ∀ c : Int, Q (.int c) H
theorem ok_cell_at (B : Bi mg) (D : DefIn K mg "_law_cell_at" "_law_cell_at" sCellAt ["_law_script", "_law_k"]) : Cal P w K mg base 1 "_law_cell_at" ["_law_script", "_law_k"] (spCellAt K) := by
  refine D.cal fun f fd F => F.ok scCellAt (fun vs H Q E h => ?_) (fun cdv A outer s H vs Q E hr h => ?_)
  · obtain ⟨a, ns, k, rfl, _⟩ := h
    rfl
  · obtain ⟨a, ns, k, rfl, hL, q⟩ := h
    refine ⟨_, pss_cons (ps_if (pt_cmpR op_lt (pv 1) (pe_callB call_len_seq (by rfl) B.len PySem.boot_len (pa_cons (pv 0) pa_nil)) (nomark _)) (pss_one (ps_ret (pe_ix ix_list (pv 0) (pv 1) (fun _ _ => rfl)))) pss_nil) (pss_one (ps_ret pe_int)), ?_⟩
    refine ⟨.int k, rfl, .ref a, rfl, a, iv ns, rfl, .inl hL, _, _, rfl, rfl, _, rfl, ite2 (fun e => ?_) (fun e => q 0)⟩
    have e := of_decide_eq_true e
    have hk : k < ns.length := by rw [iv_len] at e; omega
    exact ⟨.ref a, rfl, .int k, rfl, a, iv ns, (k : Int), .int ns[k], rfl, rfl, hL, at_of rfl (iv_at (List.getElem?_eq_getElem hk)), q _⟩
/-- a pen stands at p -/
def PenAt (H : Hp) (p : Addr) : Prop := ∃ x y z : Int, H p = some (.lst [.int x, .int y, .int z]) ∧ 0 ≤ y ∧ y ≤ 2147483648
/-- all but what stands at p is as it was -/
def Sb (p : Addr) (H H' : Hp) : Prop := ∀ b o, b ≠ p → H b = some o → H' b = some o
theorem Sb.refl (p : Addr) (H : Hp) : Sb p H H := fun _ _ _ h => h
theorem Sb.trans {p : Addr} {H H1 H2 : Hp} (a : Sb p H H1) (b : Sb p H1 H2) : Sb p H H2 := fun c o n h => b c o n (a c o n h)
theorem Same.sb {p : Addr} {H H' : Hp} (s : Same H H') : Sb p H H' := fun b o _ h => s b o h
theorem sb_upd (p : Addr) (H : Hp) (o : HO) : Sb p H (upd H p o) := fun b u n h => by rw [upd_ne n]; exact h
theorem Same.pen {p : Addr} {H H' : Hp} (s : Same H H') (h : PenAt H p) : PenAt H' p := by
  obtain ⟨x, y, z, e, r⟩ := h
  exact ⟨x, y, z, s _ _ e, r⟩
theorem Sb.tup {K : PySem.W.Frag} {p : Addr} {H H' : Hp} {a : Addr} {xs : List V} (s : Sb p H H') (hp : PenAt H p) (h : SqT K H a xs) : SqT K H' a xs := by
  obtain ⟨x, y, z, e, _⟩ := hp
  rcases h with (h | ⟨o, h⟩) | h
  · exact .inl (.inl (s _ _ (fun q => by rw [q, e] at h; cases h) h))
  · exact .inl (.inr ⟨o, s _ _ (fun q => by rw [q, e] at h; cases h) h⟩)
  · exact .inr h
theorem Sb.free {p : Addr} {H H' : Hp} (s : Sb p H H') (hp : PenAt H p) (hp' : PenAt H' p) {b : Addr} (h : H' b = none) : H b = none := by
  cases e : H b with
  | none => rfl
  | some o =>
    by_cases hb : b = p
    · obtain ⟨_, _, _, e', _⟩ := hp'
      rw [hb, e'] at h
      cases h
    · rw [s b o hb e] at h
      cases h
abbrev sPen : Stmt := top 58
theorem scPen : FnScope ["_law_cell"] ["_law_cell"] (defScope sPen) := ⟨rfl, rfl, rfl, by decide +kernel, rfl, by decide +kernel, by decide +kernel⟩
def spPen : Sp := fun vs H Q _ => ∃ c : Int, vs = [.int c] ∧ ∀ H' p, Same H H' → H p = none → PenAt H' p → Q (.ref p) H'
theorem ok_pen (B : Bi mg) (D : DefIn K mg "_law_pen" "_law_pen" sPen ["_law_cell"]) : Cal P w K mg base 1 "_law_pen" ["_law_cell"] spPen := by
  refine D.cal fun f fd F => F.ok scPen (fun vs H Q E h => ?_) (fun cdv A outer s H vs Q E hr h => ?_)
  · obtain ⟨c, rfl, _⟩ := h
    rfl
  · obtain ⟨c, rfl, q⟩ := h
    refine ⟨_, pss_one (ps_ret (pe_lst (pa_cons (pe_callB (call_max2 rfl) (by rfl) B.max (by decide +kernel) (pa_cons pe_int (pa_cons (pe_op op_sub (pv 0) (pe_op op_pow pe_int pe_int)) pa_nil)))
      (pa_cons (pe_op op_add (pe_op op_mod (pv 0) pe_int) pe_int) (pa_cons pe_int pa_nil))))), ?_⟩
    refine ⟨_, rfl, _, _, rfl, rfl, ⟨by decide, by decide, by decide⟩, _, _, rfl, rfl, _, _, rfl, .int c, rfl, _, _, rfl, rfl, (by show (0 : Int) < 2147483629; decide), _, _, rfl, rfl, (by show 3 ≤ sizeLine; decide), fun p np => ?_⟩
    have h1 := Int.emod_nonneg c (show (2147483629 : Int) ≠ 0 by decide)
    have h2 := Int.emod_lt_of_pos c (show (0 : Int) < 2147483629 by decide)
    exact q _ p (same_new np) np ⟨_, _, _, upd_same, by omega, by omega⟩
abbrev sDraw : Stmt := top 59
theorem scDraw : FnScope ["_law_pen_here", "_law_amount", "_law_mixed", "_law_found"] ["_law_pen_here", "_law_amount"] (defScope sDraw) := ⟨rfl, rfl, rfl, by decide +kernel, rfl, by decide +kernel, by decide +kernel⟩
def spDraw : Sp := fun vs H Q _ => ∃ p, ∃ n : Int, vs = [.ref p, .int n] ∧ PenAt H p ∧ 1 ≤ n ∧ n < 1073741824 ∧ ∀ (d : Int) H', Sb p H H' → PenAt H' p → 0 ≤ d → d < n → Q (.int d) H'
theorem sq_bd {x : Int} (h0 : 0 ≤ x) (h1 : x ≤ 2147483648) : -(2 ^ 64) < x ∧ x < 2 ^ 64 := by omega
theorem ok_draw (D : DefIn K mg "_law_draw" "_law_draw" sDraw ["_law_pen_here", "_law_amount"]) : Cal P w K mg base 1 "_law_draw" ["_law_pen_here", "_law_amount"] spDraw := by
  refine D.cal fun f fd F => F.ok scDraw (fun vs H Q E h => ?_) (fun cdv A outer s H vs Q E hr h => ?_)
  · obtain ⟨p, n, rfl, _⟩ := h
    rfl
  · obtain ⟨p, n, rfl, ⟨x, y, z, hp, hy0, hy1⟩, hn0, hn1, q⟩ := h
    refine ⟨_, pss_cons (ps_if (pt_cmpR op_gt (pe_ix ix_list (pv 0) pe_int (fun _ _ => rfl)) pe_int (nomark _))
        (pss_cons (ps_set (i := 3) scDraw.nd rfl (.inl rfl) (pe_op op_mod (pe_ix ix_list (pv 0) pe_int (fun _ _ => rfl)) (pv 1)))
        (pss_cons (ps_asg (pe_op op_fdiv (pe_ix ix_list (pv 0) pe_int (fun _ _ => rfl)) (pv 1)) (pg_sub (pv 0) pe_int set_list))
        (pss_one (ps_ret (pv 3))))) pss_nil)
      (pss_cons (ps_asg (pe_op op_add (pe_ix ix_list (pv 0) pe_int (fun _ _ => rfl)) pe_int) (pg_sub (pv 0) pe_int set_list))
      (pss_cons (ps_asg (pe_op op_mod (pe_op op_add (pe_op op_add (pe_op op_mul (pe_ix ix_list (pv 0) pe_int (fun _ _ => rfl)) pe_int) (pe_op op_mul pe_int (pe_ix ix_list (pv 0) pe_int (fun _ _ => rfl)))) pe_int) pe_int) (pg_sub (pv 0) pe_int set_list))
      (pss_cons (ps_set (i := 2) scDraw.nd rfl (.inl rfl) (pe_op op_mod (pe_op op_add (pe_op op_add (pe_op op_mul (pe_ix ix_list (pv 0) pe_int (fun _ _ => rfl)) (pe_ix ix_list (pv 0) pe_int (fun _ _ => rfl))) (pe_op op_mul pe_int (pe_ix ix_list (pv 0) pe_int (fun _ _ => rfl)))) pe_int) pe_int))
      (pss_cons (ps_set (i := 2) scDraw.nd rfl (.inl rfl) (pe_op op_mod (pe_op op_add (pe_op op_mul (pv 2) (pv 2)) (pe_op op_mul pe_int (pv 2))) pe_int))
      (pss_one (ps_ret (pe_op op_mod (pe_op op_fdiv (pv 2) pe_int) (pv 1)))))))), ?_⟩
    refine ⟨.ref p, rfl, p, _, 0, _, rfl, rfl, SqL.of hp, rfl, _, _, rfl, rfl, _, rfl, ite2 (fun e => ?_) (fun e => ?_)⟩
    · refine ⟨.ref p, rfl, p, _, 0, _, rfl, rfl, SqL.of hp, rfl, .int n, rfl, _, _, rfl, rfl, by show 0 < n; omega, ?_⟩
      refine ⟨.ref p, rfl, p, _, 0, _, rfl, rfl, SqL.of hp, rfl, .int n, rfl, _, _, rfl, rfl, ⟨by omega, by omega⟩, ?_⟩
      refine ⟨.ref p, rfl, p, _, 0, 0, rfl, rfl, hp, rfl, .int (x % n), rfl, ?_⟩
      exact q (x % n) _ (sb_upd _ _ _) ⟨x / n, y, z, upd_same, hy0, hy1⟩ (Int.emod_nonneg _ (by omega)) (Int.emod_lt_of_pos _ (by omega))
    · refine ⟨.ref p, rfl, p, _, 2, _, rfl, rfl, SqL.of hp, rfl, _, _, rfl, rfl, .ref p, rfl, p, _, 2, 2, rfl, rfl, hp, rfl, ?_⟩
      have hp1 : (upd H p (.lst ([V.int x, .int y, .int z].set 2 (.int (z + 1))))) p = some (.lst [.int x, .int y, .int (z + 1)]) := upd_same
      have sb1 : Sb p H (upd H p (.lst ([V.int x, .int y, .int z].set 2 (.int (z + 1))))) := sb_upd _ _ _
      generalize upd H p (.lst ([V.int x, .int y, .int z].set 2 (.int (z + 1)))) = H1 at hp1 sb1
      refine ⟨.ref p, rfl, p, _, 1, _, rfl, rfl, SqL.of hp1, rfl, _, _, rfl, rfl, .inl (sq_bd hy0 hy1), ?_⟩
      refine ⟨.ref p, rfl, p, _, 2, _, rfl, rfl, SqL.of hp1, rfl, _, _, rfl, rfl, .inl ⟨by decide, by decide⟩, _, _, rfl, rfl, _, _, rfl, rfl, _, _, rfl, rfl, by show (0 : Int) < _; decide, ?_⟩
      refine ⟨.ref p, rfl, p, _, 1, 1, rfl, rfl, hp1, rfl, ?_⟩
      have hm0 := Int.emod_nonneg (y * 48271 + 1009 * (z + 1) + 7) (show (2147483647 : Int) ≠ 0 by decide)
      have hm1 := Int.emod_lt_of_pos (y * 48271 + 1009 * (z + 1) + 7) (show (0 : Int) < 2147483647 by decide)
      have hp2 : (upd H1 p (.lst ([V.int x, .int y, .int (z + 1)].set 1 (.int ((y * 48271 + 1009 * (z + 1) + 7) % 2147483647))))) p = some (.lst [.int x, .int ((y * 48271 + 1009 * (z + 1) + 7) % 2147483647), .int (z + 1)]) := upd_same
      have sb2 : Sb p H (upd H1 p (.lst ([V.int x, .int y, .int (z + 1)].set 1 (.int ((y * 48271 + 1009 * (z + 1) + 7) % 2147483647))))) := sb1.trans (sb_upd _ _ _)
      generalize upd H1 p (.lst ([V.int x, .int y, .int (z + 1)].set 1 (.int ((y * 48271 + 1009 * (z + 1) + 7) % 2147483647)))) = H2 at hp2 sb2
      generalize (y * 48271 + 1009 * (z + 1) + 7) % 2147483647 = u at hm0 hm1 hp2
      refine ⟨.ref p, rfl, p, _, 1, _, rfl, rfl, SqL.of hp2, rfl, .ref p, rfl, p, _, 1, _, rfl, rfl, SqL.of hp2, rfl, _, _, rfl, rfl, .inl (sq_bd hm0 (by omega)), ?_⟩
      refine ⟨.ref p, rfl, p, _, 1, _, rfl, rfl, SqL.of hp2, rfl, _, _, rfl, rfl, .inl ⟨by decide, by decide⟩, _, _, rfl, rfl, _, _, rfl, rfl, _, _, rfl, rfl, by show (0 : Int) < _; decide, ?_⟩
      have hv0 := Int.emod_nonneg (u * u + 69621 * u + 11) (show (2147483629 : Int) ≠ 0 by decide)
      have hv1 := Int.emod_lt_of_pos (u * u + 69621 * u + 11) (show (0 : Int) < 2147483629 by decide)
      refine ⟨_, rfl, _, rfl, _, _, rfl, rfl, .inl (sq_bd hv0 (by omega)), _, rfl, _, _, rfl, rfl, .inl ⟨by decide, by decide⟩, _, _, rfl, rfl, _, _, rfl, rfl, by show (0 : Int) < _; decide, ?_⟩
      refine ⟨_, rfl, _, _, rfl, rfl, ⟨by decide, by decide⟩, .int n, rfl, _, _, rfl, rfl, by show 0 < n; omega, ?_⟩
      exact q _ _ sb2 ⟨x, u, z + 1, hp2, hm0, by omega⟩ (Int.emod_nonneg _ (by omega)) (Int.emod_lt_of_pos _ (by omega))
end
end Bw

/-! the law: pick, same, drawn_state, product -/
namespace Bw
open PySem PySem.Spec PyProof.Rows L2
theorem clt_len (L : List Int) (x : Int) : clt L x = ((L.filter fun n => decide (n < x)).length : Int) := by
  induction L with
  | nil => rfl
  | cons p L ih =>
    simp only [clt, List.filter_cons]
    by_cases h : p < x
    · simp [h, ih]; omega
    · simp [h, ih]
theorem clt_le (L : List Int) (x : Int) : clt L x ≤ (L.length : Int) := by
  rw [clt_len]
  have := List.length_filter_le (fun n => decide (n < x)) L
  omega
section
variable {P : Program} {w : World} {K : PySem.W.Frag} {mg : Str → Option Value} {base : Heap}
abbrev sPick : Stmt := top 60
theorem scPick : FnScope ["_law_pen_here", "_law_some"] ["_law_pen_here", "_law_some"] (defScope sPick) := ⟨rfl, rfl, rfl, by decide +kernel, rfl, by decide +kernel, by decide +kernel⟩
def spPick : Sp := fun vs H Q _ => ∃ p q, ∃ L : List Int, vs = [.ref p, .ref q] ∧ PenAt H p ∧ H q = some (.lst (iv L)) ∧ q ≠ p ∧ 1 ≤ L.length ∧ L.length ≤ 1000 ∧ ∀ (x : Int) H', Sb p H H' → PenAt H' p → x ∈ L → Q (.int x) H'
theorem ok_pick (B : Bi mg) (D : DefIn K mg "_law_pick" "_law_pick" sPick ["_law_pen_here", "_law_some"]) (C1 : Cal P w K mg base 1 "_law_draw" ["_law_pen_here", "_law_amount"] spDraw) : Cal P w K mg base 2 "_law_pick" ["_law_pen_here", "_law_some"] spPick := by
  refine D.cal fun f fd F => F.ok scPick (fun vs H Q E h => ?_) (fun cdv A outer s H vs Q E hr h => ?_)
  · obtain ⟨p, q, L, rfl, _⟩ := h
    rfl
  · obtain ⟨p, q, L, rfl, hp, hq, hne, h1, h2, k⟩ := h
    refine ⟨_, pss_one (ps_ret (pe_ix ix_list (pv 1) (pe_cal C1 hr (pa_cons (pv 0) (pa_cons (pe_callB call_len_seq (by rfl) B.len PySem.boot_len (pa_cons (pv 1) pa_nil)) pa_nil))) (fun _ _ => rfl))), ?_⟩
    refine ⟨.ref q, rfl, .ref p, rfl, .ref q, rfl, q, iv L, rfl, .inl (SqL.of hq), p, ((iv L).length : Int), rfl, hp, by rw [iv_len]; omega, by rw [iv_len]; omega, fun d H1 s1 hp1 hd0 hd1 => ?_⟩
    rw [iv_len] at hd1
    have hd : d.toNat < L.length := by omega
    exact ⟨q, iv L, d, .int L[d.toNat], rfl, rfl, SqL.of (s1 _ _ hne hq), at_of (j := d.toNat) (by omega) (iv_at (List.getElem?_eq_getElem hd)), k _ H1 s1 hp1 (List.getElem_mem hd)⟩

abbrev sSame : Stmt := top 61
theorem scSame : FnScope ["_law_found", "_law_due"] ["_law_found", "_law_due"] (defScope sSame) := ⟨rfl, rfl, rfl, by decide +kernel, rfl, by decide +kernel, by decide +kernel⟩
def spSame (K : PySem.W.Frag) : Sp := fun vs H Q _ => ∃ p q b, ∃ n : Int, vs = [.ref p, .ref q] ∧ SqL K H p [.bl b, .int n] ∧ SqL K H q [.bl b, .int n] ∧ n.natAbs.log2 < 1920 ∧ Q (.bl true) H
theorem ok_same (B : Bi mg) (D : DefIn K mg "_law_same" "_law_same" sSame ["_law_found", "_law_due"]) : CalG P w K mg base 1 "_law_same" ["_law_found", "_law_due"] (spSame K) := by
  refine D.calG fun f fd F => FnG.mk' F scSame (fun vs H Q E h => ?_) (fun cdv A outer s H vs Q E hr hgd h => ?_)
  · obtain ⟨p, q, b, n, rfl, _⟩ := h
    rfl
  · obtain ⟨p, q, b, n, rfl, hp, hq, hn, k⟩ := h
    refine ⟨_, pss_one (ps_ret (pe_cmpR op_eq (pe_callB (cr_reprBN hgd hr.units) (by rfl) B.repr (by decide +kernel) (pa_cons (pv 0) pa_nil)) (pe_callB (cr_reprBN hgd hr.units) (by rfl) B.repr (by decide +kernel) (pa_cons (pv 1) pa_nil)) (nomark _))), ?_⟩
    refine ⟨.ref p, rfl, p, b, n, rfl, hp, hn, .ref q, rfl, q, b, n, rfl, hq, hn, rfl, ?_⟩
    rw [decide_eq_true rfl]
    exact k

abbrev sDrawn : Stmt := top 62
theorem scDrawn : FnScope ["_law_pen_here", "_law_size", "_law_top", "_law_left", "_law_turn"] ["_law_pen_here", "_law_size", "_law_top"] (defScope sDrawn) := ⟨rfl, rfl, rfl, by decide +kernel, rfl, by decide +kernel, by decide +kernel⟩
def spDrawn : Sp := fun vs H Q _ => ∃ p, ∃ n t : Nat, vs = [.ref p, .int n, .int t] ∧ PenAt H p ∧ n ≤ t ∧ t ≤ 1000 ∧ ∀ L H' r, Sb p H H' → PenAt H' p → H r = none → H' r = some (.tup (iv L)) → IsSt ((t : Int) - 1) L → L.length = n → Q (.ref r) H'
theorem ok_drawn (B : Bi mg) (D : DefIn K mg "_law_drawn_state" "_law_drawn_state" sDrawn ["_law_pen_here", "_law_size", "_law_top"]) (C1 : Cal P w K mg base 1 "_law_draw" ["_law_pen_here", "_law_amount"] spDraw) :
    Cal P w K mg base 2 "_law_drawn_state" ["_law_pen_here", "_law_size", "_law_top"] spDrawn := by
  refine D.cal fun f fd F => F.ok scDrawn (fun vs H Q E h => ?_) (fun cdv A outer s H vs Q E hr h => ?_)
  · obtain ⟨p, n, t, rfl, _⟩ := h
    rfl
  · obtain ⟨p, n, t, rfl, hp, hnt, ht, q⟩ := h
    refine ⟨_, pss_cons (ps_set (i := 3) scDrawn.nd rfl (.inr rfl) (pe_listRg rfl (by rfl) B.list (prg_1 (by rfl) B.range (pv 2))))
      (pss_one (ps_ret (pe_tupleOf (by rfl) B.tuple (pe_callB cr_sortedI (by rfl) B.sorted (by decide +kernel) (pa_cons
        (pe_lc (own := [("_law_turn", 4)]) (g := gName 4) (tt := tYes) rfl scDrawn.nd (pi_range1 (by rfl) B.range (pa_cons (pv 1) pa_nil)) (blkOk_by (own := [("_law_turn", 4)]) (N := ["_law_pen_here", "_law_size", "_law_top", "_law_left", "_law_turn"]) (sc := defScope sDrawn) (by decide +kernel))
          (fun _ _ _ _ _ => pg_name (i := 4) scDrawn.nd rfl (Or.inl rfl)) (fun _ _ _ _ _ => pts_nil)
          (fun _ _ _ _ _ => (show PE _ _ (tBM K "list" rPopAt (tVar 3) (tCons (tCall spDraw [] E0 (tCons (tVar 0) (tCons (tCB (fun xs H Q => ∃ p ys, xs = [V.ref p] ∧ (SqL K H p ys ∨ SqT K H p ys) ∧ Q (V.int ys.length) H) (tCons (tVar 3) tNil)) tNil))) tNil)) from
            pe_bm PySem.F.plainAttrs_list PySem.F.slot_list_pop PySem.F.type_list_pop mt_popAt (pv 3) (pa_cons (pe_cal C1 hr (pa_cons (pv 0) (pa_cons (pe_callB call_len_seq (by rfl) B.len PySem.boot_len (pa_cons (pv 3) pa_nil)) pa_nil))) pa_nil)))) pa_nil))))), ?_⟩
    refine ⟨.int t, rfl, t, rfl, RgOk.of_le (by omega) (by omega) (by omega) (by omega), fun pL nL => ?_⟩
    rw [rgV_rg]
    have hL1 : (upd H pL (.lst (iv (rg t)))) pL = some (.lst (iv (rg t))) := upd_same
    have s1 : Same H (upd H pL (.lst (iv (rg t)))) := same_new nL
    generalize upd H pL (.lst (iv (rg t))) = H1 at hL1 s1
    have hpL : pL ≠ p := fun z => by
      obtain ⟨_, _, _, e, _⟩ := hp
      rw [z, e] at nL
      cases nL
    refine ⟨.int n, rfl, (n : Int), rfl, by omega, by omega, fun D1 hD1 => ?_⟩
    have hDp : D1 ≠ p := fun z => by
      obtain ⟨_, _, _, e, _⟩ := Same.pen s1 hp
      rw [z, e] at hD1
      cases hD1
    have hDL : D1 ≠ pL := fun z => by
      rw [z, hL1] at hD1
      cases hD1
    refine lc_range (lo := 0) (n := (n : Int).toNat) (fun i H' => ∃ L acc : List Int, H' pL = some (.lst (iv L)) ∧ H' D1 = some (.lst (iv acc)) ∧ L.length + i = t ∧ acc.length = i ∧ PenAt H' p ∧ (acc ++ L).Perm (rg t) ∧ Sb p H H')
      ⟨rg t, [], by rw [upd_ne hDL.symm]; exact hL1, upd_same, by rw [rg_length, Nat.add_zero], rfl, Same.pen (same_new hD1) (Same.pen s1 hp), List.Perm.refl _, Same.sb (s1.trans (same_new hD1))⟩ (fun i H' hi h => ?_) (fun H' h => ?_)
    · obtain ⟨L, acc, gL, gD, hl, ha, gp, pm, sb⟩ := h
      have hi' : i < n := by omega
      refine ⟨rfl, .ref pL, rfl, .inl ⟨rfl, _, SqL.of gL⟩, .ref p, rfl, .ref pL, rfl, pL, iv L, rfl, .inl (SqL.of gL), p, ((iv L).length : Int), rfl, gp, by rw [iv_len]; omega, by rw [iv_len]; omega, fun d H2 s2 gp2 hd0 hd1 => ?_⟩
      rw [iv_len] at hd1
      have hd : d.toNat < L.length := by omega
      have gL2 := s2 _ _ hpL gL
      have gD2 := s2 _ _ hDp gD
      have ed : d = ((d.toNat : Nat) : Int) := by omega
      have hg : L[d.toNat]? = some L[d.toNat] := List.getElem?_eq_getElem hd
      refine ⟨pL, iv L, d, d.toNat, .int L[d.toNat], rfl, rfl, gL2, by omega, by omega, by rw [ed]; exact seqIx (by rw [iv_len]; exact hd), iv_at hg, ?_⟩
      refine ⟨iv acc, by rw [upd_ne hDL]; exact gD2, small (by rw [iv_len]; omega), L.eraseIdx d.toNat, acc ++ [L[d.toNat]], ?_, ?_, ?_, ?_, ?_, ?_, ?_⟩
      · have eL : (iv L).eraseIdx d.toNat = iv (L.eraseIdx d.toNat) := by
          show (List.map V.int L).eraseIdx d.toNat = List.map V.int (L.eraseIdx d.toNat)
          rw [List.eraseIdx_eq_take_drop_succ, List.eraseIdx_eq_take_drop_succ]
          simp
        rw [upd_ne hDL.symm, upd_same, eL]
      · rw [upd_same]
        simp
      · rw [List.length_eraseIdx_of_lt hd]
        omega
      · rw [List.length_append, ha]
        rfl
      · obtain ⟨x, y, z, e, r⟩ := gp2
        exact ⟨x, y, z, by rw [upd_ne hDp.symm, upd_ne hpL.symm]; exact e, r⟩
      · refine List.Perm.trans ?_ pm
        rw [List.append_assoc]
        refine List.Perm.append_left acc ?_
        have e := List.eraseIdx_eq_take_drop_succ L d.toNat
        have e2 : L = L.take d.toNat ++ L[d.toNat] :: L.drop (d.toNat + 1) := by
          rw [← List.drop_eq_getElem_cons hd, List.take_append_drop]
        rw [e]
        refine List.Perm.trans ?_ (List.Perm.of_eq e2.symm)
        exact (List.perm_middle (a := L[d.toNat]) (l₁ := L.take d.toNat) (l₂ := L.drop (d.toNat + 1))).symm
      · intro c o nc hc
        rw [upd_ne (ne_of_none hc (s1.free hD1)), upd_ne (ne_of_none hc nL)]
        exact s2 _ _ nc (sb _ _ nc hc)
    · obtain ⟨L, acc, gL, gD, hl, ha, gp, pm, sb⟩ := h
      refine ⟨D1, acc, rfl, SqL.of gD, fun ns' p2 pm2 so np2 => .inl ⟨p2, _, rfl, SqL.of upd_same, fun r nr => ?_⟩⟩
      have e : (n : Int).toNat = n := by omega
      rw [e] at ha
      have nd : acc.Nodup := (List.nodup_append.mp (pm.symm.nodup (rg_asc t).nodup)).1
      have nd2 : ns'.Nodup := pm2.symm.nodup nd
      have asc : Asc ns' := lt_of_le_nodup ns' so nd2
      have mem : ∀ x ∈ ns', 0 ≤ x ∧ x < (t : Int) := fun x hx => mem_rg.mp (pm.mem_iff.mp (List.mem_append_left _ (pm2.mem_iff.mp hx)))
      have sN := (same_new (o := .lst (iv ns')) np2).trans (same_new (o := .tup (iv ns')) nr)
      refine q ns' _ r (sb.trans (Same.sb sN)) (Same.pen sN gp) ?_ upd_same ⟨asc, fun x hx => (mem x hx).1, fun x hx => by have := (mem x hx).2; omega⟩ (by rw [pm2.length_eq, ha])
      exact sb.free hp gp ((same_new np2).free nr)

abbrev sProduct : Stmt := top 63
theorem scProduct : FnScope ["_law_one", "_law_length", "_law_found", "_law_thing", "_law_number"] ["_law_one", "_law_length"] (defScope sProduct) := ⟨rfl, rfl, rfl, by decide +kernel, rfl, by decide +kernel, by decide +kernel⟩
def spProduct (K : PySem.W.Frag) : Sp := fun vs H Q _ => ∃ a one, ∃ t : Nat, vs = [.ref a, .int t] ∧ SqT K H a (iv one) ∧ one.length ≤ 60 ∧ t ≤ 60 ∧ ∀ H', Same H H' → Q (.int (lp one t)) H'
theorem ok_product (B : Bi mg) (D : DefIn K mg "_law_product" "_law_product" sProduct ["_law_one", "_law_length"]) : Cal P w K mg base 1 "_law_product" ["_law_one", "_law_length"] (spProduct K) := by
  refine D.cal fun f fd F => F.ok scProduct (fun vs H Q E h => ?_) (fun cdv A outer s H vs Q E hr h => ?_)
  · obtain ⟨a, one, t, rfl, _⟩ := h
    rfl
  · obtain ⟨a, one, t, rfl, hT, hl, ht, q⟩ := h
    refine ⟨_, pss_cons (ps_set (i := 2) scProduct.nd rfl (.inl rfl) pe_int)
      (pss_cons (ps_for PassesOwn.never rfl (pi_range1 (by rfl) B.range (pa_cons (pv 1) pa_nil)) (pg_name (i := 3) scProduct.nd rfl (.inr rfl))
        (pss_one (ps_set (i := 2) scProduct.nd rfl (.inl rfl) (pe_op op_mul (pv 2) (pe_op op_add pe_int (pe_callB call_len_seq (by rfl) B.len PySem.boot_len (pa_cons
          (pe_lc (own := [("_law_number", 4)]) (g := gName 4) rfl scProduct.nd (pi_tup (pv 0)) (blkOk_by (own := [("_law_number", 4)]) (N := ["_law_one", "_law_length", "_law_found", "_law_thing", "_law_number"]) (sc := defScope sProduct) (by decide +kernel))
            (fun _ _ _ _ _ => pg_name (i := 4) scProduct.nd rfl (Or.inl rfl)) (fun _ _ _ _ _ => pts_one (pt_cmpR op_lt (pv 4) (pv 3) (nomark _))) (fun _ _ _ _ _ => pv 4)) pa_nil)))))))
      (pss_one (ps_ret (pv 2)))), ?_⟩
    refine ⟨.int t, rfl, (t : Int), rfl, by omega, by omega, ?_⟩
    refine for_range (lo := 0) (n := (t : Int).toNat) (fun k σ H' => Same H H' ∧ ∃ v3 v4 : Option V, σ = [some (.ref a), some (.int t), some (.int (lp one k)), v3, v4]) ⟨Same.refl _, none, none, rfl⟩ (fun k σ H' hk h => ?_) (fun σ H' h => ?_)
    · obtain ⟨s1, v3, v4, rfl⟩ := h
      rw [Int.zero_add]
      have hT1 := Same.tup s1 hT
      refine ⟨_, rfl, .ref a, rfl, a, rfl, ⟨_, hT1⟩, fun D1 hD1 => ?_⟩
      refine lc_tup (K := K) (a := a) (xs := iv one) (fun i H1 => LcP H' D1 one (fun n => decide (n < (k : Int))) (fun n => .int n) i H1) (LcP.start hD1) (fun i H1 _ h => Same.tup h.1 hT1) (fun i x H1 hx h => ?_) (fun H1 h => ?_)
      · obtain ⟨n, hn, rfl⟩ := iv_get hx
        refine ⟨rfl, .int n, rfl, .int (k : Int), rfl, _, _, rfl, rfl, _, rfl, ite2 (fun e => ?_) (fun e => ?_)⟩
        · exact ⟨.int n, rfl, h.kept hD1 hn e (by omega) (Same.refl _)⟩
        · exact h.drop hn (by rw [decide_eq_false]; exact fun z => e (decide_eq_true z)) (Same.refl _)
      · rw [iv_len] at h
        have h := h.done
        have hc := clt_len one (k : Int)
        have hc2 := clt_le one (k : Int)
        have hc3 := clt_nonneg one (k : Int)
        refine ⟨D1, _, rfl, .inl (SqL.of h.2), _, _, rfl, rfl, _, _, rfl, rfl, .inr ?_, s1.trans h.1, some (.int (k : Int)), v4, ?_⟩
        · rw [List.length_map]
          omega
        · show [_, _, some (V.int (lp one k * (1 + (((one.filter fun n => decide (n < (k : Int))).map fun n => V.int n).length : Int)))), _, _] = [_, _, some (V.int (lp one k * (1 + clt one (k : Int)))), _, _]
          rw [List.length_map, hc]
    · obtain ⟨s1, v3, v4, rfl⟩ := h
      have e : (t : Int).toNat = t := by omega
      rw [e]
      exact ⟨_, rfl, q _ s1⟩
end
end Bw

/-! the law: ways_right -/
namespace Bw
open PySem PySem.Spec PyProof.Rows L2
/-! ### plain -/
theorem lp_le {one : List Int} (h : one.length ≤ 8) : ∀ t : Nat, lp one t ≤ 9 ^ t
  | 0 => Int.le_refl 1
  | t + 1 => by
    have h1 := lp_le h t
    have h0 := lp_pos one t
    have h2 := clt_nonneg one (t : Int)
    have h3 := clt_le one (t : Int)
    show lp one t * (1 + clt one (t : Int)) ≤ 9 ^ (t + 1)
    rw [Int.pow_succ]
    exact Int.mul_le_mul h1 (by omega) (by omega) (by omega)
theorem lp_log {one : List Int} (h : one.length ≤ 8) {t : Nat} (ht : t ≤ 60) : (lp one t).natAbs.log2 < 1920 := by
  have h1 := lp_le h t
  have h0 := lp_pos one t
  have h2 : (9 : Nat) ^ t ≤ 9 ^ 60 := Nat.pow_le_pow_right (by decide) ht
  have h3 : ((9 ^ t : Nat) : Int) = (9 : Int) ^ t := by rw [Int.natCast_pow]; rfl
  have h4 : (lp one t).natAbs ≤ 9 ^ t := by omega
  have h5 : (9 : Nat) ^ 60 < 2 ^ 1920 := by decide +kernel
  exact (Nat.log2_lt (by omega)).mpr (by omega)
theorem rch_nil (one two : List Int) (t : Nat) : (((one.filter fun n => decide ((t : Int) ≤ n)).map fun n => n - (t : Int)).filter fun n => !decide (n ∈ two)) = [] ↔ ∀ n ∈ one, (t : Int) ≤ n → n - (t : Int) ∈ two := by
  rw [List.filter_eq_nil_iff]
  constructor
  · intro h n hn ht
    have := h (n - (t : Int)) (List.mem_map.mpr ⟨n, List.mem_filter.mpr ⟨hn, decide_eq_true ht⟩, rfl⟩)
    simpa using this
  · intro h b hb
    obtain ⟨n, hn, rfl⟩ := List.mem_map.mp hb
    obtain ⟨h1, h2⟩ := List.mem_filter.mp hn
    simp [h n h1 (of_decide_eq_true h2)]
theorem lexEq : ∀ a b : List Int, lexLt a b = HT.lexLt a b
  | [], [] => rfl
  | [], _ :: _ => rfl
  | _ :: _, [] => rfl
  | x :: xs, y :: ys => by
    show (if x = y then lexLt xs ys else decide (x < y)) = (if x = y then HT.lexLt xs ys else decide (x < y))
    rw [lexEq xs ys]
theorem wN_lp {one two : List Int} {t : Nat} (h1 : IsSt 59 one) (h2 : IsSt 59 two) : wN one two t = if Rch one two t then lp one t else 0 := by
  unfold wN
  by_cases h : Rch one two t
  · rw [if_pos h, if_pos h, mo_lp h1 h2 h]
  · rw [if_neg h, if_neg h]
theorem andV_via {ta tb : TE} {σ : L2.St} {H : Hp} {Q : VK} (R : VK → Prop) (h : ∀ Q', R Q' → tAndV ta tb σ H Q') (k : R Q) : tAndV ta tb σ H Q := h _ k
theorem tIf_via {tA : TT} {ta tb : TE} {σ : L2.St} {H : Hp} {Q : VK} (R : VK → Prop) (h : ∀ Q', R Q' → tIf tA ta tb σ H Q') (k : R Q) : tIf tA ta tb σ H Q := h _ k
theorem tCB_via {r : List V → Hp → VK → Prop} {t : TA} {σ : L2.St} {H : Hp} {Q : VK} (R : VK → Prop) (h : ∀ Q', R Q' → tCB r t σ H Q') (k : R Q) : tCB r t σ H Q := h _ k
theorem tAnd_via {tA tB : TT} {σ : L2.St} {H : Hp} {Q : Bool → Hp → Prop} (R : (Bool → Hp → Prop) → Prop) (h : ∀ Q', R Q' → tAnd tA tB σ H Q') (k : R Q) : tAnd tA tB σ H Q := h _ k
section
variable {P : Program} {w : World} {K : PySem.W.Frag} {mg : Str → Option Value} {base : Heap}
abbrev sWaysRight : Stmt := top 64
theorem scWaysRight : FnScope ["_law_pen_here", "_law_one", "_law_two", "_law_length", "_law_rest", "_law_good", "_law_amount", "_law_ahead", "_law_place", "_law_number", "_law_row"] ["_law_pen_here", "_law_one", "_law_two", "_law_length"] (defScope sWaysRight) := ⟨rfl, rfl, rfl, by decide +kernel, rfl, by decide +kernel, by decide +kernel⟩
def spWaysRight (K : PySem.W.Frag) : Sp := fun vs H Q _ => ∃ p a b one two, ∃ t : Nat, vs = [.ref p, .ref a, .ref b, .int t] ∧ PenAt H p ∧ SqT K H a (iv one) ∧ SqT K H b (iv two) ∧ IsSt 59 one ∧ IsSt 59 two ∧ one.length ≤ 8 ∧ two.length ≤ 8 ∧ t ≤ 60 ∧
  ∀ H', Sb p H H' → PenAt H' p → Q (.bl true) H'
abbrev nWR : List Str := ["_law_pen_here", "_law_one", "_law_two", "_law_length", "_law_rest", "_law_good", "_law_amount", "_law_ahead", "_law_place", "_law_number", "_law_row"]
theorem ok_ways_right (B : Bi mg) (D : DefIn K mg "_law_ways_right" "_law_ways_right" sWaysRight ["_law_pen_here", "_law_one", "_law_two", "_law_length"])
    (C1 : Cal P w K mg base 1 "_law_product" ["_law_one", "_law_length"] (spProduct K)) (C2 : Cal P w K mg base 6 "reaches" ["one", "other", "ticks"] (spReaches K)) (C3 : Cal P w K mg base 6 "ways" ["one", "other", "ticks"] (spManyWays K))
    (C4 : CalG P w K mg base 1 "_law_same" ["_law_found", "_law_due"] (spSame K)) (C5 : Cal P w K mg base 1 "_law_draw" ["_law_pen_here", "_law_amount"] spDraw) (C6 : Cal P w K mg base 6 "way_at" ["one", "other", "ticks", "place"] (spWayAt K))
    (C7 : Cal P w K mg base 5 "follow" ["state", "row"] (spFollow K)) (C8 : Cal P w K mg base 5 "place_of_way" ["state", "row"] (spPlaceOf K)) :
    CalG P w K mg base 7 "_law_ways_right" ["_law_pen_here", "_law_one", "_law_two", "_law_length"] (spWaysRight K) := by
  refine D.calG fun f fd F => FnG.mk' F scWaysRight (fun vs H Q E h => ?_) (fun cdv A outer s H vs Q E hr hgd h => ?_)
  · obtain ⟨p, a, b, one, two, t, rfl, _⟩ := h
    rfl
  · obtain ⟨p, a, b, one, two, t, rfl, hp, hT1, hT2, h1, h2, l1, l2, ht, q⟩ := h
    have hr1 := hr.mono (show 1 ≤ 6 by decide)
    have hr5 := hr.mono (show 5 ≤ 6 by decide)
    have hu := hr.units
    refine ⟨_, pss_cons (ps_setLc (i := 4) (own := [("_law_number", 9)]) (g := gName 9) (by rfl) scWaysRight.nd rfl rfl (sw_true rfl rfl rfl (by decide +kernel)) (pi_tup (pv 1)) (blkOk_by (own := [("_law_number", 9)]) (N := nWR) (sc := defScope sWaysRight) (by decide +kernel))
          (fun _ _ _ _ _ => pg_name (i := 9) scWaysRight.nd rfl (Or.inl rfl)) (fun _ _ _ _ _ => pts_one (pt_cmpR op_ge (pv 9) (pv 3) (nomark _))) (fun _ _ _ _ _ => pe_op op_sub (pv 9) (pv 3)))
      (pss_cons (ps_set (i := 5) scWaysRight.nd rfl (.inl rfl) (pe_and (pe_cmpR op_eq (pe_callB call_len_seq (by rfl) B.len PySem.boot_len (pa_cons (pv 1) pa_nil)) (pe_callB call_len_seq (by rfl) B.len PySem.boot_len (pa_cons (pv 2) pa_nil)) (nomark _))
        (pe_one (pe_cmpR (op_eqD hu) (pe_lc (own := [("_law_number", 9)]) (g := gName 9) rfl scWaysRight.nd (pi_list (pv 4)) (blkOk_by (own := [("_law_number", 9)]) (N := nWR) (sc := defScope sWaysRight) (by decide +kernel))
          (fun _ _ _ _ _ => pg_name (i := 9) scWaysRight.nd rfl (Or.inl rfl)) (fun _ _ _ _ _ => pts_one (pt_cmpR (show OpR _ (compareOp .NotIn) (rIn K true) from op_notIn_seq) (pv 9) (pv 2) (by rfl))) (fun _ _ _ _ _ => pv 9)) (pe_lst pa_nil) (nomark _)))))
      (pss_cons (ps_set (i := 6) scWaysRight.nd rfl (.inl rfl) (pe_ifExp (pt_val (pv 5)) (pe_cal C1 hr1 (pa_cons (pv 1) (pa_cons (pv 3) pa_nil))) pe_int))
      (pss_cons (ps_if (pt_not (pt_val (pe_calG C4 hr1 hgd (pa_cons (pe_lst (pa_cons (pe_cal C2 hr (pa_cons (pv 1) (pa_cons (pv 2) (pa_cons (pv 3) pa_nil)))) (pa_cons (pe_cal C3 hr (pa_cons (pv 1) (pa_cons (pv 2) (pa_cons (pv 3) pa_nil)))) pa_nil)))
          (pa_cons (pe_lst (pa_cons (pv 5) (pa_cons (pv 6) pa_nil))) pa_nil))))) pss_never pss_nil)
      (pss_cons (ps_set (i := 7) scWaysRight.nd rfl (.inl rfl) (pe_tup (pa_cons (pe_un un_neg pe_int) (pa_cons (pe_tup pa_nil) pa_nil))))
      (pss_cons (ps_for PassesOwn.never rfl (pi_list (pe_callB (cr_sortedSet rfl) (by rfl) B.sorted (by decide +kernel) (pa_cons (pe_callTy (cr_setL rfl) (by rfl) B.set (by decide +kernel) (pa_cons
          (pe_lst (pa_cons pe_int (pa_cons (pe_op op_sub (pv 6) pe_int) (pa_cons (pe_op op_mod (pe_cal C5 hr1 (pa_cons (pv 0) (pa_cons (pe_op op_pow pe_int pe_int) pa_nil))) (pe_callB (call_max2 rfl) (by rfl) B.max (by decide +kernel) (pa_cons pe_int (pa_cons (pv 6) pa_nil))))
            (pa_cons (pe_op op_fdiv (pv 6) pe_int) pa_nil))))) pa_nil)) pa_nil))) (pg_name (i := 8) scWaysRight.nd rfl (.inl rfl))
        (pss_one (ps_if (pt_chain op_le op_lt pe_int (pv 8) (pv 6))
          (pss_cons (ps_set (i := 10) scWaysRight.nd rfl (.inl rfl) (pe_cal C6 hr (pa_cons (pv 1) (pa_cons (pv 2) (pa_cons (pv 3) (pa_cons (pv 8) pa_nil))))))
          (pss_cons (ps_if (PW.pt (pw_or (pt_cmpR op_ne (pe_callB call_len_seq (by rfl) B.len PySem.boot_len (pa_cons (pv 10) pa_nil)) (pv 3) (nomark _))
              (pw_or (pt_cmpR (op_neD hu) (pe_cal C7 hr5 (pa_cons (pv 1) (pa_cons (pv 10) pa_nil))) (pv 2) (nomark _))
              (pw_or1 (pt_cmpR op_ne (pe_cal C8 hr5 (pa_cons (pv 1) (pa_cons (pv 10) pa_nil))) (pv 8) (nomark _)))))) pss_never pss_nil)
          (pss_cons (ps_if (PW.pt (pw_and (pt_cmpR op_ge (pe_ix ix_tup (pv 7) pe_int (fun _ _ => rfl)) pe_int (nomark _)) (pw_and1 (pt_not (pt_cmpR (op_ltT (Nat.lt_of_le_of_lt (Nat.le_add_right _ _) hu)) (pe_ix ix_tup (pv 7) pe_int (fun _ _ => rfl)) (pv 10) (nomark _)))))) pss_never pss_nil)
          (pss_one (ps_set (i := 7) scWaysRight.nd rfl (.inl rfl) (pe_tup (pa_cons (pv 8) (pa_cons (pv 10) pa_nil)))))))) pss_nil)))
      (pss_one (ps_ret pe_bl))))))), ?_⟩
    have nla := hp
    -- rest
    refine ⟨.ref a, rfl, a, rfl, ⟨_, hT1⟩, fun D1 hD1 => ?_⟩
    refine lc_tup (K := K) (a := a) (xs := iv one) (fun i H1 => LcP H D1 one (fun n => decide ((t : Int) ≤ n)) (fun n => .int (n - (t : Int))) i H1) (LcP.start hD1) (fun i H1 _ h => Same.tup h.1 hT1) (fun i x H1 hx h => ?_) (fun H1 h => ?_)
    · obtain ⟨n, hn, rfl⟩ := iv_get hx
      refine ⟨rfl, .int n, rfl, .int t, rfl, _, _, rfl, rfl, _, rfl, ite2 (fun e => ?_) (fun e => ?_)⟩
      · exact ⟨.int n, rfl, .int t, rfl, _, _, rfl, rfl, h.kept hD1 hn e (by omega) (Same.refl _)⟩
      · exact h.drop hn (by rw [decide_eq_false]; exact fun z => e (decide_eq_true z)) (Same.refl _)
    rw [iv_len] at h
    have h := h.done
    have s1 := h.1
    have hD : H1 D1 = some (.lst (iv ((one.filter fun n => decide ((t : Int) ≤ n)).map fun n => n - (t : Int)))) := by
      rw [h.2]
      show _ = some (HO.lst (List.map V.int (List.map _ _)))
      rw [List.map_map]
      rfl
    clear h
    -- good
    dsimp only [tSeq, tAsg, gName]
    refine andV_via (fun Q' => ∀ H2, Same H1 H2 → Q' (.bl (decide (Rch one two t))) H2) (fun Q' q' => ?_) (fun H2 s2 => ?_)
    · refine ⟨.ref a, rfl, a, iv one, rfl, .inr (Same.tup s1 hT1), .ref b, rfl, b, iv two, rfl, .inr (Same.tup s1 hT2), rfl, _, rfl, ite2 (fun e => ?_) (fun e => ?_)⟩
      · have e1 : one.length = two.length := by
          have := V.int.inj (of_decide_eq_true e)
          rw [iv_len, iv_len] at this
          omega
        have eR : decide (Rch one two t) = decide ((((one.filter fun n => decide ((t : Int) ≤ n)).map fun n => n - (t : Int)).filter fun n => !decide (n ∈ two)) = []) := by
          rw [Bool.eq_iff_iff, decide_eq_true_iff, decide_eq_true_iff, rch_nil]
          exact ⟨fun r => r.2, fun r => ⟨e1, r⟩⟩
        rw [eR] at q'
        have lR : ((one.filter fun n => decide ((t : Int) ≤ n)).map fun n => n - (t : Int)).length ≤ 8 := by
          rw [List.length_map]
          exact Nat.le_trans (List.length_filter_le _ _) l1
        generalize ((one.filter fun n => decide ((t : Int) ≤ n)).map fun n => n - (t : Int)) = R at hD q' lR
        refine ⟨.ref D1, rfl, D1, rfl, ⟨_, SqL.of hD⟩, fun D2 hD2 => ?_⟩
        refine lc_list (K := K) (a := D1) (xs := iv R) (fun i H3 => LcP H1 D2 R (fun n => !decide (n ∈ two)) (fun n => .int n) i H3) (LcP.start hD2) (fun i H3 _ h => SqL.of (h.1 _ _ hD)) (fun i x H3 hx h3 => ?_) (fun H3 h3 => ?_)
        · obtain ⟨n, hn, rfl⟩ := iv_get hx
          refine ⟨rfl, .int n, rfl, .ref b, rfl, b, iv two, rfl, .inr (Same.tup (s1.trans h3.1) hT2), rfl, flat_iv two, _, rfl, ?_⟩
          show if (!inV (.int n) (iv two)) = true then _ else _
          rw [in_iv]
          refine ite2 (fun e => ?_) (fun e => ?_)
          · exact ⟨.int n, rfl, h3.kept hD2 hn e (by omega) (Same.refl _)⟩
          · exact h3.drop hn (by cases hb : (!decide (n ∈ two)) with
              | true => exact absurd hb e
              | false => rfl) (Same.refl _)
        · rw [iv_len] at h3
          have h3 := h3.done
          refine ⟨Nat.zero_le _, fun pE nE => ?_⟩
          exact eq_lst (M := []) (SqL.of (same_new nE _ _ h3.2)) (SqL.of upd_same) (q' _ (h3.1.trans (same_new nE)))
      · have e1 : ¬ one.length = two.length := fun z => e (decide_eq_true (by rw [iv_len, iv_len, z]))
        have z := q' H1 (Same.refl _)
        rw [decide_eq_false (show ¬ Rch one two t from fun r => e1 r.1)] at z
        exact z
    have s02 := s1.trans s2
    -- amount
    refine tIf_via (fun Q' => ∀ H3, Same H2 H3 → Q' (.int (wN one two t)) H3) (fun Q' q' => ?_) (fun H3 s3 => ?_)
    · rw [wN_lp h1 h2] at q'
      refine ⟨_, rfl, decide (Rch one two t), rfl, ite2 (fun e => ?_) (fun e => ?_)⟩
      · rw [if_pos (of_decide_eq_true e)] at q'
        exact ⟨.ref a, rfl, .int t, rfl, a, one, t, rfl, Same.tup s02 hT1, by omega, ht, q'⟩
      · rw [if_neg (fun z => e (decide_eq_true z))] at q'
        exact q' _ (Same.refl _)
    have s03 := s02.trans s3
    have tw : Two K H a b one two := ⟨hT1, hT2, h1.up (by decide), h2.up (by decide), by omega, by omega⟩
    have hA1 : Rch one two t → wN one two t = mo (pl one two t) 0 := fun r => if_pos r
    have hA2 : ¬ Rch one two t → wN one two t = 0 := fun r => if_neg r
    have hA3 : (wN one two t).natAbs.log2 < 1920 := by
      rw [wN_lp h1 h2]
      by_cases hR : Rch one two t
      · rw [if_pos hR]; exact lp_log l1 ht
      · rw [if_neg hR]; decide
    have hA4 : 0 ≤ wN one two t := by
      by_cases hR : Rch one two t
      · rw [hA1 hR]; exact mo_nonneg _ _
      · rw [hA2 hR]; exact Int.le_refl 0
    -- the two ways of asking answer the same
    refine ⟨.ref a, rfl, .ref b, rfl, .int t, rfl, a, b, one, two, t, rfl, tw.mono s03, ht, fun H4 s4 => ?_⟩
    refine ⟨.ref a, rfl, .ref b, rfl, .int t, rfl, a, b, one, two, t, rfl, tw.mono (s03.trans s4), ht, fun H5 s5 => ?_⟩
    generalize wN one two t = A at hA1 hA2 hA3 hA4
    refine ⟨(by show 2 ≤ sizeLine; decide), fun pF nF => ?_⟩
    have gF : (upd H5 pF (.lst [.bl (decide (Rch one two t)), .int A])) pF = some (.lst [.bl (decide (Rch one two t)), .int A]) := upd_same
    have s06 : Same H (upd H5 pF (.lst [.bl (decide (Rch one two t)), .int A])) := ((s03.trans s4).trans s5).trans (same_new nF)
    generalize upd H5 pF (.lst [.bl (decide (Rch one two t)), .int A]) = H6 at gF s06
    refine ⟨_, rfl, _, rfl, (by show 2 ≤ sizeLine; decide), fun pG nG => ?_⟩
    refine ⟨pF, pG, decide (Rch one two t), A, rfl, SqL.of (same_new nG _ _ gF), SqL.of upd_same, hA3, true, rfl, iteF ?_⟩
    have s07 : Same H (upd H6 pG (.lst [.bl (decide (Rch one two t)), .int A])) := s06.trans (same_new nG)
    generalize upd H6 pG (.lst [.bl (decide (Rch one two t)), .int A]) = H7 at s07
    -- ahead
    refine ⟨1, rfl, (by show 0 ≤ sizeLine; decide), fun pE nE => ⟨(by show 2 ≤ sizeLine; decide), fun pA nA => ?_⟩⟩
    have s08 := s07.trans (same_new (o := .tup []) nE)
    generalize upd H7 pE (.tup []) = H8 at s08 nA
    have gA : (upd H8 pA (.tup [.int (-1), .ref pE])) pA = some (.tup [.int (-1), .ref pE]) := upd_same
    have s09 := s08.trans (same_new (o := .tup [.int (-1), .ref pE]) nA)
    have hAp : pA ≠ p := fun z => by
      obtain ⟨_, _, _, e, _⟩ := Same.pen s08 hp
      rw [z, e] at nA
      cases nA
    generalize upd H8 pA (.tup [.int (-1), .ref pE]) = H9 at s09 gA
    -- the places
    dsimp only [tFor, iList]
    refine tCB_via (fun Q' => ∀ (ns : List Int) (pO : Addr) (H14 : Hp), Asc ns → Sb p H H14 → H14 pA = some (.tup [.int (-1), .ref pE]) → PenAt H14 p → H14 pO = some (.lst (iv ns)) → Q' (.ref pO) H14) (fun Q' q' => ?_) (fun ns pO H14 asc sb gA14 hp14 gO14 => ⟨pO, rfl, ⟨_, SqL.of gO14⟩, ?_⟩)
    · refine ⟨_, rfl, _, _, rfl, rfl, .ref p, rfl, _, _, rfl, rfl, ⟨by decide, by decide, by decide⟩, p, _, rfl, Same.pen s09 hp, (by show (1 : Int) ≤ 10 ^ 9; decide), (by show (10 : Int) ^ 9 < 1073741824; decide), fun d H10 s10 hp10 hd0 hd1 => ?_⟩
      refine ⟨_, rfl, _, _, rfl, _, _, rfl, rfl, (by show (0 : Int) < if A > 1 then A else 1; split <;> omega), _, rfl, _, _, rfl, rfl, ⟨by decide, by decide⟩, (by show 4 ≤ sizeLine; decide), fun pL nL => ?_⟩
      refine ⟨pL, [0, A - 1, d % (if A > 1 then A else 1), A / 2], rfl, SqL.of upd_same, (by show 4 ≤ 60; decide), fun pS c nS hc => ?_⟩
      have hc4 : c ≤ 4 := hc
      refine ⟨pS, _, c, rfl, upd_same, by omega, fun ns pO asc mem len nO => ?_⟩
      have sN := ((same_new (o := .lst [.int 0, .int (A - 1), .int (d % (if A > 1 then A else 1)), .int (A / 2)]) nL).trans (same_new nS)).trans (same_new (o := .lst (ns.map V.int)) nO)
      exact q' ns pO _ asc ((Same.sb s09).trans (s10.trans (Same.sb sN))) (sN _ _ (s10 _ _ hAp gA)) (Same.pen sN hp10) upd_same
    refine for_list (K := K) (a := pO) (xs := iv ns) (fun i σ H' => ∃ (pA : Addr) (x : Int) (pR : Addr) (v8 v9 v10 : Option V), σ = [some (.ref p), some (.ref a), some (.ref b), some (.int t), some (.ref D1), some (.bl (decide (Rch one two t))), some (.int A), some (.ref pA), v8, v9, v10] ∧ Same H14 H' ∧
        H' pA = some (.tup [.int x, .ref pR]) ∧ (x = -1 ∨ (0 ≤ x ∧ ∃ row, SqT K H' pR (iv row) ∧ Way (pl one two t) 0 x row ∧ ∀ (j : Nat) (v : Int), i ≤ j → ns[j]? = some v → x < v)))
      ⟨pA, -1, pE, none, none, none, rfl, Same.refl _, gA14, .inl rfl⟩ (fun i σ H' _ h => ?_) (fun i z σ H' hz h => ?_) (fun σ H' h => ?_)
    · obtain ⟨_, _, _, _, _, _, _, s, _⟩ := h
      exact SqL.of (s _ _ gO14)
    · obtain ⟨n, hn, rfl⟩ := iv_get hz
      obtain ⟨pA, x, pR0, v8, v9, v10, rfl, s15, gA, hx⟩ := h
      have sb15 : Sb p H H' := sb.trans (Same.sb s15)
      have hT1' : SqT K H' a (iv one) := sb15.tup hp hT1
      have hT2' : SqT K H' b (iv two) := sb15.tup hp hT2
      have tw' : Two K H' a b one two := ⟨hT1', hT2', tw.s1, tw.s2, tw.l1, tw.l2⟩
      refine ⟨_, rfl, _, _, rfl, rfl, _, rfl, ite2 (fun e1 => ?_) (fun e1 => ?_)⟩
      · have e1 : (0 : Int) ≤ n := of_decide_eq_true e1
        refine ⟨_, rfl, _, _, rfl, rfl, _, rfl, ite2 (fun e2 => ?_) (fun e2 => ?_)⟩
        · have e2 : n < A := of_decide_eq_true e2
          have hR : Rch one two t := Classical.byContradiction fun z => by
            have := hA2 z
            omega
          have eA := hA1 hR
          refine ⟨.ref a, rfl, .ref b, rfl, .int t, rfl, .int n, rfl, a, b, one, two, t, n, rfl, tw', ht, hR, e1, by omega, fun row H16 pR s16 hw nR gR => ?_⟩
          obtain ⟨hled, hrl⟩ := way_follow h1 h2 hR (by omega) (by omega) hw
          refine ⟨.ref pR, rfl, pR, iv row, rfl, .inr (SqT.of gR), .int t, rfl, rfl, _, rfl, iteNS (by rw [iv_len, hrl]) ?_⟩
          refine ⟨.ref a, rfl, .ref pR, rfl, a, pR, one, row, two, rfl, Same.tup s16 hT1', SqT.of gR, hled, h1.up (by decide), by omega, by omega, fun H17 pg s17 hg => ?_⟩
          have s167 := s16.trans s17
          refine ⟨.ref b, rfl, ne_tup hg (Same.tup s167 hT2') ⟨_, rfl, iteNS rfl ?_⟩⟩
          refine ⟨.ref a, rfl, .ref pR, rfl, a, pR, one, two, row, t, n, rfl, Same.tup s167 hT1', SqT.of (s17 _ _ gR), tw.s1, tw.s2, tw.l1, tw.l2, ht, hR, hw, fun H18 s18 => ?_⟩
          refine ⟨.int n, rfl, rfl, _, rfl, iteNS rfl ?_⟩
          have s678 := s167.trans s18
          have gR18 := s18 _ _ (s17 _ _ gR)
          have gA18 := s678 _ _ gA
          dsimp only [tNext, tSeq, tIfS]
          refine tAnd_via (fun Q' => Q' false H18) (fun Q' q' => ?_) ?_
          · refine ⟨.ref pA, rfl, pA, _, 0, .int x, rfl, rfl, SqT.of gA18, rfl, _, _, rfl, rfl, _, rfl, ite2 (fun e3 => ?_) (fun e3 => ?_)⟩
            · have e3 : 0 ≤ x := of_decide_eq_true e3
              rcases hx with hx | ⟨_, row0, hr0, hw0, hlt⟩
              · omega
              · have hxn : x < n := hlt i n (Nat.le_refl _) hn
                have hlex : HT.lexLt row0 row = true := by
                  rw [← lexEq]
                  rcases hw0.order (pl_asc h2 t) hw (by omega) with ⟨z, _⟩ | ⟨_, z⟩
                  · omega
                  · exact z
                refine ⟨.ref pA, rfl, pA, _, 1, .ref pR0, rfl, rfl, SqT.of gA18, rfl, .ref pR, rfl, pR0, pR, row0, row, rfl, rfl, Same.tup s678 hr0, SqT.of gR18, _, rfl, ?_⟩
                rw [hlex]
                exact q'
            · exact q'
          · refine iteF ⟨_, rfl, _, rfl, (by show 2 ≤ sizeLine; decide), fun pN nN => ?_⟩
            refine ⟨pN, n, pR, _, _, _, rfl, (s15.trans s678).trans (same_new nN), upd_same, .inr ⟨e1, row, SqT.of (same_new nN _ _ gR18), hw, fun j v hj hv => ?_⟩⟩
            exact sorted_get asc hn hv (by omega)
        · refine ⟨pA, x, pR0, _, _, _, rfl, s15, gA, ?_⟩
          rcases hx with hx | ⟨a1, a2, a3, a4, a5⟩
          · exact .inl hx
          · exact .inr ⟨a1, a2, a3, a4, fun j v hj hv => a5 j v (by omega) hv⟩
      · refine ⟨false, rfl, iteF ⟨pA, x, pR0, _, _, _, rfl, s15, gA, ?_⟩⟩
        rcases hx with hx | ⟨a1, a2, a3, a4, a5⟩
        · exact .inl hx
        · exact .inr ⟨a1, a2, a3, a4, fun j v hj hv => a5 j v (by omega) hv⟩
    · obtain ⟨_, _, _, _, _, _, _, s15, _⟩ := h
      exact q _ (sb.trans (Same.sb s15)) (Same.pen s15 hp14)
end
end Bw

/-! the law: least_right -/
namespace Bw
open PySem PySem.Spec PyProof.Rows L2
theorem Least.uniq {one two : List Int} {t t' : Nat} (h : Least one two t) (h' : Least one two t') : t = t' := by
  rcases Nat.lt_trichotomy t t' with z | z | z
  · exact absurd h.1 (h'.2.2 t z)
  · exact z
  · exact absurd h'.1 (h.2.2 t' z)
section
variable {P : Program} {w : World} {K : PySem.W.Frag} {mg : Str → Option Value} {base : Heap}
abbrev sLeastRight : Stmt := top 65
abbrev nLR : List Str := ["_law_one", "_law_two", "_law_least", "_law_row", "_law_length"]
theorem scLeastRight : FnScope nLR ["_law_one", "_law_two"] (defScope sLeastRight) := ⟨rfl, rfl, rfl, by decide +kernel, rfl, by decide +kernel, by decide +kernel⟩
def spLeastRight (K : PySem.W.Frag) : Sp := fun vs H Q _ => ∃ a b one two, vs = [.ref a, .ref b] ∧ SqT K H a (iv one) ∧ SqT K H b (iv two) ∧ IsSt 59 one ∧ IsSt 59 two ∧ one.length = two.length ∧ 1 ≤ one.length ∧ one.length ≤ 8 ∧
  ∀ H', Same H H' → Q (.bl true) H'
theorem ok_least_right (B : Bi mg) (D : DefIn K mg "_law_least_right" "_law_least_right" sLeastRight ["_law_one", "_law_two"])
    (C1 : Cal P w K mg base 6 "least_ticks" ["one", "other"] (spLeastTicks K)) (C2 : Cal P w K mg base 6 "first_way" ["one", "other"] (spShortest K)) (C3 : Cal P w K mg base 5 "follow" ["state", "row"] (spFollow K))
    (C4 : Cal P w K mg base 6 "way_at" ["one", "other", "ticks", "place"] (spWayAt K)) (C5 : Cal P w K mg base 6 "reaches" ["one", "other", "ticks"] (spReaches K)) :
    Cal P w K mg base 7 "_law_least_right" ["_law_one", "_law_two"] (spLeastRight K) := by
  refine D.cal fun f fd F => F.ok scLeastRight (fun vs H Q E h => ?_) (fun cdv A outer s H vs Q E hr h => ?_)
  · obtain ⟨a, b, one, two, rfl, _⟩ := h
    rfl
  · obtain ⟨a, b, one, two, rfl, hT1, hT2, h1, h2, le, l0, l1, q⟩ := h
    have hr5 := hr.mono (show 5 ≤ 6 by decide)
    have hu := hr.units
    refine ⟨_, pss_cons (ps_par (i := 2) (j := 3) (by rfl) scLeastRight.nd rfl rfl (by decide) rfl rfl (pa_cons (pe_cal C1 hr (pa_cons (pv 0) (pa_cons (pv 1) pa_nil))) (pa_cons (pe_cal C2 hr (pa_cons (pv 0) (pa_cons (pv 1) pa_nil))) pa_nil)) (by rfl))
      (pss_cons (ps_if (PW.pt (pw_or (pt_cmpR op_ne (pe_callB call_len_seq (by rfl) B.len PySem.boot_len (pa_cons (pv 3) pa_nil)) (pv 2) (nomark _))
              (pw_or (pt_cmpR (op_neD hu) (pe_cal C3 hr5 (pa_cons (pv 0) (pa_cons (pv 3) pa_nil))) (pv 1) (nomark _))
              (pw_or1 (pt_cmpR (op_neD hu) (pe_cal C4 hr (pa_cons (pv 0) (pa_cons (pv 1) (pa_cons (pv 2) (pa_cons pe_int pa_nil))))) (pv 3) (nomark _)))))) pss_never pss_nil)
      (pss_cons (ps_if (pt_cmpR (op_neD hu) (pe_lc (own := [("_law_length", 4)]) (g := gName 4) rfl scLeastRight.nd (pi_range1 (by rfl) B.range (pa_cons (pv 2) pa_nil)) (blkOk_by (own := [("_law_length", 4)]) (N := nLR) (sc := defScope sLeastRight) (by decide +kernel))
          (fun _ _ _ _ _ => pg_name (i := 4) scLeastRight.nd rfl (Or.inl rfl)) (fun _ _ _ _ _ => pts_one (pt_val (pe_cal C5 hr (pa_cons (pv 0) (pa_cons (pv 1) (pa_cons (pv 4) pa_nil)))))) (fun _ _ _ _ _ => pe_int)) (pe_lst pa_nil) (nomark _)) pss_never pss_nil)
      (pss_one (ps_ret (pe_cal C5 hr (pa_cons (pv 0) (pa_cons (pv 1) (pa_cons (pe_callB (call_min2 rfl) (by rfl) B.min (by decide +kernel) (pa_cons pe_int (pa_cons (pe_op op_add (pe_callB (cr_maxT rfl) (by rfl) B.max (by decide +kernel) (pa_cons (pv 0) pa_nil)) pe_int) pa_nil))) pa_nil)))))))), ?_⟩
    have tw : Two K H a b one two := ⟨hT1, hT2, h1.up (by decide), h2.up (by decide), by omega, by omega⟩
    have h60 : Rch one two 60 := rch_at h1 le (by decide)
    refine ⟨.ref a, rfl, .ref b, rfl, a, b, one, two, rfl, tw, h60, fun t H1 s1 hL => ?_⟩
    refine ⟨.ref a, rfl, .ref b, rfl, a, b, one, two, rfl, tw.mono s1, h60, fun t' H2 pR s2 hL' nR gR => ?_⟩
    obtain rfl := hL'.uniq hL
    have s12 := s1.trans s2
    have hR := hL.1
    have ht := hL.2.1
    have hm : 0 < mo (pl one two t') 0 := by
      rw [mo_lp h1 h2 hR]
      have := lp_pos one t'
      omega
    have hw := first_way (pl one two t') 0 (pl_asc h2 t') hm
    generalize firstRow (pl one two t') 0 = row at gR hw
    obtain ⟨hled, hrl⟩ := way_follow h1 h2 hR (by omega) (by omega) hw
    refine ⟨.int t', .ref pR, rfl, ?_⟩
    refine ⟨.ref pR, rfl, pR, iv row, rfl, .inr (SqT.of gR), .int t', rfl, rfl, _, rfl, iteNS (by rw [iv_len, hrl]) ?_⟩
    refine ⟨.ref a, rfl, .ref pR, rfl, a, pR, one, row, two, rfl, Same.tup s12 hT1, SqT.of gR, hled, h1.up (by decide), by omega, by omega, fun H3 pg s3 hg => ?_⟩
    have s13 := s12.trans s3
    refine ⟨.ref b, rfl, ne_tup hg (Same.tup s13 hT2) ⟨_, rfl, iteNS rfl ?_⟩⟩
    refine ⟨.ref a, rfl, .ref b, rfl, .int t', rfl, a, b, one, two, t', 0, rfl, tw.mono s13, ht, hR, Int.le_refl 0, hm, fun row' H4 pR' s4 hw' nR' gR' => ?_⟩
    obtain rfl := hw.uniq (pl_asc h2 t') hw'
    have s14 := s13.trans s4
    refine ⟨.ref pR, rfl, ne_tup (SqT.of gR') (SqT.of (s4 _ _ (s3 _ _ gR))) ⟨_, rfl, iteNS rfl ?_⟩⟩
    -- none below
    refine ⟨.int t', rfl, (t' : Int), rfl, by omega, by omega, fun D1 hD1 => ?_⟩
    refine lc_range (lo := 0) (n := (t' : Int).toNat) (fun i H5 => Same H4 H5 ∧ H5 D1 = some (.lst [])) ⟨same_new hD1, upd_same⟩ (fun i H5 hi h => ?_) (fun H5 h => ?_)
    · obtain ⟨s5, g5⟩ := h
      rw [Int.zero_add]
      refine ⟨rfl, .ref a, rfl, .ref b, rfl, .int (i : Int), rfl, a, b, one, two, i, rfl, tw.mono (s14.trans s5), by omega, fun H6 s6 => ?_⟩
      rw [decide_eq_false (hL.2.2 i (by omega))]
      exact ⟨false, rfl, iteF ⟨s5.trans s6, s6 _ _ g5⟩⟩
    · obtain ⟨s5, g5⟩ := h
      refine ⟨Nat.zero_le _, fun pE nE => ?_⟩
      refine ne_lst (L := []) (M := []) (SqL.of (same_new nE _ _ g5)) (SqL.of upd_same) ⟨_, rfl, iteNS rfl ?_⟩
      have s16 := (s14.trans s5).trans (same_new (o := .lst []) nE)
      generalize upd H5 pE (.lst []) = H6 at s16
      refine ⟨.ref a, rfl, .ref b, rfl, .ref a, rfl, a, one, rfl, Same.tup s16 hT1, l0, fun m hm1 hm2 => ?_⟩
      have hm3 := h1.hi m hm1
      have hm4 := h1.lo m hm1
      have hst : IsSt m one := ⟨h1.asc, h1.lo, hm2⟩
      refine ⟨_, _, rfl, rfl, _, _, rfl, ?_⟩
      have e : (if m + 1 < 60 then m + 1 else 60) = (((m + 1).toNat : Nat) : Int) := by
        split <;> omega
      show spReaches K [.ref a, .ref b, .int (if m + 1 < 60 then m + 1 else 60)] H6 _ E0
      rw [e]
      refine ⟨a, b, one, two, (m + 1).toNat, rfl, tw.mono s16, by omega, fun H7 s7 => ?_⟩
      rw [decide_eq_true (rch_top hst le (by omega))]
      exact q H7 (s16.trans s7)
end
end Bw

/-! the law: states, tables_right -/
namespace Bw
open PySem PySem.Spec PyProof.Rows L2
/-! ### plain -/
def stsM : Nat → List (List Int)
  | 0 => [[]]
  | k + 1 => stsM k ++ (stsM k).map fun l => l ++ [(k : Int)]
theorem stsM_len : ∀ k, (stsM k).length = 2 ^ k
  | 0 => rfl
  | k + 1 => by
    show (stsM k ++ (stsM k).map fun l => l ++ [(k : Int)]).length = _
    rw [List.length_append, List.length_map, stsM_len k, Nat.pow_succ]
    omega
theorem stsM_ok : ∀ k, ∀ l ∈ stsM k, Asc l ∧ (∀ x ∈ l, 0 ≤ x ∧ x < (k : Int)) ∧ l.length ≤ k
  | 0, l, h => by
    have e : l = [] := List.mem_singleton.mp h
    subst e
    exact ⟨List.Pairwise.nil, fun x hx => (by cases hx), Nat.le_refl 0⟩
  | k + 1, l, h => by
    rcases List.mem_append.mp h with h | h
    · obtain ⟨a, b, c⟩ := stsM_ok k l h
      exact ⟨a, fun x hx => by have := b x hx; omega, by omega⟩
    · obtain ⟨m, hm, rfl⟩ := List.mem_map.mp h
      obtain ⟨a, b, c⟩ := stsM_ok k m hm
      refine ⟨List.pairwise_append.mpr ⟨a, List.pairwise_singleton _ _, fun x hx y hy => ?_⟩, fun x hx => ?_, ?_⟩
      · rw [List.mem_singleton.mp hy]
        exact (b x hx).2
      · rcases List.mem_append.mp hx with z | z
        · have := b x z
          omega
        · rw [List.mem_singleton.mp z]
          omega
      · rw [List.length_append]
        show m.length + 1 ≤ k + 1
        omega
def sts (size top : Nat) : List (List Int) := (stsM top).filter fun l => decide (l.length = size)
theorem sts_st {size top : Nat} (h : top ≤ 10) {l : List Int} (hl : l ∈ sts size top) : IsSt 99 l ∧ l.length ≤ 60 := by
  obtain ⟨a, b, c⟩ := stsM_ok top l (List.mem_filter.mp hl).1
  exact ⟨⟨a, fun x hx => (b x hx).1, fun x hx => by have := (b x hx).2; omega⟩, by omega⟩
def pairs : List (Nat × Nat) := [(1, 1), (2, 1), (1, 2), (2, 2), (3, 2), (2, 3), (1, 5), (3, 3), (2, 4)]
theorem pairs_ok : ∀ q ∈ pairs, ((sts q.1 (q.1 * q.2)).map fun l => wN l l q.2).sum = ((q.1 : Int) + 1) ^ q.2 - (q.1 : Int) ^ q.2 ∧ q.1 * q.2 ≤ 10 ∧ 1 ≤ q.2 ∧ q.2 ≤ 5 ∧ q.1 ≤ 3 := by decide +kernel
section
variable {P : Program} {w : World} {K : PySem.W.Frag} {mg : Str → Option Value} {base : Heap}
theorem sqT_upd {H : Hp} {a D : Addr} {xs acc : List V} {o : HO} (h : SqT K H a xs) (hD : H D = some (.lst acc)) : SqT K (upd H D o) a xs := by
  rcases h with (h | ⟨u, h⟩) | h
  · exact .inl (.inl (by rw [upd_ne (fun z => by rw [z, hD] at h; cases h)]; exact h))
  · exact .inl (.inr ⟨u, by rw [upd_ne (fun z => by rw [z, hD] at h; cases h)]; exact h⟩)
  · exact .inr h
/-- the values are tuples of these whole numbers -/
def Ts (K : PySem.W.Frag) (H : Hp) (vs : List V) (L : List (List Int)) : Prop := vs.length = L.length ∧ ∀ (i : Nat) (l : List Int), L[i]? = some l → ∃ a, vs[i]? = some (.ref a) ∧ SqT K H a (iv l)
theorem Ts.nil {H : Hp} : Ts K H [] [] := ⟨rfl, fun i l h => by cases h⟩
theorem Ts.mono {H H' : Hp} {vs : List V} {L : List (List Int)} (t : Ts K H vs L) (s : Same H H') : Ts K H' vs L := ⟨t.1, fun i l h => by
  obtain ⟨a, h1, h2⟩ := t.2 i l h
  exact ⟨a, h1, Same.tup s h2⟩⟩
theorem Ts.upd {H : Hp} {vs acc : List V} {L : List (List Int)} {D : Addr} {o : HO} (t : Ts K H vs L) (hD : H D = some (.lst acc)) : Ts K (L2.upd H D o) vs L := ⟨t.1, fun i l h => by
  obtain ⟨a, h1, h2⟩ := t.2 i l h
  exact ⟨a, h1, sqT_upd h2 hD⟩⟩
theorem Ts.snoc {H : Hp} {vs : List V} {L : List (List Int)} {a : Addr} {l : List Int} (t : Ts K H vs L) (h : SqT K H a (iv l)) : Ts K H (vs ++ [.ref a]) (L ++ [l]) := by
  refine ⟨by rw [List.length_append, List.length_append, t.1]; rfl, fun i m hm => ?_⟩
  rcases Nat.lt_or_ge i L.length with z | z
  · rw [List.getElem?_append_left z] at hm
    obtain ⟨b, h1, h2⟩ := t.2 i m hm
    exact ⟨b, by rw [List.getElem?_append_left (by rw [t.1]; exact z)]; exact h1, h2⟩
  · rw [List.getElem?_append_right z] at hm
    have e : i - L.length = 0 := by
      rcases Nat.eq_zero_or_pos (i - L.length) with q | q
      · exact q
      · obtain ⟨j, hj⟩ : ∃ j, i - L.length = j + 1 := ⟨i - L.length - 1, by omega⟩
        rw [hj] at hm
        cases hm
    rw [e] at hm
    have em : l = m := Option.some.inj hm
    subst em
    refine ⟨a, ?_, h⟩
    rw [List.getElem?_append_right (by rw [t.1]; exact z), t.1, e]
    rfl
theorem Ts.app {H : Hp} {vs ws : List V} {L M : List (List Int)} (t : Ts K H vs L) (u : Ts K H ws M) : Ts K H (vs ++ ws) (L ++ M) := by
  refine ⟨by rw [List.length_append, List.length_append, t.1, u.1], fun i m hm => ?_⟩
  rcases Nat.lt_or_ge i L.length with z | z
  · rw [List.getElem?_append_left z] at hm
    obtain ⟨b, h1, h2⟩ := t.2 i m hm
    exact ⟨b, by rw [List.getElem?_append_left (by rw [t.1]; exact z)]; exact h1, h2⟩
  · rw [List.getElem?_append_right z] at hm
    obtain ⟨b, h1, h2⟩ := u.2 _ m hm
    exact ⟨b, by rw [List.getElem?_append_right (by rw [t.1]; exact z), t.1]; exact h1, h2⟩
theorem Ts.at {H : Hp} {vs : List V} {L : List (List Int)} {i : Nat} {x : V} (t : Ts K H vs L) (h : vs[i]? = some x) : ∃ a l, x = .ref a ∧ L[i]? = some l ∧ SqT K H a (iv l) := by
  have hi : i < L.length := by
    rw [← t.1]
    exact (List.getElem?_eq_some_iff.mp h).1
  obtain ⟨a, h1, h2⟩ := t.2 i _ (List.getElem?_eq_getElem hi)
  rw [h] at h1
  exact ⟨a, _, Option.some.inj h1, List.getElem?_eq_getElem hi, h2⟩
abbrev sStates : Stmt := top 66
abbrev nSt : List Str := ["_law_size", "_law_top", "_law_found", "_law_number", "_law_row"]
theorem scStates : FnScope nSt ["_law_size", "_law_top"] (defScope sStates) := ⟨rfl, rfl, rfl, by decide +kernel, rfl, by decide +kernel, by decide +kernel⟩
def spStates (K : PySem.W.Frag) : Sp := fun vs H Q _ => ∃ size tp : Nat, vs = [.int size, .int tp] ∧ tp ≤ 10 ∧ ∀ H' p ws, Same H H' → H' p = some (.lst ws) → Ts K H' ws (sts size tp) → Q (.ref p) H'
theorem pow_le10 {k : Nat} (h : k ≤ 10) : 2 ^ k ≤ 1024 := Nat.pow_le_pow_right (n := 2) (by decide) h
theorem ok_states (B : Bi mg) (D : DefIn K mg "_law_states" "_law_states" sStates ["_law_size", "_law_top"]) : Cal P w K mg base 1 "_law_states" ["_law_size", "_law_top"] (spStates K) := by
  refine D.cal fun f fd F => F.ok scStates (fun vs H Q E h => ?_) (fun cdv A outer s H vs Q E hr h => ?_)
  · obtain ⟨a, b, rfl, _⟩ := h
    rfl
  · obtain ⟨size, tp, rfl, htp, q⟩ := h
    refine ⟨_, pss_cons (ps_set (i := 2) scStates.nd rfl (.inl rfl) (pe_lst (pa_cons (pe_tup pa_nil) pa_nil)))
      (pss_cons (ps_for PassesOwn.never rfl (pi_range1 (by rfl) B.range (pa_cons (pv 1) pa_nil)) (pg_name (i := 3) scStates.nd rfl (.inr rfl))
        (pss_one (ps_set (i := 2) scStates.nd rfl (.inl rfl) (pe_op op_cat (pv 2)
          (pe_lc (own := [("_law_row", 4)]) (g := gName 4) (tt := tYes) rfl scStates.nd (pi_list (pv 2)) (blkOk_by (own := [("_law_row", 4)]) (N := nSt) (sc := defScope sStates) (by decide +kernel))
            (fun _ _ _ _ _ => pg_name (i := 4) scStates.nd rfl (Or.inl rfl)) (fun _ _ _ _ _ => pts_nil) (fun _ _ _ _ _ => (show PE _ _ (tOp (rCatA K) (tVar 4) (tTup (tCons (tVar 3) tNil))) from pe_op op_catA (pv 4) (pe_tup (pa_cons (pv 3) pa_nil)))))))))
      (pss_one (ps_ret (pe_lc (own := [("_law_row", 4)]) (g := gName 4) rfl scStates.nd (pi_list (pv 2)) (blkOk_by (own := [("_law_row", 4)]) (N := nSt) (sc := defScope sStates) (by decide +kernel))
            (fun _ _ _ _ _ => pg_name (i := 4) scStates.nd rfl (Or.inl rfl)) (fun _ _ _ _ _ => pts_one (show PT _ _ (tTest (tOp rEq (tCB (fun xs H Q => ∃ p ys, xs = [V.ref p] ∧ (SqL K H p ys ∨ SqT K H p ys) ∧ Q (V.int ys.length) H) (tCons (tVar 4) tNil)) (tVar 0))) from
              pt_cmpR op_eq (pe_callB call_len_seq (by rfl) B.len PySem.boot_len (pa_cons (pv 4) pa_nil)) (pv 0) (nomark _))) (fun _ _ _ _ _ => pv 4))))), ?_⟩
    refine ⟨(by show 0 ≤ sizeLine; decide), fun pE nE => ⟨(by show 1 ≤ sizeLine; decide), fun pF nF => ?_⟩⟩
    have gE := same_new (o := .lst [.ref pE]) nF _ _ (upd_same (H := H) (a := pE) (o := .tup []))
    have s0 := (same_new (o := .tup []) nE).trans (same_new (o := .lst [.ref pE]) nF)
    have gF : (upd (upd H pE (.tup [])) pF (.lst [.ref pE])) pF = some (.lst [.ref pE]) := upd_same
    have t0 : Ts K (upd (upd H pE (.tup [])) pF (.lst [.ref pE])) [.ref pE] (stsM 0) := Ts.snoc (l := []) Ts.nil (SqT.of gE)
    generalize upd (upd H pE (.tup [])) pF (.lst [.ref pE]) = H1 at s0 gF t0
    refine ⟨.int tp, rfl, (tp : Int), rfl, by omega, by omega, ?_⟩
    refine for_range (lo := 0) (n := (tp : Int).toNat) (fun k σ H' => ∃ (pF : Addr) (ws : List V) (v3 v4 : Option V), σ = [some (.int size), some (.int tp), some (.ref pF), v3, v4] ∧ H' pF = some (.lst ws) ∧ Ts K H' ws (stsM k) ∧ Same H H')
      ⟨pF, _, none, none, rfl, gF, t0, s0⟩ (fun k σ H' hk h => ?_) (fun σ H' h => ?_)
    · obtain ⟨pF, ws, v3, v4, rfl, gF, tt, s1⟩ := h
      rw [Int.zero_add]
      have hk10 : k < 10 := by omega
      have hp2 := pow_le10 (k := k) (by omega)
      have hlw : ws.length = 2 ^ k := by rw [tt.1, stsM_len]
      refine ⟨.ref pF, rfl, .ref pF, rfl, pF, rfl, ⟨_, SqL.of gF⟩, fun D1 hD1 => ?_⟩
      refine lc_list (K := K) (a := pF) (xs := ws) (fun i H3 => Same H' H3 ∧ ∃ acc, H3 D1 = some (.lst acc) ∧ acc.length = i ∧ Ts K H3 acc (((stsM k).take i).map fun l => l ++ [(k : Int)]))
        ⟨same_new hD1, [], upd_same, rfl, Ts.nil⟩ (fun i H3 _ h => SqL.of (h.1 _ _ gF)) (fun i x H3 hx h => ?_) (fun H3 h => ?_)
      · obtain ⟨s3, acc, gD, la, ta⟩ := h
        obtain ⟨a, l, rfl, hl, ha⟩ := tt.at hx
        have hi : i < 2 ^ k := by
          rw [← hlw]
          exact (List.getElem?_eq_some_iff.mp hx).1
        have ho := stsM_ok k l (List.mem_of_getElem? hl)
        refine ⟨rfl, .ref a, rfl, .int (k : Int), rfl, (by show 1 ≤ sizeLine; decide), fun pT nT => ?_⟩
        have gT : (upd H3 pT (.tup [.int (k : Int)])) pT = some (.tup (iv [(k : Int)])) := upd_same
        have sT : Same H3 (upd H3 pT (.tup [.int (k : Int)])) := same_new nT
        have ha' : SqT K (upd H3 pT (.tup [.int (k : Int)])) a (iv l) := Same.tup (s3.trans sT) ha
        generalize upd H3 pT (.tup [.int (k : Int)]) = H4 at gT sT ha'
        have fin : ∀ (pN : Addr) (H5 : Hp), Same H4 H5 → SqT K H5 pN (iv (l ++ [(k : Int)])) → ∃ acc, H5 D1 = some (.lst acc) ∧ acc.length < sizeLine ∧ (Same H' (upd H5 D1 (.lst (acc ++ [.ref pN]))) ∧ ∃ acc', (upd H5 D1 (.lst (acc ++ [.ref pN]))) D1 = some (.lst acc') ∧ acc'.length = i + 1 ∧
            Ts K (upd H5 D1 (.lst (acc ++ [.ref pN]))) acc' (((stsM k).take (i + 1)).map fun l => l ++ [(k : Int)])) := fun pN H5 s5 hN => by
          have gD5 := s5 _ _ (sT _ _ gD)
          refine ⟨acc, gD5, small (by omega), fun b o e => ?_, acc ++ [.ref pN], upd_same, by rw [List.length_append, la]; rfl, ?_⟩
          · rw [upd_ne (ne_of_none e hD1)]
            exact s5 _ _ (sT _ _ (s3 _ _ e))
          · rw [List.take_add_one, hl, List.map_append]
            exact ((ta.mono (sT.trans s5)).snoc hN).upd gD5
        refine ⟨a, pT, iv l, iv [(k : Int)], rfl, rfl, ha', SqT.of gT, smallLe (by rw [iv_len]; show l.length + 1 ≤ _; omega), fun z => ?_, fun _ z => (by cases z), fun _ _ p np => ?_⟩
        · have e : l = [] := by
            cases l with
            | nil => rfl
            | cons x r => cases z
          subst e
          exact fin pT H4 (Same.refl _) (SqT.of gT)
        · exact fin p _ (same_new np) (SqT.of (by rw [upd_same]; simp))
      · obtain ⟨s3, acc, gD, la, ta⟩ := h
        have e : ((stsM k).take ws.length).map (fun l => l ++ [(k : Int)]) = (stsM k).map fun l => l ++ [(k : Int)] := by rw [tt.1, List.take_length]
        rw [e] at ta
        refine ⟨pF, D1, ws, acc, rfl, rfl, s3 _ _ gF, gD, smallLe (by omega), fun p np => ?_⟩
        exact ⟨p, ws ++ acc, _, _, rfl, upd_same, ((tt.mono s3).app ta).mono (same_new np), (s1.trans s3).trans (same_new np)⟩
    · obtain ⟨pF, ws, v3, v4, rfl, gF, tt, s1⟩ := h
      have e : (tp : Int).toNat = tp := by omega
      rw [e] at tt
      have hp2 := pow_le10 htp
      have hlw : ws.length = 2 ^ tp := by rw [tt.1, stsM_len]
      refine ⟨.ref pF, rfl, pF, rfl, ⟨_, SqL.of gF⟩, fun D1 hD1 => ?_⟩
      refine lc_list (K := K) (a := pF) (xs := ws) (fun i H3 => Same H' H3 ∧ ∃ acc, H3 D1 = some (.lst acc) ∧ acc.length ≤ i ∧ Ts K H3 acc (((stsM tp).take i).filter fun l => decide (l.length = size)))
        ⟨same_new hD1, [], upd_same, Nat.le_refl _, Ts.nil⟩ (fun i H3 _ h => SqL.of (h.1 _ _ gF)) (fun i x H3 hx h => ?_) (fun H3 h => ?_)
      · obtain ⟨s3, acc, gD, la, ta⟩ := h
        obtain ⟨a, l, rfl, hl, ha⟩ := tt.at hx
        have hi : i < 2 ^ tp := by
          rw [← hlw]
          exact (List.getElem?_eq_some_iff.mp hx).1
        refine ⟨rfl, .ref a, rfl, a, iv l, rfl, .inr (Same.tup s3 ha), .int size, rfl, rfl, _, rfl, ite2 (fun e => ?_) (fun e => ?_)⟩
        · have e : l.length = size := by
            have := V.int.inj (of_decide_eq_true e)
            rw [iv_len] at this
            omega
          refine ⟨.ref a, rfl, acc, gD, small (by omega), fun b o e => ?_, acc ++ [.ref a], upd_same, by rw [List.length_append]; show acc.length + 1 ≤ _; omega, ?_⟩
          · rw [upd_ne (ne_of_none e hD1)]
            exact s3 _ _ e
          · rw [List.take_add_one, hl, List.filter_append]
            have e2 : ((some l).toList.filter fun l => decide (l.length = size)) = [l] := by simp [e]
            rw [e2]
            exact (ta.snoc (Same.tup s3 ha)).upd gD
        · have e : ¬ l.length = size := fun z => e (decide_eq_true (by rw [iv_len, z]))
          refine ⟨s3, acc, gD, by omega, ?_⟩
          rw [List.take_add_one, hl, List.filter_append]
          have e2 : ((some l).toList.filter fun l => decide (l.length = size)) = [] := by simp [e]
          rw [e2, List.append_nil]
          exact ta
      · obtain ⟨s3, acc, gD, la, ta⟩ := h
        rw [tt.1, List.take_length] at ta
        exact q H3 D1 acc (s1.trans s3) gD ta
end
end Bw

/-! the law: tables_right -/
namespace Bw
open PySem PySem.Spec PyProof.Rows L2
section
variable {P : Program} {w : World} {K : PySem.W.Frag} {mg : Str → Option Value} {base : Heap}
abbrev sTables : Stmt := top 67
abbrev nTb : List Str := ["_law_size", "_law_length", "_law_one"]
theorem scTables : FnScope nTb ["_law_size", "_law_length"] (defScope sTables) := ⟨rfl, rfl, rfl, by decide +kernel, rfl, by decide +kernel, by decide +kernel⟩
def spTables : Sp := fun vs H Q _ => ∃ size len : Nat, vs = [.int size, .int len] ∧ (size, len) ∈ pairs ∧ ∀ H', Same H H' → Q (.bl true) H'
theorem ok_tables (B : Bi mg) (D : DefIn K mg "_law_tables_right" "_law_tables_right" sTables ["_law_size", "_law_length"]) (C1 : Cal P w K mg base 1 "_law_states" ["_law_size", "_law_top"] (spStates K))
    (C2 : Cal P w K mg base 6 "ways" ["one", "other", "ticks"] (spManyWays K)) (C3 : Cal P w K mg base 4 "many" ["length", "held"] spManyC) : Cal P w K mg base 7 "_law_tables_right" ["_law_size", "_law_length"] spTables := by
  refine D.cal fun f fd F => F.ok scTables (fun vs H Q E h => ?_) (fun cdv A outer s H vs Q E hr h => ?_)
  · obtain ⟨a, b, rfl, _⟩ := h
    rfl
  · obtain ⟨size, len, rfl, hp, q⟩ := h
    refine ⟨_, pss_one (ps_ret (pe_cmpR op_eq (pe_callB (cr_sum rfl) (by rfl) B.sum (by decide +kernel) (pa_cons
        (pe_lc (own := [("_law_one", 2)]) (g := gName 2) (tt := tYes) rfl scTables.nd (pi_list (pe_cal C1 (hr.mono (by decide)) (pa_cons (pv 0) (pa_cons (pe_op op_mul (pv 0) (pv 1)) pa_nil)))) (blkOk_by (own := [("_law_one", 2)]) (N := nTb) (sc := defScope sTables) (by decide +kernel))
          (fun _ _ _ _ _ => pg_name (i := 2) scTables.nd rfl (Or.inl rfl)) (fun _ _ _ _ _ => pts_nil) (fun _ _ _ _ _ => pe_cal C2 hr (pa_cons (pv 2) (pa_cons (pv 2) (pa_cons (pv 1) pa_nil))))) pa_nil))
        (pe_cal C3 (hr.mono (by decide)) (pa_cons (pv 1) (pa_cons (pv 0) pa_nil))) (nomark _))), ?_⟩
    obtain ⟨hsum, h10, hl1, hl5, hs3⟩ := pairs_ok _ hp
    dsimp only at hsum h10 hl1 hl5 hs3
    refine ⟨_, rfl, _, rfl, _, rfl, _, _, rfl, rfl, .inr (by omega), size, size * len, ?_, h10, fun H1 p ws s1 gp tt => ?_⟩
    · show [V.int size, .int ((size : Int) * (len : Int))] = _
      rw [← Int.natCast_mul]
    refine ⟨p, rfl, ⟨_, SqL.of gp⟩, fun D1 hD1 => ?_⟩
    have hz : (sts size (size * len)).length ≤ 1024 := by
      refine Nat.le_trans (List.length_filter_le _ _) ?_
      rw [stsM_len]
      exact pow_le10 h10
    refine lc_list (K := K) (a := p) (xs := ws) (fun i H3 => Same H1 H3 ∧ H3 D1 = some (.lst (iv (((sts size (size * len)).take i).map fun l => wN l l len))))
      ⟨same_new hD1, upd_same⟩ (fun i H3 _ h => SqL.of (h.1 _ _ gp)) (fun i x H3 hx h => ?_) (fun H3 h => ?_)
    · obtain ⟨s3, gD⟩ := h
      obtain ⟨a, l, rfl, hl, ha⟩ := tt.at hx
      obtain ⟨hst, hlen⟩ := sts_st h10 (List.mem_of_getElem? hl)
      have ha' := Same.tup s3 ha
      refine ⟨rfl, .ref a, rfl, .ref a, rfl, .int len, rfl, a, a, l, l, len, rfl, ⟨ha', ha', hst, hst, hlen, hlen⟩, by omega, fun H4 s4 => ?_⟩
      refine ⟨_, s4 _ _ gD, small ?_, fun b o e => ?_, ?_⟩
      · rw [iv_len, List.length_map, List.length_take]
        omega
      · rw [upd_ne (ne_of_none e hD1)]
        exact s4 _ _ (s3 _ _ e)
      · rw [upd_same, List.take_add_one, hl]
        simp
    · obtain ⟨s3, gD⟩ := h
      rw [tt.1, List.take_length] at gD
      refine ⟨D1, _, rfl, SqL.of gD, .int len, rfl, .int size, rfl, len, size, rfl, hl1, by omega, by omega, by omega, rfl, ?_⟩
      rw [hsum, decide_eq_true rfl]
      exact q H3 (s1.trans s3)
end
end Bw

/-! the law: law -/
namespace Bw
open PySem PySem.Spec PyProof.Rows L2
theorem rg_st {n : Nat} (h : n ≤ 60) : IsSt 59 (rg n) := ⟨rg_asc n, fun x hx => (mem_rg.mp hx).1, fun x hx => by have := (mem_rg.mp hx).2; omega⟩
theorem tail_st {t : Int} {L : List Int} (h : IsSt t L) : IsSt t L.tail := ⟨h.asc.sublist (List.tail_sublist L), fun x hx => h.lo x (List.mem_of_mem_tail hx), fun x hx => h.hi x (List.mem_of_mem_tail hx)⟩
theorem tLst_via {t : TA} {σ : L2.St} {H : Hp} {Q : VK} (R : VK → Prop) (h : ∀ Q', R Q' → tLst t σ H Q') (k : R Q) : tLst t σ H Q := h _ k
theorem tFor_via {K : PySem.W.Frag} {te : TE} {g : TG} {tb : TS} {D : Ends} {σ : L2.St} {H : Hp} (R : VK → Prop) (h : ∀ Q', R Q' → te σ H Q')
    (k : R (fun x H1 => ∃ a, x = .ref a ∧ (∃ xs, SqL K H1 a xs) ∧ ∃ W : Nat → Nat → L2.St → Hp → Prop, (∃ m, W 0 m σ H1) ∧ ∀ i m σ H, W i m σ H → ((Itl K a).stop i H ∧ D.nx σ H) ∨ ((Itl K a).go i H ∧ ∃ N : L2.St → Hp → Prop, (∀ σ' H', N σ' H' → ∃ m', m' < m ∧ W (i + 1) m' σ' H') ∧
      ∀ x H', (Itl K a).yld i H x H' → g x σ H' fun σ2 H2 => tb { D with nx := N, ct := N, bk := D.nx } σ2 H2))) : tFor (iList K te) g tb D σ H := h _ k
/-- the values are the tuples of these pairs -/
def Pr (H : Hp) (xs : List V) : Prop := ∀ (i : Nat) (x : V), xs[i]? = some x → ∃ (a : Addr) (s l : Nat), x = .ref a ∧ H a = some (.tup [.int (s : Int), .int (l : Int)]) ∧ (s, l) ∈ pairs
theorem Pr.nil {H : Hp} : Pr H [] := fun i x h => by cases h
theorem Pr.mono {H H' : Hp} {xs : List V} (h : Pr H xs) (s : Same H H') : Pr H' xs := fun i x hx => by
  obtain ⟨a, m, l, e, g, z⟩ := h i x hx
  exact ⟨a, m, l, e, s _ _ g, z⟩
theorem Pr.cons {H : Hp} {xs : List V} {a : Addr} {s l : Nat} (h : Pr H xs) (g : H a = some (.tup [.int (s : Int), .int (l : Int)])) (z : (s, l) ∈ pairs) : Pr H (.ref a :: xs) := fun i x hx => by
  cases i with
  | zero => exact ⟨a, s, l, (Option.some.inj hx).symm, g, z⟩
  | succ i => exact h i x hx
theorem Sb.same {p : Addr} {H0 H1 H2 : Hp} (s : Same H0 H1) (n : H0 p = none) (b : Sb p H1 H2) : Same H0 H2 := fun c o e => b c o (ne_of_none e n) (s c o e)
section
variable {P : Program} {w : World} {K : PySem.W.Frag} {mg : Str → Option Value} {base : Heap}
abbrev sLaw : Stmt := top 68
abbrev nLaw : List Str := ["_law_script", "_law_size", "_law_length", "_law_k", "_law_pen_here", "_law_turn", "_law_top", "_law_one", "_law_two"]
theorem scLaw : FnScope nLaw ["_law_script"] (defScope sLaw) := ⟨rfl, rfl, rfl, by decide +kernel, rfl, by decide +kernel, by decide +kernel⟩
def spLaw (K : PySem.W.Frag) : Sp := fun vs H Q _ => ∃ a ns, vs = [.ref a] ∧ SqL K H a (iv ns) ∧ ns.length ≤ 1000 ∧ ∀ H', Q (.bl true) H'
theorem ok_law {f : Addr} {fd : FuncData} (B : Bi mg) (F : Fun K "law" "law" sLaw f fd)
    (C1 : Cal P w K mg base 7 "_law_tables_right" ["_law_size", "_law_length"] spTables) (C2 : Cal P w K mg base 1 "_law_cell_at" ["_law_script", "_law_k"] (spCellAt K)) (C3 : Cal P w K mg base 1 "_law_pen" ["_law_cell"] spPen)
    (C4 : Cal P w K mg base 1 "_law_draw" ["_law_pen_here", "_law_amount"] spDraw) (C5 : Cal P w K mg base 2 "_law_pick" ["_law_pen_here", "_law_some"] spPick)
    (C6 : Cal P w K mg base 2 "_law_drawn_state" ["_law_pen_here", "_law_size", "_law_top"] spDrawn) (C7 : Cal P w K mg base 7 "_law_least_right" ["_law_one", "_law_two"] (spLeastRight K)) (C8 : Cal P w K mg base 3 "ground" ["many"] spGround)
    (C9 : Cal P w K mg base 6 "least_ticks" ["one", "other"] (spLeastTicks K)) (C10 : CalG P w K mg base 7 "_law_ways_right" ["_law_pen_here", "_law_one", "_law_two", "_law_length"] (spWaysRight K)) :
    FnG P w K mg base 8 f fd ["_law_script"] (spLaw K) := by
  refine FnG.mk' F scLaw (fun vs H Q E h => ?_) (fun cdv A outer s H vs Q E hr hgd h => ?_)
  · obtain ⟨a, ns, rfl, _⟩ := h
    rfl
  · obtain ⟨a, ns, rfl, hL, hns, q⟩ := h
    have hr1 := hr.mono (show 1 ≤ 7 by decide)
    have hr2 := hr.mono (show 2 ≤ 7 by decide)
    have hr3 := hr.mono (show 3 ≤ 7 by decide)
    have hr6 := hr.mono (show 6 ≤ 7 by decide)
    refine ⟨_, pss_cons (ps_for PassesOwn.never rfl (pi_list (pe_lst (pa_cons (pe_tup (pa_cons pe_int (pa_cons pe_int pa_nil))) (pa_cons (pe_tup (pa_cons pe_int (pa_cons pe_int pa_nil))) (pa_cons (pe_tup (pa_cons pe_int (pa_cons pe_int pa_nil)))
          (pa_cons (pe_tup (pa_cons pe_int (pa_cons pe_int pa_nil))) (pa_cons (pe_tup (pa_cons pe_int (pa_cons pe_int pa_nil))) (pa_cons (pe_tup (pa_cons pe_int (pa_cons pe_int pa_nil)))
          (pa_cons (pe_tup (pa_cons pe_int (pa_cons pe_int pa_nil))) (pa_cons (pe_tup (pa_cons pe_int (pa_cons pe_int pa_nil))) (pa_cons (pe_tup (pa_cons pe_int (pa_cons pe_int pa_nil))) pa_nil)))))))))))
        (pg_tup rfl (pgs_cons (pg_name (i := 1) scLaw.nd rfl (.inl rfl)) (pgs_cons (pg_name (i := 2) scLaw.nd rfl (.inl rfl)) pgs_nil)))
        (pss_one (ps_if (pt_not (pt_val (pe_cal C1 hr (pa_cons (pv 1) (pa_cons (pv 2) pa_nil))))) pss_never pss_nil)))
      (pss_cons (ps_for PassesOwn.never rfl (pi_range1 (by rfl) B.range (pa_cons (pe_callB (call_max2 rfl) (by rfl) B.max (by decide +kernel) (pa_cons pe_int (pa_cons (pe_callB (call_min2 rfl) (by rfl) B.min (by decide +kernel) (pa_cons (pe_callB call_len_seq (by rfl) B.len PySem.boot_len (pa_cons (pv 0) pa_nil)) (pa_cons pe_int pa_nil))) pa_nil))) pa_nil))
        (pg_name (i := 3) scLaw.nd rfl (.inl rfl))
        (pss_cons (ps_set (i := 4) scLaw.nd rfl (.inl rfl) (pe_cal C3 hr1 (pa_cons (pe_cal C2 hr1 (pa_cons (pv 0) (pa_cons (pv 3) pa_nil))) pa_nil)))
        (pss_one (ps_for PassesOwn.never rfl (pi_range1 (by rfl) B.range (pa_cons pe_int pa_nil)) (pg_name (i := 5) scLaw.nd rfl (.inl rfl))
          (pss_cons (ps_par (i := 1) (j := 6) (by rfl) scLaw.nd rfl rfl (by decide) rfl rfl (pa_cons (pe_op op_add pe_int (pe_cal C4 hr1 (pa_cons (pv 4) (pa_cons pe_int pa_nil)))) (pa_cons (pe_cal C5 hr2 (pa_cons (pv 4) (pa_cons (pe_lst (pa_cons pe_int (pa_cons pe_int (pa_cons pe_int pa_nil)))) pa_nil))) pa_nil)) (by rfl))
          (pss_cons (ps_par (i := 7) (j := 8) (by rfl) scLaw.nd rfl rfl (by decide) rfl rfl (pa_cons (pe_cal C6 hr2 (pa_cons (pv 4) (pa_cons (pv 1) (pa_cons (pv 6) pa_nil)))) (pa_cons (pe_cal C6 hr2 (pa_cons (pv 4) (pa_cons (pv 1) (pa_cons (pv 6) pa_nil)))) pa_nil)) (by rfl))
          (pss_cons (ps_if (PW.pt (pw_or (pt_not (pt_val (pe_cal C7 hr (pa_cons (pv 7) (pa_cons (pv 8) pa_nil))))) (pw_or1 (pt_not (pt_val (pe_cal C7 hr (pa_cons (pv 7) (pa_cons (pe_cal C8 hr3 (pa_cons (pv 1) pa_nil)) pa_nil)))))))) pss_never pss_nil)
          (pss_cons (ps_for PassesOwn.never rfl (pi_list (pe_lst (pa_cons pe_int (pa_cons pe_int (pa_cons (pe_op op_add pe_int (pe_cal C4 hr1 (pa_cons (pv 4) (pa_cons pe_int pa_nil))))
                (pa_cons (pe_callB (call_min2 rfl) (by rfl) B.min (by decide +kernel) (pa_cons pe_int (pa_cons (pe_cal C9 hr6 (pa_cons (pv 7) (pa_cons (pv 8) pa_nil))) pa_nil))) pa_nil)))))) (pg_name (i := 2) scLaw.nd rfl (.inl rfl))
              (pss_one (ps_if (PW.pt (pw_or (pt_not (pt_val (pe_calG C10 hr hgd (pa_cons (pv 4) (pa_cons (pv 7) (pa_cons (pv 8) (pa_cons (pv 2) pa_nil))))))) (pw_or1 (pt_not (pt_val (pe_calG C10 hr hgd (pa_cons (pv 4) (pa_cons (pv 7) (pa_cons (pv 7) (pa_cons (pv 2) pa_nil)))))))))) pss_never pss_nil)))
          (pss_cons (ps_if (PW.pt (pw_and (pt_cmpR op_eq (pv 5) pe_int (nomark _)) (pw_and1 (pt_not (pt_val (pe_calG C10 hr hgd (pa_cons (pv 4) (pa_cons (pv 7) (pa_cons (pv 8) (pa_cons (pe_op op_add pe_int (pe_cal C4 hr1 (pa_cons (pv 4) (pa_cons pe_int pa_nil)))) pa_nil)))))))))) pss_never pss_nil)
          (pss_one (ps_if (pt_not (pt_val (pe_calG C10 hr hgd (pa_cons (pv 4) (pa_cons (pv 7) (pa_cons (pe_slice sl_tupA (pv 8) (po_some pe_int) po_none) (pa_cons pe_int pa_nil))))))) pss_never pss_nil)))))))))))
      (pss_one (ps_ret pe_bl))), ?_⟩
    have h2 : 2 ≤ sizeLine := by decide
    -- the pairs
    dsimp only [tSeq]
    refine tFor_via (fun Q' => ∀ (pL : Addr) (xs : List V) (H1 : Hp), Same H H1 → Pr H1 xs → H1 pL = some (.lst xs) → Q' (.ref pL) H1) (fun Q' q' => ?_) (fun pL xs H1 s1 hP gL => ⟨pL, rfl, ⟨_, SqL.of gL⟩, ?_⟩)
    · refine ⟨h2, fun p1 n1 => ⟨h2, fun p2 n2 => ⟨h2, fun p3 n3 => ⟨h2, fun p4 n4 => ⟨h2, fun p5 n5 => ⟨h2, fun p6 n6 => ⟨h2, fun p7 n7 => ⟨h2, fun p8 n8 => ⟨h2, fun p9 n9 => ⟨(by show 9 ≤ sizeLine; decide), fun pL nL => ?_⟩⟩⟩⟩⟩⟩⟩⟩⟩⟩
      have t9 := same_new (o := .lst [.ref p1, .ref p2, .ref p3, .ref p4, .ref p5, .ref p6, .ref p7, .ref p8, .ref p9]) nL
      have t8 := (same_new (o := .tup [.int 2, .int 4]) n9).trans t9
      have t7 := (same_new (o := .tup [.int 3, .int 3]) n8).trans t8
      have t6 := (same_new (o := .tup [.int 1, .int 5]) n7).trans t7
      have t5 := (same_new (o := .tup [.int 2, .int 3]) n6).trans t6
      have t4 := (same_new (o := .tup [.int 3, .int 2]) n5).trans t5
      have t3 := (same_new (o := .tup [.int 2, .int 2]) n4).trans t4
      have t2 := (same_new (o := .tup [.int 1, .int 2]) n3).trans t3
      have t1 := (same_new (o := .tup [.int 2, .int 1]) n2).trans t2
      have t0 := (same_new (o := .tup [.int 1, .int 1]) n1).trans t1
      refine q' pL [.ref p1, .ref p2, .ref p3, .ref p4, .ref p5, .ref p6, .ref p7, .ref p8, .ref p9] _ t0 ?_ upd_same
      exact Pr.cons (Pr.cons (Pr.cons (Pr.cons (Pr.cons (Pr.cons (Pr.cons (Pr.cons (Pr.cons Pr.nil (s := 2) (l := 4) (t9 _ _ upd_same) (by decide)) (s := 3) (l := 3) (t8 _ _ upd_same) (by decide)) (s := 1) (l := 5) (t7 _ _ upd_same) (by decide))
        (s := 2) (l := 3) (t6 _ _ upd_same) (by decide)) (s := 3) (l := 2) (t5 _ _ upd_same) (by decide)) (s := 2) (l := 2) (t4 _ _ upd_same) (by decide)) (s := 1) (l := 2) (t3 _ _ upd_same) (by decide)) (s := 2) (l := 1) (t2 _ _ upd_same) (by decide)) (s := 1) (l := 1) (t1 _ _ upd_same) (by decide)
    refine for_list (K := K) (a := pL) (xs := xs) (fun i σ H' => Same H1 H' ∧ ∃ v1 v2 : Option V, σ = [some (.ref a), v1, v2, none, none, none, none, none, none]) ⟨Same.refl _, none, none, rfl⟩ (fun i σ H' _ h => SqL.of (h.1 _ _ gL)) (fun i x σ H' hx h => ?_) (fun σ H' h => ?_)
    · obtain ⟨s2, v1, v2, rfl⟩ := h
      obtain ⟨T, sz, ln, rfl, gT, hmem⟩ := hP i x hx
      refine ⟨T, [.int sz, .int ln], rfl, SqT.of (s2 _ _ gT), rfl, _, [.int ln], rfl, _, [], rfl, rfl, ?_⟩
      exact ⟨.int sz, rfl, .int ln, rfl, sz, ln, rfl, hmem, fun H3 s3 => ⟨true, rfl, iteF ⟨s2.trans s3, _, _, rfl⟩⟩⟩
    obtain ⟨s2, v1, v2, rfl⟩ := h
    have s02 := s1.trans s2
    -- the cells
    refine ⟨.ref a, rfl, a, iv ns, rfl, .inl (s02.seq hL), _, _, rfl, _, _, rfl, ?_⟩
    obtain ⟨M, hM⟩ : ∃ M : Int, M = (if (if (3 : Int) < ((iv ns).length : Int) then 3 else ((iv ns).length : Int)) > 1 then (if (3 : Int) < ((iv ns).length : Int) then 3 else ((iv ns).length : Int)) else 1) := ⟨_, rfl⟩
    have hM3 : 0 ≤ M ∧ M ≤ 3 := by
      rw [hM]
      constructor <;> (repeat' split) <;> omega
    refine ⟨M, by rw [hM], by omega, by omega, ?_⟩
    clear hM
    refine for_range (lo := 0) (n := M.toNat) (fun k σ H' => ∃ v1 v2 v3 v4 v5 v6 v7 v8 : Option V, σ = [some (.ref a), v1, v2, v3, v4, v5, v6, v7, v8] ∧ Same H H')
      ⟨v1, v2, none, none, none, none, none, none, rfl, s02⟩ (fun k σ H1 hk h => ?_) (fun σ H1 h => q _)
    obtain ⟨v1, v2, v3, v4, v5, v6, v7, v8, rfl, s1⟩ := h
    rw [Int.zero_add]
    refine ⟨.ref a, rfl, .int (k : Int), rfl, a, ns, k, rfl, s1.seq hL, fun c => ⟨c, rfl, fun H2 p s2 np hp => ?_⟩⟩
    have np0 : H p = none := s1.free np
    have sH2 : Same H H2 := s1.trans s2
    -- the turns
    refine ⟨(3 : Int), rfl, by decide, by decide, ?_⟩
    refine for_range (lo := 0) (n := (3 : Int).toNat) (fun j σ H' => ∃ v1 v2 v5 v6 v7 v8 : Option V, σ = [some (.ref a), v1, v2, some (.int (k : Int)), some (.ref p), v5, v6, v7, v8] ∧ Sb p H2 H' ∧ PenAt H' p)
      ⟨v1, v2, v5, v6, v7, v8, rfl, Sb.refl _ _, hp⟩ (fun j σ H3 hj h => ?_) (fun σ H3 h => ?_)
    · obtain ⟨v1, v2, v5, v6, v7, v8, rfl, sb3, hp3⟩ := h
      rw [Int.zero_add]
      -- size, top
      refine ⟨.ref p, rfl, p, 8, rfl, hp3, by decide, by decide, fun d H4 sb4 hp4 d0 d1 => ?_⟩
      refine ⟨_, _, rfl, rfl, .ref p, rfl, (by show 3 ≤ sizeLine; decide), fun pl nl => ?_⟩
      have gl : (upd H4 pl (.lst [.int 10, .int 20, .int 60])) pl = some (.lst (iv [10, 20, 60])) := upd_same
      have sl : Same H4 (upd H4 pl (.lst [.int 10, .int 20, .int 60])) := same_new nl
      have nlp : pl ≠ p := fun z => by
        obtain ⟨_, _, _, e, _⟩ := hp4
        rw [z, e] at nl
        cases nl
      generalize upd H4 pl (.lst [.int 10, .int 20, .int 60]) = H5 at gl sl
      refine ⟨p, pl, [10, 20, 60], rfl, Same.pen sl hp4, gl, nlp, by decide, by decide, fun x H6 sb6 hp6 hx => ?_⟩
      have sb36 : Sb p H3 H6 := sb4.trans ((Same.sb sl).trans sb6)
      obtain ⟨n, hn⟩ : ∃ n : Nat, 1 + d = (n : Int) := ⟨(1 + d).toNat, by omega⟩
      obtain ⟨tp, htp, hx10, hx60⟩ : ∃ tp : Nat, x = (tp : Int) ∧ 10 ≤ tp ∧ tp ≤ 60 := by
        simp only [List.mem_cons, List.not_mem_nil, or_false] at hx
        rcases hx with rfl | rfl | rfl
        · exact ⟨10, rfl, by decide, by decide⟩
        · exact ⟨20, rfl, by decide, by decide⟩
        · exact ⟨60, rfl, by decide, by decide⟩
      refine ⟨.int (n : Int), .int (tp : Int), (by show [V.int (1 + d), V.int x] = _; rw [hn, htp]), ?_⟩
      -- one, two
      refine ⟨.ref p, rfl, .int n, rfl, .int tp, rfl, p, n, tp, rfl, hp6, by omega, by omega, fun L1 H7 r1 sb7 hp7 nr1 gr1 st1 len1 => ?_⟩
      refine ⟨.ref p, rfl, .int n, rfl, .int tp, rfl, p, n, tp, rfl, hp7, by omega, by omega, fun L2 H8 r2 sb8 hp8 nr2 gr2 st2 len2 => ?_⟩
      refine ⟨.ref r1, .ref r2, rfl, ?_⟩
      have st1 : IsSt 59 L1 := st1.up (by omega)
      have st2 : IsSt 59 L2 := st2.up (by omega)
      have T1 : SqT K H8 r1 (iv L1) := sb8.tup hp7 (SqT.of gr1)
      have T2 : SqT K H8 r2 (iv L2) := SqT.of gr2
      have sb38 : Sb p H3 H8 := sb36.trans (sb7.trans sb8)
      have sb28 : Sb p H2 H8 := sb3.trans sb38
      -- the least ticks
      refine ⟨.ref r1, rfl, .ref r2, rfl, r1, r2, L1, L2, rfl, T1, T2, st1, st2, by omega, by omega, by omega, fun H9 s9 => ⟨true, rfl, iteF ?_⟩⟩
      refine ⟨.ref r1, rfl, .int n, rfl, n, rfl, by omega, fun H10 pg s10 ng gg => ?_⟩
      refine ⟨r1, pg, L1, rg n, rfl, Same.tup (s9.trans s10) T1, SqT.of gg, st1, rg_st (by omega), by rw [rg_length, len1], by omega, by omega, fun H11 s11 => ⟨true, rfl, iteF ?_⟩⟩
      have s811 := (s9.trans s10).trans s11
      have hp11 := Same.pen s811 hp8
      have T1 := Same.tup s811 T1
      have T2 := Same.tup s811 T2
      have sb211 : Sb p H2 H11 := sb28.trans (Same.sb s811)
      have tw : Two K H11 r1 r2 L1 L2 := ⟨T1, T2, st1.up (by decide), st2.up (by decide), by omega, by omega⟩
      have h60 : Rch L1 L2 60 := rch_at st1 (by omega) (by decide)
      -- the lengths
      dsimp only [tNext, tSeq]
      refine tFor_via (fun Q' => ∀ (pL : Addr) (ls : List Int) (H12 : Hp), Sb p H11 H12 → PenAt H12 p → H12 pL = some (.lst (iv ls)) → pL ≠ p → (∀ v ∈ ls, 0 ≤ v ∧ v ≤ 60) → Q' (.ref pL) H12) (fun Q' q' => ?_) (fun pL ls H12 sb12 hp12 gL neL hls => ⟨pL, rfl, ⟨_, SqL.of gL⟩, ?_⟩)
      · refine ⟨.ref p, rfl, p, 10, rfl, hp11, by decide, by decide, fun d2 H12 sb12 hp12 e0 e1 => ⟨_, _, rfl, rfl, ?_⟩⟩
        have T1' := sb12.tup hp11 T1
        have T2' := sb12.tup hp11 T2
        refine ⟨.ref r1, rfl, .ref r2, rfl, r1, r2, L1, L2, rfl, ⟨T1', T2', tw.s1, tw.s2, tw.l1, tw.l2⟩, h60, fun t H13 s13 hLst => ?_⟩
        refine ⟨_, _, rfl, (by show 4 ≤ sizeLine; decide), fun pL nL => ?_⟩
        have sN := s13.trans (same_new (o := .lst (iv [0, 1, 2 + d2, (if (t : Int) < 12 then (t : Int) else 12)])) nL)
        refine q' pL [0, 1, 2 + d2, (if (t : Int) < 12 then (t : Int) else 12)] _ (sb12.trans (Same.sb sN)) (Same.pen sN hp12) upd_same (fun z => ?_) (fun v hv => ?_)
        · obtain ⟨_, _, _, e, _⟩ := Same.pen s13 hp12
          rw [z, e] at nL
          cases nL
        · simp only [List.mem_cons, List.not_mem_nil, or_false] at hv
          rcases hv with rfl | rfl | rfl | rfl
          · omega
          · omega
          · omega
          · split <;> omega
      refine for_list (K := K) (a := pL) (xs := iv ls) (fun i σ H' => ∃ v2 : Option V, σ = [some (.ref a), some (.int n), v2, some (.int (k : Int)), some (.ref p), some (.int (j : Int)), some (.int tp), some (.ref r1), some (.ref r2)] ∧ Sb p H12 H' ∧ PenAt H' p)
        ⟨_, rfl, Sb.refl _ _, hp12⟩ (fun i σ H' _ h => ?_) (fun i z σ H' hz h => ?_) (fun σ H' h => ?_)
      · obtain ⟨_, _, sb, _⟩ := h
        exact SqL.of (sb _ _ neL gL)
      · obtain ⟨v2, rfl, sb13, hp13⟩ := h
        obtain ⟨v, hv, rfl⟩ := iv_get hz
        obtain ⟨v0, v1⟩ := hls v (List.mem_of_getElem? hv)
        obtain ⟨m, rfl⟩ : ∃ m : Nat, v = (m : Int) := ⟨v.toNat, by omega⟩
        have sb1113 := sb12.trans sb13
        refine ⟨.ref p, rfl, .ref r1, rfl, .ref r2, rfl, .int m, rfl, p, r1, r2, L1, L2, m, rfl, hp13, sb1113.tup hp11 T1, sb1113.tup hp11 T2, st1, st2, by omega, by omega, by omega, fun H14 sb14 hp14 => ⟨true, rfl, iteF ?_⟩⟩
        have sb1114 := sb1113.trans sb14
        refine ⟨.ref p, rfl, .ref r1, rfl, .ref r1, rfl, .int m, rfl, p, r1, r1, L1, L1, m, rfl, hp14, sb1114.tup hp11 T1, sb1114.tup hp11 T1, st1, st1, by omega, by omega, by omega, fun H15 sb15 hp15 => ⟨true, rfl, iteF ?_⟩⟩
        exact ⟨_, rfl, (sb13.trans sb14).trans sb15, hp15⟩
      · obtain ⟨v2, rfl, sb13, hp13⟩ := h
        have sb1113 := sb12.trans sb13
        have T1 := sb1113.tup hp11 T1
        have T2 := sb1113.tup hp11 T2
        -- the first turn
        dsimp only [tNext, tSeq, tIfS]
        refine tAnd_via (fun Q' => ∀ H14, Sb p H' H14 → PenAt H14 p → Q' false H14) (fun Q' q' => ?_) (fun H14 sb14 hp14 => ?_)
        · refine ⟨_, rfl, rfl, _, rfl, ite2 (fun e => ?_) (fun e => q' _ (Sb.refl _ _) hp13)⟩
          refine ⟨.ref p, rfl, .ref r1, rfl, .ref r2, rfl, .ref p, rfl, p, 41, rfl, hp13, by decide, by decide, fun d3 H14 sb14 hp14 e0 e1 => ?_⟩
          obtain ⟨m, hm⟩ : ∃ m : Nat, 20 + d3 = (m : Int) := ⟨(20 + d3).toNat, by omega⟩
          refine ⟨_, _, rfl, rfl, p, r1, r2, L1, L2, m, (by show [V.ref p, V.ref r1, V.ref r2, V.int (20 + d3)] = _; rw [hm]), hp14, sb14.tup hp13 T1, sb14.tup hp13 T2, st1, st2, by omega, by omega, by omega, fun H15 sb15 hp15 => ⟨true, rfl, ?_⟩⟩
          exact q' _ (sb14.trans sb15) hp15
        · refine iteF ?_
          -- one short
          refine ⟨.ref p, rfl, .ref r1, rfl, .ref r2, rfl, 1, rfl, ?_⟩
          delta tNoPart
          refine slice1 (sb14.tup hp13 T2) fun b H15 s15 hT => ?_
          refine ⟨p, r1, b, L1, L2.tail, 5, rfl, Same.pen s15 hp14, Same.tup s15 (sb14.tup hp13 T1), hT, st1, tail_st st2, by omega, by rw [List.length_tail]; omega, by omega, fun H16 sb16 hp16 => ⟨true, rfl, iteF ?_⟩⟩
          exact ⟨_, _, _, _, _, _, rfl, sb211.trans (sb1113.trans (sb14.trans ((Same.sb s15).trans sb16))), hp16⟩
    · obtain ⟨v1, v2, v5, v6, v7, v8, rfl, sb3, hp3⟩ := h
      exact ⟨_, _, _, _, _, _, _, _, rfl, Sb.same sH2 np0 sb3⟩
end
end Bw

/-! what the top has written; all defs together -/
namespace Bw
open PySem PySem.Spec PyProof.Rows L2
section
variable {K : PySem.W.Frag} {mg : Str → Option Value} {h : Heap}
theorem defIn_mk {glob x : Str} {st : Stmt} {ps : List Str} {f : Addr} {od an : Option Addr} {oc kV dc pm cd ct : Value} {sl : Array (Option Value)} (X : K.In h) (G : h.Ns mainGlobals mg)
    (a : PySem.W.nsIn K mainGlobals glob = some (some (.ref f))) (l : K.lookup f = some ⟨oc, od, .func (PySem.W.fnOf x x (defArgs st) (defBody st) (defScope st) .none kV dc pm an cd ct), sl⟩) (c : PySem.W.codeIn K cd x = true) (k : PySem.W.keepIn K (.ref f) = true)
    (hb : ∀ (kV doc pm : Value) (an : Option Addr) (cdv ct : Value) (us : List Value), us.length = ps.length → bindArgs (PySem.W.fnOf x x (defArgs st) (defBody st) (defScope st) .none kV doc pm an cdv ct) ⟨us, []⟩ = pure (ps.zip us)) : DefIn K mg glob x st ps := by
  have F := fun_mk l c k
  exact ⟨f, _, F, PySem.W.mg_of X G a, F.binds hb⟩
abbrev DefAt {K : PySem.W.Frag} {h : Heap} (_ : K.In h) (mg : Str → Option Value) (glob x : Str) (st : Stmt) (ps : List Str) : Prop := DefIn K mg glob x st ps
theorem kint_mk {x : Str} {n : Int} {t : Nat} (X : K.In h) (G : h.Ns mainGlobals mg) (a : PySem.W.nsIn K mainGlobals x = some (some (.int n t))) : KInt mg x n := ⟨.int n t, PySem.W.mg_of X G a, ⟨t, rfl⟩⟩
end

theorem b_is_integer (kV doc pm : Value) (an : Option Addr) (cdv ct : Value) (us : List Value) (hl : us.length = (["thing"] : List Str).length) : bindArgs (PySem.W.fnOf "is_integer" "is_integer" (defArgs sIsInteger) (defBody sIsInteger) (defScope sIsInteger) .none kV doc pm an cdv ct) ⟨us, []⟩ = pure ((["thing"] : List Str).zip us) :=
  match us, hl with
  | [_], _ => rfl
theorem b_is_between (kV doc pm : Value) (an : Option Addr) (cdv ct : Value) (us : List Value) (hl : us.length = (["thing", "low", "high"] : List Str).length) : bindArgs (PySem.W.fnOf "is_between" "is_between" (defArgs sIsBetween) (defBody sIsBetween) (defScope sIsBetween) .none kV doc pm an cdv ct) ⟨us, []⟩ = pure ((["thing", "low", "high"] : List Str).zip us) :=
  match us, hl with
  | [_, _, _], _ => rfl
theorem b_is_state (kV doc pm : Value) (an : Option Addr) (cdv ct : Value) (us : List Value) (hl : us.length = (["thing"] : List Str).length) : bindArgs (PySem.W.fnOf "is_state" "is_state" (defArgs sIsState) (defBody sIsState) (defScope sIsState) .none kV doc pm an cdv ct) ⟨us, []⟩ = pure ((["thing"] : List Str).zip us) :=
  match us, hl with
  | [_], _ => rfl
theorem b_need_state (kV doc pm : Value) (an : Option Addr) (cdv ct : Value) (us : List Value) (hl : us.length = (["state"] : List Str).length) : bindArgs (PySem.W.fnOf "need_state" "need_state" (defArgs sNeedState) (defBody sNeedState) (defScope sNeedState) .none kV doc pm an cdv ct) ⟨us, []⟩ = pure ((["state"] : List Str).zip us) :=
  match us, hl with
  | [_], _ => rfl
theorem b_is_row (kV doc pm : Value) (an : Option Addr) (cdv ct : Value) (us : List Value) (hl : us.length = (["thing", "most"] : List Str).length) : bindArgs (PySem.W.fnOf "is_row" "is_row" (defArgs sIsRow) (defBody sIsRow) (defScope sIsRow) .none kV doc pm an cdv ct) ⟨us, []⟩ = pure ((["thing", "most"] : List Str).zip us) :=
  match us, hl with
  | [_, _], _ => rfl
theorem b_may_be (kV doc pm : Value) (an : Option Addr) (cdv ct : Value) (us : List Value) (hl : us.length = (["state", "hold"] : List Str).length) : bindArgs (PySem.W.fnOf "may_be" "may_be" (defArgs sMayBe) (defBody sMayBe) (defScope sMayBe) .none kV doc pm an cdv ct) ⟨us, []⟩ = pure ((["state", "hold"] : List Str).zip us) :=
  match us, hl with
  | [_, _], _ => rfl
theorem b_behind (kV doc pm : Value) (an : Option Addr) (cdv ct : Value) (us : List Value) (hl : us.length = (["state", "hold"] : List Str).length) : bindArgs (PySem.W.fnOf "behind" "behind" (defArgs sBehind) (defBody sBehind) (defScope sBehind) .none kV doc pm an cdv ct) ⟨us, []⟩ = pure ((["state", "hold"] : List Str).zip us) :=
  match us, hl with
  | [_, _], _ => rfl
theorem b_led (kV doc pm : Value) (an : Option Addr) (cdv ct : Value) (us : List Value) (hl : us.length = (["state", "row"] : List Str).length) : bindArgs (PySem.W.fnOf "led" "led" (defArgs sLed) (defBody sLed) (defScope sLed) .none kV doc pm an cdv ct) ⟨us, []⟩ = pure ((["state", "row"] : List Str).zip us) :=
  match us, hl with
  | [_, _], _ => rfl
theorem b_ground (kV doc pm : Value) (an : Option Addr) (cdv ct : Value) (us : List Value) (hl : us.length = (["many"] : List Str).length) : bindArgs (PySem.W.fnOf "ground" "ground" (defArgs sGround) (defBody sGround) (defScope sGround) .none kV doc pm an cdv ct) ⟨us, []⟩ = pure ((["many"] : List Str).zip us) :=
  match us, hl with
  | [_], _ => rfl
theorem b_follow (kV doc pm : Value) (an : Option Addr) (cdv ct : Value) (us : List Value) (hl : us.length = (["state", "row"] : List Str).length) : bindArgs (PySem.W.fnOf "follow" "follow" (defArgs sFollow) (defBody sFollow) (defScope sFollow) .none kV doc pm an cdv ct) ⟨us, []⟩ = pure ((["state", "row"] : List Str).zip us) :=
  match us, hl with
  | [_, _], _ => rfl
theorem b_need_short (kV doc pm : Value) (an : Option Addr) (cdv ct : Value) (us : List Value) (hl : us.length = (["state"] : List Str).length) : bindArgs (PySem.W.fnOf "need_short" "need_short" (defArgs sNeedShort) (defBody sNeedShort) (defScope sNeedShort) .none kV doc pm an cdv ct) ⟨us, []⟩ = pure ((["state"] : List Str).zip us) :=
  match us, hl with
  | [_], _ => rfl
theorem b_need_both (kV doc pm : Value) (an : Option Addr) (cdv ct : Value) (us : List Value) (hl : us.length = (["one", "other"] : List Str).length) : bindArgs (PySem.W.fnOf "need_both" "need_both" (defArgs sNeedBoth) (defBody sNeedBoth) (defScope sNeedBoth) .none kV doc pm an cdv ct) ⟨us, []⟩ = pure ((["one", "other"] : List Str).zip us) :=
  match us, hl with
  | [_, _], _ => rfl
theorem b_need_ticks (kV doc pm : Value) (an : Option Addr) (cdv ct : Value) (us : List Value) (hl : us.length = (["ticks"] : List Str).length) : bindArgs (PySem.W.fnOf "need_ticks" "need_ticks" (defArgs sNeedTicks) (defBody sNeedTicks) (defScope sNeedTicks) .none kV doc pm an cdv ct) ⟨us, []⟩ = pure ((["ticks"] : List Str).zip us) :=
  match us, hl with
  | [_], _ => rfl
theorem b_does_reach (kV doc pm : Value) (an : Option Addr) (cdv ct : Value) (us : List Value) (hl : us.length = (["one", "other", "ticks"] : List Str).length) : bindArgs (PySem.W.fnOf "does_reach" "does_reach" (defArgs sDoesReach) (defBody sDoesReach) (defScope sDoesReach) .none kV doc pm an cdv ct) ⟨us, []⟩ = pure ((["one", "other", "ticks"] : List Str).zip us) :=
  match us, hl with
  | [_, _, _], _ => rfl
theorem b_least_of (kV doc pm : Value) (an : Option Addr) (cdv ct : Value) (us : List Value) (hl : us.length = (["one", "other"] : List Str).length) : bindArgs (PySem.W.fnOf "least_of" "least_of" (defArgs sLeastOf) (defBody sLeastOf) (defScope sLeastOf) .none kV doc pm an cdv ct) ⟨us, []⟩ = pure ((["one", "other"] : List Str).zip us) :=
  match us, hl with
  | [_, _], _ => rfl
theorem b_places_of (kV doc pm : Value) (an : Option Addr) (cdv ct : Value) (us : List Value) (hl : us.length = (["one", "other", "ticks"] : List Str).length) : bindArgs (PySem.W.fnOf "places_of" "places_of" (defArgs sPlacesOf) (defBody sPlacesOf) (defScope sPlacesOf) .none kV doc pm an cdv ct) ⟨us, []⟩ = pure ((["one", "other", "ticks"] : List Str).zip us) :=
  match us, hl with
  | [_, _, _], _ => rfl
theorem b_many_of_ways (kV doc pm : Value) (an : Option Addr) (cdv ct : Value) (us : List Value) (hl : us.length = (["places", "thing"] : List Str).length) : bindArgs (PySem.W.fnOf "many_of" "many_of" (defArgs sManyOf) (defBody sManyOf) (defScope sManyOf) .none kV doc pm an cdv ct) ⟨us, []⟩ = pure ((["places", "thing"] : List Str).zip us) :=
  match us, hl with
  | [_, _], _ => rfl
theorem b_first_of (kV doc pm : Value) (an : Option Addr) (cdv ct : Value) (us : List Value) (hl : us.length = (["one", "other", "ticks"] : List Str).length) : bindArgs (PySem.W.fnOf "first_of" "first_of" (defArgs sFirstOf) (defBody sFirstOf) (defScope sFirstOf) .none kV doc pm an cdv ct) ⟨us, []⟩ = pure ((["one", "other", "ticks"] : List Str).zip us) :=
  match us, hl with
  | [_, _, _], _ => rfl
theorem b_reaches (kV doc pm : Value) (an : Option Addr) (cdv ct : Value) (us : List Value) (hl : us.length = (["one", "other", "ticks"] : List Str).length) : bindArgs (PySem.W.fnOf "reaches" "reaches" (defArgs sReaches) (defBody sReaches) (defScope sReaches) .none kV doc pm an cdv ct) ⟨us, []⟩ = pure ((["one", "other", "ticks"] : List Str).zip us) :=
  match us, hl with
  | [_, _, _], _ => rfl
theorem b_least_ticks (kV doc pm : Value) (an : Option Addr) (cdv ct : Value) (us : List Value) (hl : us.length = (["one", "other"] : List Str).length) : bindArgs (PySem.W.fnOf "least_ticks" "least_ticks" (defArgs sLeastTicks) (defBody sLeastTicks) (defScope sLeastTicks) .none kV doc pm an cdv ct) ⟨us, []⟩ = pure ((["one", "other"] : List Str).zip us) :=
  match us, hl with
  | [_, _], _ => rfl
theorem b_many_ways (kV doc pm : Value) (an : Option Addr) (cdv ct : Value) (us : List Value) (hl : us.length = (["one", "other", "ticks"] : List Str).length) : bindArgs (PySem.W.fnOf "many_ways" "many_ways" (defArgs sManyWays) (defBody sManyWays) (defScope sManyWays) .none kV doc pm an cdv ct) ⟨us, []⟩ = pure ((["one", "other", "ticks"] : List Str).zip us) :=
  match us, hl with
  | [_, _, _], _ => rfl
theorem b_ways (kV doc pm : Value) (an : Option Addr) (cdv ct : Value) (us : List Value) (hl : us.length = (["one", "other", "ticks"] : List Str).length) : bindArgs (PySem.W.fnOf "ways" "ways" (defArgs sWays) (defBody sWays) (defScope sWays) .none kV doc pm an cdv ct) ⟨us, []⟩ = pure ((["one", "other", "ticks"] : List Str).zip us) :=
  match us, hl with
  | [_, _, _], _ => rfl
theorem b_shortest_way (kV doc pm : Value) (an : Option Addr) (cdv ct : Value) (us : List Value) (hl : us.length = (["one", "other"] : List Str).length) : bindArgs (PySem.W.fnOf "shortest_way" "shortest_way" (defArgs sShortestWay) (defBody sShortestWay) (defScope sShortestWay) .none kV doc pm an cdv ct) ⟨us, []⟩ = pure ((["one", "other"] : List Str).zip us) :=
  match us, hl with
  | [_, _], _ => rfl
theorem b_first_way (kV doc pm : Value) (an : Option Addr) (cdv ct : Value) (us : List Value) (hl : us.length = (["one", "other"] : List Str).length) : bindArgs (PySem.W.fnOf "first_way" "first_way" (defArgs sFirstWay) (defBody sFirstWay) (defScope sFirstWay) .none kV doc pm an cdv ct) ⟨us, []⟩ = pure ((["one", "other"] : List Str).zip us) :=
  match us, hl with
  | [_, _], _ => rfl
theorem b_way_at (kV doc pm : Value) (an : Option Addr) (cdv ct : Value) (us : List Value) (hl : us.length = (["one", "other", "ticks", "place"] : List Str).length) : bindArgs (PySem.W.fnOf "way_at" "way_at" (defArgs sWayAt) (defBody sWayAt) (defScope sWayAt) .none kV doc pm an cdv ct) ⟨us, []⟩ = pure ((["one", "other", "ticks", "place"] : List Str).zip us) :=
  match us, hl with
  | [_, _, _, _], _ => rfl
theorem b_place_of_way (kV doc pm : Value) (an : Option Addr) (cdv ct : Value) (us : List Value) (hl : us.length = (["state", "row"] : List Str).length) : bindArgs (PySem.W.fnOf "place_of_way" "place_of_way" (defArgs sPlaceOf) (defBody sPlaceOf) (defScope sPlaceOf) .none kV doc pm an cdv ct) ⟨us, []⟩ = pure ((["state", "row"] : List Str).zip us) :=
  match us, hl with
  | [_, _], _ => rfl
theorem b_power (kV doc pm : Value) (an : Option Addr) (cdv ct : Value) (us : List Value) (hl : us.length = (["number", "many"] : List Str).length) : bindArgs (PySem.W.fnOf "power" "power" (defArgs sPower) (defBody sPower) (defScope sPower) .none kV doc pm an cdv ct) ⟨us, []⟩ = pure ((["number", "many"] : List Str).zip us) :=
  match us, hl with
  | [_, _], _ => rfl
theorem b_need_length (kV doc pm : Value) (an : Option Addr) (cdv ct : Value) (us : List Value) (hl : us.length = (["thing", "most"] : List Str).length) : bindArgs (PySem.W.fnOf "need_length" "need_length" (defArgs sNeedLength) (defBody sNeedLength) (defScope sNeedLength) .none kV doc pm an cdv ct) ⟨us, []⟩ = pure ((["thing", "most"] : List Str).zip us) :=
  match us, hl with
  | [_, _], _ => rfl
theorem b_need_held (kV doc pm : Value) (an : Option Addr) (cdv ct : Value) (us : List Value) (hl : us.length = (["thing", "most"] : List Str).length) : bindArgs (PySem.W.fnOf "need_held" "need_held" (defArgs sNeedHeld) (defBody sNeedHeld) (defScope sNeedHeld) .none kV doc pm an cdv ct) ⟨us, []⟩ = pure ((["thing", "most"] : List Str).zip us) :=
  match us, hl with
  | [_, _], _ => rfl
theorem b_many_of_counting (kV doc pm : Value) (an : Option Addr) (cdv ct : Value) (us : List Value) (hl : us.length = (["length", "held"] : List Str).length) : bindArgs (PySem.W.fnOf "many_of" "many_of" (defArgs sManyC) (defBody sManyC) (defScope sManyC) .none kV doc pm an cdv ct) ⟨us, []⟩ = pure ((["length", "held"] : List Str).zip us) :=
  match us, hl with
  | [_, _], _ => rfl
theorem b_many (kV doc pm : Value) (an : Option Addr) (cdv ct : Value) (us : List Value) (hl : us.length = (["length", "held"] : List Str).length) : bindArgs (PySem.W.fnOf "many" "many" (defArgs sMany) (defBody sMany) (defScope sMany) .none kV doc pm an cdv ct) ⟨us, []⟩ = pure ((["length", "held"] : List Str).zip us) :=
  match us, hl with
  | [_, _], _ => rfl
theorem b_law_cell_at (kV doc pm : Value) (an : Option Addr) (cdv ct : Value) (us : List Value) (hl : us.length = (["_law_script", "_law_k"] : List Str).length) : bindArgs (PySem.W.fnOf "_law_cell_at" "_law_cell_at" (defArgs sCellAt) (defBody sCellAt) (defScope sCellAt) .none kV doc pm an cdv ct) ⟨us, []⟩ = pure ((["_law_script", "_law_k"] : List Str).zip us) :=
  match us, hl with
  | [_, _], _ => rfl
theorem b_law_pen (kV doc pm : Value) (an : Option Addr) (cdv ct : Value) (us : List Value) (hl : us.length = (["_law_cell"] : List Str).length) : bindArgs (PySem.W.fnOf "_law_pen" "_law_pen" (defArgs sPen) (defBody sPen) (defScope sPen) .none kV doc pm an cdv ct) ⟨us, []⟩ = pure ((["_law_cell"] : List Str).zip us) :=
  match us, hl with
  | [_], _ => rfl
theorem b_law_draw (kV doc pm : Value) (an : Option Addr) (cdv ct : Value) (us : List Value) (hl : us.length = (["_law_pen_here", "_law_amount"] : List Str).length) : bindArgs (PySem.W.fnOf "_law_draw" "_law_draw" (defArgs sDraw) (defBody sDraw) (defScope sDraw) .none kV doc pm an cdv ct) ⟨us, []⟩ = pure ((["_law_pen_here", "_law_amount"] : List Str).zip us) :=
  match us, hl with
  | [_, _], _ => rfl
theorem b_law_pick (kV doc pm : Value) (an : Option Addr) (cdv ct : Value) (us : List Value) (hl : us.length = (["_law_pen_here", "_law_some"] : List Str).length) : bindArgs (PySem.W.fnOf "_law_pick" "_law_pick" (defArgs sPick) (defBody sPick) (defScope sPick) .none kV doc pm an cdv ct) ⟨us, []⟩ = pure ((["_law_pen_here", "_law_some"] : List Str).zip us) :=
  match us, hl with
  | [_, _], _ => rfl
theorem b_law_same (kV doc pm : Value) (an : Option Addr) (cdv ct : Value) (us : List Value) (hl : us.length = (["_law_found", "_law_due"] : List Str).length) : bindArgs (PySem.W.fnOf "_law_same" "_law_same" (defArgs sSame) (defBody sSame) (defScope sSame) .none kV doc pm an cdv ct) ⟨us, []⟩ = pure ((["_law_found", "_law_due"] : List Str).zip us) :=
  match us, hl with
  | [_, _], _ => rfl
theorem b_law_drawn_state (kV doc pm : Value) (an : Option Addr) (cdv ct : Value) (us : List Value) (hl : us.length = (["_law_pen_here", "_law_size", "_law_top"] : List Str).length) : bindArgs (PySem.W.fnOf "_law_drawn_state" "_law_drawn_state" (defArgs sDrawn) (defBody sDrawn) (defScope sDrawn) .none kV doc pm an cdv ct) ⟨us, []⟩ = pure ((["_law_pen_here", "_law_size", "_law_top"] : List Str).zip us) :=
  match us, hl with
  | [_, _, _], _ => rfl
theorem b_law_product (kV doc pm : Value) (an : Option Addr) (cdv ct : Value) (us : List Value) (hl : us.length = (["_law_one", "_law_length"] : List Str).length) : bindArgs (PySem.W.fnOf "_law_product" "_law_product" (defArgs sProduct) (defBody sProduct) (defScope sProduct) .none kV doc pm an cdv ct) ⟨us, []⟩ = pure ((["_law_one", "_law_length"] : List Str).zip us) :=
  match us, hl with
  | [_, _], _ => rfl
theorem b_law_ways_right (kV doc pm : Value) (an : Option Addr) (cdv ct : Value) (us : List Value) (hl : us.length = (["_law_pen_here", "_law_one", "_law_two", "_law_length"] : List Str).length) : bindArgs (PySem.W.fnOf "_law_ways_right" "_law_ways_right" (defArgs sWaysRight) (defBody sWaysRight) (defScope sWaysRight) .none kV doc pm an cdv ct) ⟨us, []⟩ = pure ((["_law_pen_here", "_law_one", "_law_two", "_law_length"] : List Str).zip us) :=
  match us, hl with
  | [_, _, _, _], _ => rfl
theorem b_law_least_right (kV doc pm : Value) (an : Option Addr) (cdv ct : Value) (us : List Value) (hl : us.length = (["_law_one", "_law_two"] : List Str).length) : bindArgs (PySem.W.fnOf "_law_least_right" "_law_least_right" (defArgs sLeastRight) (defBody sLeastRight) (defScope sLeastRight) .none kV doc pm an cdv ct) ⟨us, []⟩ = pure ((["_law_one", "_law_two"] : List Str).zip us) :=
  match us, hl with
  | [_, _], _ => rfl
theorem b_law_states (kV doc pm : Value) (an : Option Addr) (cdv ct : Value) (us : List Value) (hl : us.length = (["_law_size", "_law_top"] : List Str).length) : bindArgs (PySem.W.fnOf "_law_states" "_law_states" (defArgs sStates) (defBody sStates) (defScope sStates) .none kV doc pm an cdv ct) ⟨us, []⟩ = pure ((["_law_size", "_law_top"] : List Str).zip us) :=
  match us, hl with
  | [_, _], _ => rfl
theorem b_law_tables_right (kV doc pm : Value) (an : Option Addr) (cdv ct : Value) (us : List Value) (hl : us.length = (["_law_size", "_law_length"] : List Str).length) : bindArgs (PySem.W.fnOf "_law_tables_right" "_law_tables_right" (defArgs sTables) (defBody sTables) (defScope sTables) .none kV doc pm an cdv ct) ⟨us, []⟩ = pure ((["_law_size", "_law_length"] : List Str).zip us) :=
  match us, hl with
  | [_, _], _ => rfl
theorem end_mk {l : PySem.W.OpenLaw} {w : World} {K : PySem.W.Frag} {h : Heap} {mg : Str → Option Value} {fa f : Addr} {od an : Option Addr} {oc kV dc pm cd ct : Value} {sl : Array (Option Value)} (X : K.In h) (G : h.Ns mainGlobals mg) (hfa : mg "law" = some (.ref fa))
    (a : PySem.W.nsIn K mainGlobals "law" = some (some (.ref f))) (lk : K.lookup f = some ⟨oc, od, .func (PySem.W.fnOf "law" "law" (defArgs sLaw) (defBody sLaw) (defScope sLaw) .none kV dc pm an cd ct), sl⟩) (c : PySem.W.codeIn K cd "law" = true) (k : PySem.W.keepIn K (.ref f) = true)
    (B : Bi mg) (C : Cst mg)
    (D_is_integer : DefIn K mg "is_integer" "is_integer" sIsInteger ["thing"])
    (D_is_between : DefIn K mg "is_between" "is_between" sIsBetween ["thing", "low", "high"])
    (D_is_state : DefIn K mg "is_state" "is_state" sIsState ["thing"])
    (D_need_state : DefIn K mg "need_state" "need_state" sNeedState ["state"])
    (D_is_row : DefIn K mg "is_row" "is_row" sIsRow ["thing", "most"])
    (D_may_be : DefIn K mg "may_be" "may_be" sMayBe ["state", "hold"])
    (D_behind : DefIn K mg "behind" "behind" sBehind ["state", "hold"])
    (D_led : DefIn K mg "led" "led" sLed ["state", "row"])
    (D_ground : DefIn K mg "ground" "ground" sGround ["many"])
    (D_follow : DefIn K mg "follow" "follow" sFollow ["state", "row"])
    (D_need_short : DefIn K mg "need_short" "need_short" sNeedShort ["state"])
    (D_need_both : DefIn K mg "need_both" "need_both" sNeedBoth ["one", "other"])
    (D_need_ticks : DefIn K mg "need_ticks" "need_ticks" sNeedTicks ["ticks"])
    (D_does_reach : DefIn K mg "does_reach" "does_reach" sDoesReach ["one", "other", "ticks"])
    (D_least_of : DefIn K mg "least_of" "least_of" sLeastOf ["one", "other"])
    (D_places_of : DefIn K mg "places_of" "places_of" sPlacesOf ["one", "other", "ticks"])
    (D_many_of_ways : DefIn K mg "many_of_ways" "many_of" sManyOf ["places", "thing"])
    (D_first_of : DefIn K mg "first_of" "first_of" sFirstOf ["one", "other", "ticks"])
    (D_reaches : DefIn K mg "reaches" "reaches" sReaches ["one", "other", "ticks"])
    (D_least_ticks : DefIn K mg "least_ticks" "least_ticks" sLeastTicks ["one", "other"])
    (D_many_ways : DefIn K mg "many_ways" "many_ways" sManyWays ["one", "other", "ticks"])
    (D_ways : DefIn K mg "ways" "ways" sWays ["one", "other", "ticks"])
    (D_shortest_way : DefIn K mg "shortest_way" "shortest_way" sShortestWay ["one", "other"])
    (D_first_way : DefIn K mg "first_way" "first_way" sFirstWay ["one", "other"])
    (D_way_at : DefIn K mg "way_at" "way_at" sWayAt ["one", "other", "ticks", "place"])
    (D_place_of_way : DefIn K mg "place_of_way" "place_of_way" sPlaceOf ["state", "row"])
    (D_power : DefIn K mg "power" "power" sPower ["number", "many"])
    (D_need_length : DefIn K mg "need_length" "need_length" sNeedLength ["thing", "most"])
    (D_need_held : DefIn K mg "need_held" "need_held" sNeedHeld ["thing", "most"])
    (D_many_of_counting : DefIn K mg "many_of_counting" "many_of" sManyC ["length", "held"])
    (D_many : DefIn K mg "many" "many" sMany ["length", "held"])
    (D_law_cell_at : DefIn K mg "_law_cell_at" "_law_cell_at" sCellAt ["_law_script", "_law_k"])
    (D_law_pen : DefIn K mg "_law_pen" "_law_pen" sPen ["_law_cell"])
    (D_law_draw : DefIn K mg "_law_draw" "_law_draw" sDraw ["_law_pen_here", "_law_amount"])
    (D_law_pick : DefIn K mg "_law_pick" "_law_pick" sPick ["_law_pen_here", "_law_some"])
    (D_law_same : DefIn K mg "_law_same" "_law_same" sSame ["_law_found", "_law_due"])
    (D_law_drawn_state : DefIn K mg "_law_drawn_state" "_law_drawn_state" sDrawn ["_law_pen_here", "_law_size", "_law_top"])
    (D_law_product : DefIn K mg "_law_product" "_law_product" sProduct ["_law_one", "_law_length"])
    (D_law_ways_right : DefIn K mg "_law_ways_right" "_law_ways_right" sWaysRight ["_law_pen_here", "_law_one", "_law_two", "_law_length"])
    (D_law_least_right : DefIn K mg "_law_least_right" "_law_least_right" sLeastRight ["_law_one", "_law_two"])
    (D_law_states : DefIn K mg "_law_states" "_law_states" sStates ["_law_size", "_law_top"])
    (D_law_tables_right : DefIn K mg "_law_tables_right" "_law_tables_right" sTables ["_law_size", "_law_length"]) :
    ∃ fd : FuncData, (∀ (s : Shared) (u : Value), BindsTo s fd ⟨[u], []⟩ [("_law_script", u)]) ∧ ∀ base : Heap, K.In base → base.Ns mainGlobals mg → FnG l.prog w K mg base 8 fa fd ["_law_script"] (spLaw K) := by
  have e := hfa.symm.trans (PySem.W.mg_of X G a)
  cases e
  have F := fun_mk (st := sLaw) lk c k
  have c_is_integer := fun base : Heap => ok_is_integer (P := l.prog) (w := w) (base := base) B D_is_integer
  have c_is_between := fun base : Heap => ok_is_between (P := l.prog) (w := w) (base := base) D_is_between (c_is_integer base)
  have c_is_state := fun base : Heap => ok_is_state (P := l.prog) (w := w) (base := base) B C D_is_state (c_is_between base)
  have c_need_state := fun base : Heap => ok_need_state (P := l.prog) (w := w) (base := base) D_need_state (c_is_state base)
  have c_is_row := fun base : Heap => ok_is_row (P := l.prog) (w := w) (base := base) B D_is_row (c_is_integer base)
  have c_may_be := fun base : Heap => ok_may_be (P := l.prog) (w := w) (base := base) C D_may_be (c_is_integer base) (c_is_between base)
  have c_behind := fun base : Heap => ok_behind (P := l.prog) (w := w) (base := base) B D_behind
  have c_led := fun base : Heap => ok_led (P := l.prog) (w := w) (base := base) D_led (c_may_be base) (c_behind base)
  have c_ground := fun base : Heap => ok_ground (P := l.prog) (w := w) (base := base) B C D_ground (c_is_between base)
  have c_follow := fun base : Heap => ok_follow (P := l.prog) (w := w) (base := base) C D_follow (c_need_state base) (c_is_row base) (c_led base)
  have c_need_short := fun base : Heap => ok_need_short (P := l.prog) (w := w) (base := base) C D_need_short (c_is_state base)
  have c_need_both := fun base : Heap => ok_need_both (P := l.prog) (w := w) (base := base) D_need_both (c_need_short base)
  have c_need_ticks := fun base : Heap => ok_need_ticks (P := l.prog) (w := w) (base := base) C D_need_ticks (c_is_between base)
  have c_does_reach := fun base : Heap => ok_does_reach (P := l.prog) (w := w) (base := base) B D_does_reach
  have c_least_of := fun base : Heap => ok_least_of (P := l.prog) (w := w) (base := base) B D_least_of (c_does_reach base)
  have c_places_of := fun base : Heap => ok_places_of (P := l.prog) (w := w) (base := base) B D_places_of
  have c_many_of_ways := fun base : Heap => ok_many_of (P := l.prog) (w := w) (base := base) B D_many_of_ways
  have c_first_of := fun base : Heap => ok_first_of (P := l.prog) (w := w) (base := base) B D_first_of (c_places_of base)
  have c_reaches := fun base : Heap => ok_reaches (P := l.prog) (w := w) (base := base) D_reaches (c_need_both base) (c_need_ticks base) (c_does_reach base)
  have c_least_ticks := fun base : Heap => ok_least_ticks (P := l.prog) (w := w) (base := base) D_least_ticks (c_need_both base) (c_least_of base)
  have c_many_ways := fun base : Heap => ok_many_ways (P := l.prog) (w := w) (base := base) D_many_ways (c_does_reach base) (c_places_of base) (c_many_of_ways base)
  have c_ways := fun base : Heap => ok_ways (P := l.prog) (w := w) (base := base) D_ways (c_need_both base) (c_need_ticks base) (c_many_ways base)
  have c_shortest_way := fun base : Heap => ok_shortest_way (P := l.prog) (w := w) (base := base) C D_shortest_way (c_least_of base) (c_first_of base)
  have c_first_way := fun base : Heap => ok_first_way (P := l.prog) (w := w) (base := base) D_first_way (c_need_both base) (c_shortest_way base)
  have c_way_at := fun base : Heap => ok_way_at (P := l.prog) (w := w) (base := base) B D_way_at (c_need_both base) (c_need_ticks base) (c_is_between base) (c_many_ways base) (c_places_of base) (c_many_of_ways base)
  have c_place_of_way := fun base : Heap => ok_place_of (P := l.prog) (w := w) (base := base) B C D_place_of_way (c_need_short base) (c_is_row base) (c_led base) (c_places_of base) (c_many_of_ways base)
  have c_power := fun base : Heap => ok_power (P := l.prog) (w := w) (base := base) B D_power
  have c_need_length := fun base : Heap => ok_need_length (P := l.prog) (w := w) (base := base) D_need_length (c_is_between base)
  have c_need_held := fun base : Heap => ok_need_held (P := l.prog) (w := w) (base := base) D_need_held (c_is_between base)
  have c_many_of_counting := fun base : Heap => ok_many_c (P := l.prog) (w := w) (base := base) D_many_of_counting (c_power base)
  have c_many := fun base : Heap => ok_many (P := l.prog) (w := w) (base := base) C D_many (c_need_length base) (c_need_held base) (c_many_of_counting base)
  have c_law_cell_at := fun base : Heap => ok_cell_at (P := l.prog) (w := w) (base := base) B D_law_cell_at
  have c_law_pen := fun base : Heap => ok_pen (P := l.prog) (w := w) (base := base) B D_law_pen
  have c_law_draw := fun base : Heap => ok_draw (P := l.prog) (w := w) (base := base) D_law_draw
  have c_law_pick := fun base : Heap => ok_pick (P := l.prog) (w := w) (base := base) B D_law_pick (c_law_draw base)
  have c_law_same := fun base : Heap => ok_same (P := l.prog) (w := w) (base := base) B D_law_same
  have c_law_drawn_state := fun base : Heap => ok_drawn (P := l.prog) (w := w) (base := base) B D_law_drawn_state (c_law_draw base)
  have c_law_product := fun base : Heap => ok_product (P := l.prog) (w := w) (base := base) B D_law_product
  have c_law_ways_right := fun base : Heap => ok_ways_right (P := l.prog) (w := w) (base := base) B D_law_ways_right (c_law_product base) (c_reaches base) (c_ways base) (c_law_same base) (c_law_draw base) (c_way_at base) (c_follow base) (c_place_of_way base)
  have c_law_least_right := fun base : Heap => ok_least_right (P := l.prog) (w := w) (base := base) B D_law_least_right (c_least_ticks base) (c_first_way base) (c_follow base) (c_way_at base) (c_reaches base)
  have c_law_states := fun base : Heap => ok_states (P := l.prog) (w := w) (base := base) B D_law_states
  have c_law_tables_right := fun base : Heap => ok_tables (P := l.prog) (w := w) (base := base) B D_law_tables_right (c_law_states base) (c_ways base) (c_many base)
  exact ⟨_, fun s u => .of_eq rfl, fun base _ _ => ok_law (P := l.prog) (w := w) (base := base) B F (c_law_tables_right base) (c_law_cell_at base) (c_law_pen base) (c_law_draw base) (c_law_pick base) (c_law_drawn_state base) (c_law_least_right base) (c_ground base) (c_least_ticks base) (c_law_ways_right base)⟩
end Bw

open PySem PySem.W PyProof.Rows
set_option maxHeartbeats 0 in
theorem PySem.Challenge.cw_burstapart_k50_whole_ways_holds : PySem.Challenge.rw_burstapart_k50_whole_ways.Holds := by
  w_on; o_law; k_head; (case hw => w_witness2)
  k_fill
  refine Bw.walk_ofG (l := PySem.Challenge.rw_burstapart_k50_whole_ways) (n := 63) (k := 8) (x := "_law_script") (sp := fun K => Bw.spLaw K) rfl (by decide) rfl ⟨rfl, by decide, by decide⟩ (fun w h Y => PySem.W.kIn_of Y) ?F (fun _ _ a ns hl hS => ⟨a, ns, rfl, hS, Nat.le_trans hl (by decide), fun _ => rfl⟩)
  case F =>
    intro w mg fa h KX G hmg
    have hB : Bw.Bi mg := ⟨PySem.W.mg_none_of KX G (by k_is), PySem.W.mg_none_of KX G (by k_is), PySem.W.mg_none_of KX G (by k_is), PySem.W.mg_none_of KX G (by k_is), PySem.W.mg_none_of KX G (by k_is), PySem.W.mg_none_of KX G (by k_is), PySem.W.mg_none_of KX G (by k_is), PySem.W.mg_none_of KX G (by k_is), PySem.W.mg_none_of KX G (by k_is), PySem.W.mg_none_of KX G (by k_is), PySem.W.mg_none_of KX G (by k_is), PySem.W.mg_none_of KX G (by k_is), PySem.W.mg_none_of KX G (by k_is), PySem.W.mg_none_of KX G (by k_is), PySem.W.mg_none_of KX G (by k_is), PySem.W.mg_none_of KX G (by k_is)⟩
    have hC : Bw.Cst mg := by
      refine' ⟨Bw.kint_mk KX G ?z0, Bw.kint_mk KX G ?z1, Bw.kint_mk KX G ?z2, Bw.kint_mk KX G ?z3, Bw.kint_mk KX G ?z4, Bw.kint_mk KX G ?z5, Bw.kint_mk KX G ?z6⟩
      (case z0 => k_is)
      (case z1 => k_is)
      (case z2 => k_is)
      (case z3 => k_is)
      (case z4 => k_is)
      (case z5 => k_is)
      (case z6 => k_is)
    have d_is_integer : Bw.DefAt KX mg "is_integer" "is_integer" Bw.sIsInteger ["thing"] := by
      refine' Bw.defIn_mk KX G ?a ?l ?c ?k Bw.b_is_integer
      (case a => k_is); (case l => k_is); (case c => k_is); (case k => k_is)
    have d_is_between : Bw.DefAt KX mg "is_between" "is_between" Bw.sIsBetween ["thing", "low", "high"] := by
      refine' Bw.defIn_mk KX G ?a ?l ?c ?k Bw.b_is_between
      (case a => k_is); (case l => k_is); (case c => k_is); (case k => k_is)
    have d_is_state : Bw.DefAt KX mg "is_state" "is_state" Bw.sIsState ["thing"] := by
      refine' Bw.defIn_mk KX G ?a ?l ?c ?k Bw.b_is_state
      (case a => k_is); (case l => k_is); (case c => k_is); (case k => k_is)
    have d_need_state : Bw.DefAt KX mg "need_state" "need_state" Bw.sNeedState ["state"] := by
      refine' Bw.defIn_mk KX G ?a ?l ?c ?k Bw.b_need_state
      (case a => k_is); (case l => k_is); (case c => k_is); (case k => k_is)
    have d_is_row : Bw.DefAt KX mg "is_row" "is_row" Bw.sIsRow ["thing", "most"] := by
      refine' Bw.defIn_mk KX G ?a ?l ?c ?k Bw.b_is_row
      (case a => k_is); (case l => k_is); (case c => k_is); (case k => k_is)
    have d_may_be : Bw.DefAt KX mg "may_be" "may_be" Bw.sMayBe ["state", "hold"] := by
      refine' Bw.defIn_mk KX G ?a ?l ?c ?k Bw.b_may_be
      (case a => k_is); (case l => k_is); (case c => k_is); (case k => k_is)
    have d_behind : Bw.DefAt KX mg "behind" "behind" Bw.sBehind ["state", "hold"] := by
      refine' Bw.defIn_mk KX G ?a ?l ?c ?k Bw.b_behind
      (case a => k_is); (case l => k_is); (case c => k_is); (case k => k_is)
    have d_led : Bw.DefAt KX mg "led" "led" Bw.sLed ["state", "row"] := by
      refine' Bw.defIn_mk KX G ?a ?l ?c ?k Bw.b_led
      (case a => k_is); (case l => k_is); (case c => k_is); (case k => k_is)
    have d_ground : Bw.DefAt KX mg "ground" "ground" Bw.sGround ["many"] := by
      refine' Bw.defIn_mk KX G ?a ?l ?c ?k Bw.b_ground
      (case a => k_is); (case l => k_is); (case c => k_is); (case k => k_is)
    have d_follow : Bw.DefAt KX mg "follow" "follow" Bw.sFollow ["state", "row"] := by
      refine' Bw.defIn_mk KX G ?a ?l ?c ?k Bw.b_follow
      (case a => k_is); (case l => k_is); (case c => k_is); (case k => k_is)
    have d_need_short : Bw.DefAt KX mg "need_short" "need_short" Bw.sNeedShort ["state"] := by
      refine' Bw.defIn_mk KX G ?a ?l ?c ?k Bw.b_need_short
      (case a => k_is); (case l => k_is); (case c => k_is); (case k => k_is)
    have d_need_both : Bw.DefAt KX mg "need_both" "need_both" Bw.sNeedBoth ["one", "other"] := by
      refine' Bw.defIn_mk KX G ?a ?l ?c ?k Bw.b_need_both
      (case a => k_is); (case l => k_is); (case c => k_is); (case k => k_is)
    have d_need_ticks : Bw.DefAt KX mg "need_ticks" "need_ticks" Bw.sNeedTicks ["ticks"] := by
      refine' Bw.defIn_mk KX G ?a ?l ?c ?k Bw.b_need_ticks
      (case a => k_is); (case l => k_is); (case c => k_is); (case k => k_is)
    have d_does_reach : Bw.DefAt KX mg "does_reach" "does_reach" Bw.sDoesReach ["one", "other", "ticks"] := by
      refine' Bw.defIn_mk KX G ?a ?l ?c ?k Bw.b_does_reach
      (case a => k_is); (case l => k_is); (case c => k_is); (case k => k_is)
    have d_least_of : Bw.DefAt KX mg "least_of" "least_of" Bw.sLeastOf ["one", "other"] := by
      refine' Bw.defIn_mk KX G ?a ?l ?c ?k Bw.b_least_of
      (case a => k_is); (case l => k_is); (case c => k_is); (case k => k_is)
    have d_places_of : Bw.DefAt KX mg "places_of" "places_of" Bw.sPlacesOf ["one", "other", "ticks"] := by
      refine' Bw.defIn_mk KX G ?a ?l ?c ?k Bw.b_places_of
      (case a => k_is); (case l => k_is); (case c => k_is); (case k => k_is)
    have d_many_of_ways : Bw.DefAt KX mg "many_of_ways" "many_of" Bw.sManyOf ["places", "thing"] := by
      refine' Bw.defIn_mk KX G ?a ?l ?c ?k Bw.b_many_of_ways
      (case a => k_is); (case l => k_is); (case c => k_is); (case k => k_is)
    have d_first_of : Bw.DefAt KX mg "first_of" "first_of" Bw.sFirstOf ["one", "other", "ticks"] := by
      refine' Bw.defIn_mk KX G ?a ?l ?c ?k Bw.b_first_of
      (case a => k_is); (case l => k_is); (case c => k_is); (case k => k_is)
    have d_reaches : Bw.DefAt KX mg "reaches" "reaches" Bw.sReaches ["one", "other", "ticks"] := by
      refine' Bw.defIn_mk KX G ?a ?l ?c ?k Bw.b_reaches
      (case a => k_is); (case l => k_is); (case c => k_is); (case k => k_is)
    have d_least_ticks : Bw.DefAt KX mg "least_ticks" "least_ticks" Bw.sLeastTicks ["one", "other"] := by
      refine' Bw.defIn_mk KX G ?a ?l ?c ?k Bw.b_least_ticks
      (case a => k_is); (case l => k_is); (case c => k_is); (case k => k_is)
    have d_many_ways : Bw.DefAt KX mg "many_ways" "many_ways" Bw.sManyWays ["one", "other", "ticks"] := by
      refine' Bw.defIn_mk KX G ?a ?l ?c ?k Bw.b_many_ways
      (case a => k_is); (case l => k_is); (case c => k_is); (case k => k_is)
    have d_ways : Bw.DefAt KX mg "ways" "ways" Bw.sWays ["one", "other", "ticks"] := by
      refine' Bw.defIn_mk KX G ?a ?l ?c ?k Bw.b_ways
      (case a => k_is); (case l => k_is); (case c => k_is); (case k => k_is)
    have d_shortest_way : Bw.DefAt KX mg "shortest_way" "shortest_way" Bw.sShortestWay ["one", "other"] := by
      refine' Bw.defIn_mk KX G ?a ?l ?c ?k Bw.b_shortest_way
      (case a => k_is); (case l => k_is); (case c => k_is); (case k => k_is)
    have d_first_way : Bw.DefAt KX mg "first_way" "first_way" Bw.sFirstWay ["one", "other"] := by
      refine' Bw.defIn_mk KX G ?a ?l ?c ?k Bw.b_first_way
      (case a => k_is); (case l => k_is); (case c => k_is); (case k => k_is)
    have d_way_at : Bw.DefAt KX mg "way_at" "way_at" Bw.sWayAt ["one", "other", "ticks", "place"] := by
      refine' Bw.defIn_mk KX G ?a ?l ?c ?k Bw.b_way_at
      (case a => k_is); (case l => k_is); (case c => k_is); (case k => k_is)
    have d_place_of_way : Bw.DefAt KX mg "place_of_way" "place_of_way" Bw.sPlaceOf ["state", "row"] := by
      refine' Bw.defIn_mk KX G ?a ?l ?c ?k Bw.b_place_of_way
      (case a => k_is); (case l => k_is); (case c => k_is); (case k => k_is)
    have d_power : Bw.DefAt KX mg "power" "power" Bw.sPower ["number", "many"] := by
      refine' Bw.defIn_mk KX G ?a ?l ?c ?k Bw.b_power
      (case a => k_is); (case l => k_is); (case c => k_is); (case k => k_is)
    have d_need_length : Bw.DefAt KX mg "need_length" "need_length" Bw.sNeedLength ["thing", "most"] := by
      refine' Bw.defIn_mk KX G ?a ?l ?c ?k Bw.b_need_length
      (case a => k_is); (case l => k_is); (case c => k_is); (case k => k_is)
    have d_need_held : Bw.DefAt KX mg "need_held" "need_held" Bw.sNeedHeld ["thing", "most"] := by
      refine' Bw.defIn_mk KX G ?a ?l ?c ?k Bw.b_need_held
      (case a => k_is); (case l => k_is); (case c => k_is); (case k => k_is)
    have d_many_of_counting : Bw.DefAt KX mg "many_of_counting" "many_of" Bw.sManyC ["length", "held"] := by
      refine' Bw.defIn_mk KX G ?a ?l ?c ?k Bw.b_many_of_counting
      (case a => k_is); (case l => k_is); (case c => k_is); (case k => k_is)
    have d_many : Bw.DefAt KX mg "many" "many" Bw.sMany ["length", "held"] := by
      refine' Bw.defIn_mk KX G ?a ?l ?c ?k Bw.b_many
      (case a => k_is); (case l => k_is); (case c => k_is); (case k => k_is)
    have d_law_cell_at : Bw.DefAt KX mg "_law_cell_at" "_law_cell_at" Bw.sCellAt ["_law_script", "_law_k"] := by
      refine' Bw.defIn_mk KX G ?a ?l ?c ?k Bw.b_law_cell_at
      (case a => k_is); (case l => k_is); (case c => k_is); (case k => k_is)
    have d_law_pen : Bw.DefAt KX mg "_law_pen" "_law_pen" Bw.sPen ["_law_cell"] := by
      refine' Bw.defIn_mk KX G ?a ?l ?c ?k Bw.b_law_pen
      (case a => k_is); (case l => k_is); (case c => k_is); (case k => k_is)
    have d_law_draw : Bw.DefAt KX mg "_law_draw" "_law_draw" Bw.sDraw ["_law_pen_here", "_law_amount"] := by
      refine' Bw.defIn_mk KX G ?a ?l ?c ?k Bw.b_law_draw
      (case a => k_is); (case l => k_is); (case c => k_is); (case k => k_is)
    have d_law_pick : Bw.DefAt KX mg "_law_pick" "_law_pick" Bw.sPick ["_law_pen_here", "_law_some"] := by
      refine' Bw.defIn_mk KX G ?a ?l ?c ?k Bw.b_law_pick
      (case a => k_is); (case l => k_is); (case c => k_is); (case k => k_is)
    have d_law_same : Bw.DefAt KX mg "_law_same" "_law_same" Bw.sSame ["_law_found", "_law_due"] := by
      refine' Bw.defIn_mk KX G ?a ?l ?c ?k Bw.b_law_same
      (case a => k_is); (case l => k_is); (case c => k_is); (case k => k_is)
    have d_law_drawn_state : Bw.DefAt KX mg "_law_drawn_state" "_law_drawn_state" Bw.sDrawn ["_law_pen_here", "_law_size", "_law_top"] := by
      refine' Bw.defIn_mk KX G ?a ?l ?c ?k Bw.b_law_drawn_state
      (case a => k_is); (case l => k_is); (case c => k_is); (case k => k_is)
    have d_law_product : Bw.DefAt KX mg "_law_product" "_law_product" Bw.sProduct ["_law_one", "_law_length"] := by
      refine' Bw.defIn_mk KX G ?a ?l ?c ?k Bw.b_law_product
      (case a => k_is); (case l => k_is); (case c => k_is); (case k => k_is)
    have d_law_ways_right : Bw.DefAt KX mg "_law_ways_right" "_law_ways_right" Bw.sWaysRight ["_law_pen_here", "_law_one", "_law_two", "_law_length"] := by
      refine' Bw.defIn_mk KX G ?a ?l ?c ?k Bw.b_law_ways_right
      (case a => k_is); (case l => k_is); (case c => k_is); (case k => k_is)
    have d_law_least_right : Bw.DefAt KX mg "_law_least_right" "_law_least_right" Bw.sLeastRight ["_law_one", "_law_two"] := by
      refine' Bw.defIn_mk KX G ?a ?l ?c ?k Bw.b_law_least_right
      (case a => k_is); (case l => k_is); (case c => k_is); (case k => k_is)
    have d_law_states : Bw.DefAt KX mg "_law_states" "_law_states" Bw.sStates ["_law_size", "_law_top"] := by
      refine' Bw.defIn_mk KX G ?a ?l ?c ?k Bw.b_law_states
      (case a => k_is); (case l => k_is); (case c => k_is); (case k => k_is)
    have d_law_tables_right : Bw.DefAt KX mg "_law_tables_right" "_law_tables_right" Bw.sTables ["_law_size", "_law_length"] := by
      refine' Bw.defIn_mk KX G ?a ?l ?c ?k Bw.b_law_tables_right
      (case a => k_is); (case l => k_is); (case c => k_is); (case k => k_is)
    refine' Bw.end_mk KX G hmg ?a ?l ?c ?k hB hC d_is_integer d_is_between d_is_state d_need_state d_is_row d_may_be d_behind d_led d_ground d_follow d_need_short d_need_both d_need_ticks d_does_reach d_least_of d_places_of d_many_of_ways d_first_of d_reaches d_least_ticks d_many_ways d_ways d_shortest_way d_first_way d_way_at d_place_of_way d_power d_need_length d_need_held d_many_of_counting d_many d_law_cell_at d_law_pen d_law_draw d_law_pick d_law_same d_law_drawn_state d_law_product d_law_ways_right d_law_least_right d_law_states d_law_tables_right
    (case a => k_is); (case l => k_is); (case c => k_is); (case k => k_is)
