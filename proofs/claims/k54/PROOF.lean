import PyProof.Rows.All
import Wide.All
import OpenK.AllK
import Wide.FinOn
import HandS.ForMost
import HandS.Style
import HandS.Zip
import KE.KUnpackStar
import HandS.SortKw
import KE.GoesEnumKw
import HandS.DictComp
import KE.KDictDisplayH
import KE.KDictCopyH
import HandS.TupMul
import HandS.Words
import HandS.TupSets
import HandS.SetKeys
import PyProof.ListStr
import HandS.TupAny
import HandS.More
import HandS.IsInst
import HandS.Conv
import PySem.Challenge.RW_startlog_k54_whole_parted_by_the_first_l
import HandS.NoneIn
/-! Words over digits 0..m-1, ranked by bijective numeration; a breadth-first walk of keys; plain Lean. -/
set_option linter.all false
namespace Bf
/-- the rank of a word: shorter ones first, then as lists rise -/
def rank (m : Nat) (w : List Nat) : Nat := w.foldl (fun a d => a * m + d + 1) 0
theorem rank_nil (m : Nat) : rank m [] = 0 := rfl
theorem rank_snoc (m : Nat) (w : List Nat) (d : Nat) : rank m (w ++ [d]) = rank m w * m + d + 1 := by
  simp [rank, List.foldl_append]
/-- all digits below m -/
def Dig (m : Nat) (w : List Nat) : Prop := ∀ d, d ∈ w → d < m
theorem Dig.nil (m : Nat) : Dig m [] := by intro d h; cases h
theorem Dig.snoc {m : Nat} {w : List Nat} {d : Nat} (h : Dig m w) (hd : d < m) : Dig m (w ++ [d]) := by
  intro x hx
  rcases List.mem_append.mp hx with hx | hx
  · exact h x hx
  · rw [List.mem_singleton.mp hx]; exact hd
theorem Dig.init {m : Nat} {w : List Nat} {d : Nat} (h : Dig m (w ++ [d])) : Dig m w ∧ d < m :=
  ⟨fun x hx => h x (List.mem_append_left _ hx), h d (List.mem_append_right _ (List.mem_singleton.mpr rfl))⟩
theorem snoc_ind {α : Type} {P : List α → Prop} (h0 : P []) (h1 : ∀ w d, P w → P (w ++ [d])) : ∀ w, P w := by
  intro w
  have key : ∀ n (w : List α), w.length = n → P w := by
    intro n
    induction n with
    | zero => intro w hw; rw [List.length_eq_zero_iff.mp hw]; exact h0
    | succ n ih =>
      intro w hw
      have hne : w ≠ [] := by intro e; rw [e] at hw; simp at hw
      rw [← List.dropLast_concat_getLast hne]
      exact h1 _ _ (ih _ (by rw [List.length_dropLast, hw]; rfl))
  exact key _ w rfl
theorem rank_inj {m : Nat} : ∀ w, Dig m w → ∀ u, Dig m u → rank m w = rank m u → w = u := by
  apply snoc_ind
  · intro _ u
    revert u
    apply snoc_ind
    · intro _ _; rfl
    · intro u d _ _ h; rw [rank_nil, rank_snoc] at h; omega
  · intro w d ih hw u
    revert u
    apply snoc_ind
    · intro _ h; rw [rank_nil, rank_snoc] at h; omega
    · intro u e _ hu h
      obtain ⟨hw1, hd⟩ := hw.init
      obtain ⟨hu1, he⟩ := hu.init
      rw [rank_snoc, rank_snoc] at h
      have h' : d + m * rank m w = e + m * rank m u := by
        rw [Nat.mul_comm m, Nat.mul_comm m]; omega
      have e1 : (d + m * rank m w) % m = (e + m * rank m u) % m := by rw [h']
      rw [Nat.add_mul_mod_self_left, Nat.add_mul_mod_self_left, Nat.mod_eq_of_lt hd, Nat.mod_eq_of_lt he] at e1
      have e2 : m * rank m w = m * rank m u := by omega
      have e3 : rank m w = rank m u := Nat.eq_of_mul_eq_mul_left (by omega) e2
      rw [ih hw1 u hu1 e3, e1]
/-! ### all words of a length -/
def words (m : Nat) : Nat → List (List Nat)
  | 0 => [[]]
  | n + 1 => (words m n).flatMap fun w => (List.range m).map fun d => w ++ [d]
/-- the rank of the first word of a length -/
def first (m : Nat) : Nat → Nat
  | 0 => 0
  | n + 1 => first m n * m + 1
theorem flat_range (m : Nat) : ∀ (k a : Nat), (List.range' a k).flatMap (fun x => (List.range m).map fun d => x * m + d + 1) = List.range' (a * m + 1) (k * m) := by
  intro k
  induction k with
  | zero => intro a; simp
  | succ k ih =>
    intro a
    rw [List.range'_succ, List.flatMap_cons, ih (a + 1)]
    have e1 : ((List.range m).map fun d => a * m + d + 1) = List.range' (a * m + 1) m := by
      rw [List.range_eq_range', ]
      have := List.map_add_range' (a := a * m + 1) 0 m 1
      simp only [Nat.add_zero] at this
      rw [← this]
      apply List.map_congr_left
      intro d _
      omega
    rw [e1]
    have e2 : (a + 1) * m + 1 = a * m + 1 + 1 * m := by rw [Nat.add_mul]; omega
    have e3 : (k + 1) * m = m + k * m := by rw [Nat.add_mul]; omega
    rw [e2, e3, List.range'_append]
theorem words_rank (m : Nat) : ∀ n, (words m n).map (rank m) = List.range' (first m n) (m ^ n) := by
  intro n
  induction n with
  | zero => rfl
  | succ n ih =>
    rw [words, List.map_flatMap]
    have e1 : ((words m n).flatMap fun w => ((List.range m).map fun d => w ++ [d]).map (rank m)) = ((words m n).map (rank m)).flatMap fun x => (List.range m).map fun d => x * m + d + 1 := by
      rw [List.flatMap_map]
      apply congrArg List.flatten
      apply List.map_congr_left
      intro w _
      rw [List.map_map]
      apply List.map_congr_left
      intro d _
      exact rank_snoc m w d
    rw [e1, ih, flat_range, Nat.pow_succ]
    rfl
theorem words_dig (m : Nat) : ∀ n w, w ∈ words m n → Dig m w := by
  intro n
  induction n with
  | zero => intro w hw; rw [List.mem_singleton.mp hw]; exact Dig.nil m
  | succ n ih =>
    intro w hw
    obtain ⟨u, hu, hw⟩ := List.mem_flatMap.mp hw
    obtain ⟨d, hd, rfl⟩ := List.mem_map.mp hw
    exact (ih u hu).snoc (List.mem_range.mp hd)
theorem words_length (m n : Nat) : (words m n).length = m ^ n := by
  have := congrArg List.length (words_rank m n)
  rw [List.length_map, List.length_range'] at this
  exact this
theorem words_at {m n t : Nat} {w : List Nat} (h : (words m n)[t]? = some w) : rank m w = first m n + t := by
  have e : ((words m n).map (rank m))[t]? = some (rank m w) := by rw [List.getElem?_map, h]; rfl
  rw [words_rank] at e
  have ht : t < m ^ n := by
    rw [← words_length m n]
    exact (List.getElem?_eq_some_iff.mp h).1
  rw [List.getElem?_range' ht] at e
  have := Option.some.inj e
  omega
theorem first_succ (m n : Nat) : first m n + m ^ n = first m (n + 1) := by
  induction n with
  | zero => simp [first]
  | succ n ih =>
    have e : first m (n + 1 + 1) = first m (n + 1) * m + 1 := rfl
    rw [e, ← ih]
    have e2 : first m n + m ^ n = first m n * m + 1 := ih
    rw [Nat.add_mul, Nat.pow_succ]
    omega
end Bf
/-! The breadth-first walk. -/
set_option linter.all false
namespace Bf
section
variable {κ : Type} [DecidableEq κ]
/-- a key that is new is laid behind -/
def addK (kn : List (κ × List Nat)) (q : κ) (w : List Nat) : List (κ × List Nat) := if (kn.any fun e => decide (e.1 = q)) = true then kn else kn ++ [(q, w)]
def expand (δ : κ → Nat → κ) (p : κ) (w : List Nat) (t : Nat) (kn : List (κ × List Nat)) : List (κ × List Nat) :=
  (List.range t).foldl (fun kn d => addK kn (δ p d) (w ++ [d])) kn
theorem expand_zero (δ : κ → Nat → κ) (p : κ) (w : List Nat) (kn : List (κ × List Nat)) : expand δ p w 0 kn = kn := rfl
theorem expand_succ (δ : κ → Nat → κ) (p : κ) (w : List Nat) (t : Nat) (kn : List (κ × List Nat)) : expand δ p w (t + 1) kn = addK (expand δ p w t kn) (δ p t) (w ++ [t]) := by
  unfold expand
  rw [List.range_succ, List.foldl_append]
  rfl
/-- what is known behind i turns -/
def kns (δ : κ → Nat → κ) (m : Nat) (p0 : κ) : Nat → List (κ × List Nat)
  | 0 => [(p0, [])]
  | i + 1 => match (kns δ m p0 i)[i]? with
    | none => kns δ m p0 i
    | some (p, w) => expand δ p w m (kns δ m p0 i)
def run (δ : κ → Nat → κ) (p0 : κ) (w : List Nat) : κ := w.foldl δ p0
theorem run_snoc (δ : κ → Nat → κ) (p0 : κ) (w : List Nat) (d : Nat) : run δ p0 (w ++ [d]) = δ (run δ p0 w) d := by
  simp [run, List.foldl_append]
/-- whether turn i ends the walk -/
def stop (δ : κ → Nat → κ) (m : Nat) (p0 : κ) (bad : κ → Bool) (i : Nat) : Bool := match (kns δ m p0 i)[i]? with
  | none => true
  | some e => bad e.1
def Live (δ : κ → Nat → κ) (m : Nat) (p0 : κ) (bad : κ → Bool) (i : Nat) : Prop := ∀ j, j < i → stop δ m p0 bad j = false
/-- what the walk tells -/
def Res (δ : κ → Nat → κ) (m : Nat) (p0 : κ) (bad : κ → Bool) (r : Option (List Nat)) : Prop :=
  ∃ i, Live δ m p0 bad i ∧ stop δ m p0 bad i = true ∧ r = ((kns δ m p0 i)[i]?).map (·.2)

theorem Res.unique {δ : κ → Nat → κ} {m : Nat} {p0 : κ} {bad : κ → Bool} {r r' : Option (List Nat)} (h : Res δ m p0 bad r) (h' : Res δ m p0 bad r') : r = r' := by
  obtain ⟨i, hl, hs, rfl⟩ := h
  obtain ⟨j, hl', hs', rfl⟩ := h'
  rcases Nat.lt_trichotomy i j with q | q | q
  · rw [hl' i q] at hs; cases hs
  · rw [q]
  · rw [hl j q] at hs'; cases hs'

/-! ### addK -/
theorem addK_mem {kn : List (κ × List Nat)} {q : κ} {w : List Nat} {e : κ × List Nat} (h : e ∈ addK kn q w) : e ∈ kn ∨ e = (q, w) := by
  unfold addK at h
  split at h
  · exact .inl h
  · rcases List.mem_append.mp h with h | h
    · exact .inl h
    · exact .inr (List.mem_singleton.mp h)
theorem addK_old {kn : List (κ × List Nat)} {q : κ} {w : List Nat} {e : κ × List Nat} (h : e ∈ kn) : e ∈ addK kn q w := by
  unfold addK
  split
  · exact h
  · exact List.mem_append_left _ h
theorem addK_pre (kn : List (κ × List Nat)) (q : κ) (w : List Nat) : ∃ more, addK kn q w = kn ++ more := by
  unfold addK
  split
  · exact ⟨[], by simp⟩
  · exact ⟨[(q, w)], rfl⟩
theorem addK_has (kn : List (κ × List Nat)) (q : κ) (w : List Nat) : (∃ u, (q, u) ∈ kn) ∨ (q, w) ∈ addK kn q w := by
  unfold addK
  split
  · rename_i h
    obtain ⟨e, he, hq⟩ := List.any_eq_true.mp h
    have hq := of_decide_eq_true hq
    obtain ⟨p, u⟩ := e
    have hq : p = q := hq
    subst hq
    exact .inl ⟨u, he⟩
  · exact .inr (List.mem_append_right _ (List.mem_singleton.mpr rfl))
theorem expand_pre (δ : κ → Nat → κ) (p : κ) (w : List Nat) (kn : List (κ × List Nat)) : ∀ t, ∃ more, expand δ p w t kn = kn ++ more := by
  intro t
  induction t with
  | zero => exact ⟨[], by rw [expand_zero]; simp⟩
  | succ t ih =>
    obtain ⟨m1, h1⟩ := ih
    obtain ⟨m2, h2⟩ := addK_pre (expand δ p w t kn) (δ p t) (w ++ [t])
    exact ⟨m1 ++ m2, by rw [expand_succ, h2, h1, List.append_assoc]⟩
theorem expand_mem {δ : κ → Nat → κ} {p : κ} {w : List Nat} {kn : List (κ × List Nat)} : ∀ {t e}, e ∈ expand δ p w t kn → e ∈ kn ∨ ∃ d, d < t ∧ e = (δ p d, w ++ [d]) := by
  intro t
  induction t with
  | zero => intro e h; exact .inl h
  | succ t ih =>
    intro e h
    rw [expand_succ] at h
    rcases addK_mem h with h | h
    · rcases ih h with h | ⟨d, hd, h⟩
      · exact .inl h
      · exact .inr ⟨d, Nat.lt_succ_of_lt hd, h⟩
    · exact .inr ⟨t, Nat.lt_succ_self t, h⟩
/-! ### the invariant -/
structure Ok (δ : κ → Nat → κ) (m : Nat) (p0 : κ) (i : Nat) (kn : List (κ × List Nat)) : Prop where
  runs : ∀ e, e ∈ kn → e.1 = run δ p0 e.2 ∧ Dig m e.2
  begin : kn[0]? = some (p0, [])
  nd : (kn.map (·.1)).Nodup
  up : ∀ (a b : Nat) (x y : κ × List Nat), kn[a]? = some x → kn[b]? = some y → a < b → rank m x.2 < rank m y.2
  cap : ∀ (e x : κ × List Nat), e ∈ kn → kn[i]? = some x → rank m e.2 ≤ rank m x.2 * m
  full : ∀ (j : Nat) (x : κ × List Nat) (d : Nat), j < i → kn[j]? = some x → d < m → ∃ u, (δ x.1 d, u) ∈ kn ∧ rank m u ≤ rank m x.2 * m + d + 1

/-- in the midst of a turn -/
structure Mid (δ : κ → Nat → κ) (m : Nat) (p0 : κ) (p : κ) (w : List Nat) (kn : List (κ × List Nat)) (t : Nat) (k2 : List (κ × List Nat)) : Prop where
  runs : ∀ e, e ∈ k2 → e.1 = run δ p0 e.2 ∧ Dig m e.2
  nd : (k2.map (·.1)).Nodup
  up : ∀ (a b : Nat) (x y : κ × List Nat), k2[a]? = some x → k2[b]? = some y → a < b → rank m x.2 < rank m y.2
  top : ∀ e, e ∈ k2 → rank m e.2 ≤ rank m w * m + t
  full : ∀ d, d < t → ∃ u, (δ p d, u) ∈ k2 ∧ rank m u ≤ rank m w * m + d + 1

theorem getElem?_append_one {α : Type} {l : List α} {y : α} {b : Nat} {x : α} (h : (l ++ [y])[b]? = some x) : l[b]? = some x ∨ (b = l.length ∧ x = y) := by
  rcases Nat.lt_or_ge b l.length with q | q
  · rw [List.getElem?_append_left q] at h; exact .inl h
  · rw [List.getElem?_append_right q] at h
    rcases Nat.eq_zero_or_pos (b - l.length) with z | z
    · rw [z] at h
      exact .inr ⟨by omega, (Option.some.inj h).symm⟩
    · rw [List.getElem?_eq_none (by simp; omega)] at h; cases h

theorem Mid.step {δ : κ → Nat → κ} {m : Nat} {p0 p : κ} {w : List Nat} {kn k2 : List (κ × List Nat)} {t : Nat} (M : Mid δ m p0 p w kn t k2) (hp : p = run δ p0 w) (hw : Dig m w) (ht : t < m) :
    Mid δ m p0 p w kn (t + 1) (addK k2 (δ p t) (w ++ [t])) where
  runs := fun e he => by
    rcases addK_mem he with he | rfl
    · exact M.runs e he
    · exact ⟨by show δ p t = run δ p0 (w ++ [t]); rw [run_snoc, hp], hw.snoc ht⟩
  nd := by
    unfold addK
    split
    · exact M.nd
    · rename_i h
      rw [List.map_append]
      refine List.nodup_append.mpr ⟨M.nd, by simp, ?_⟩
      intro a ha b hb e
      rw [List.map_cons, List.map_nil, List.mem_singleton] at hb
      obtain ⟨x, hx, rfl⟩ := List.mem_map.mp ha
      exact h (List.any_eq_true.mpr ⟨x, hx, decide_eq_true (e.trans hb)⟩)
  up := fun a b x y hx hy hab => by
    unfold addK at hx hy
    split at hx
    · rename_i h
      rw [if_pos h] at hy
      exact M.up a b x y hx hy hab
    · rename_i h
      rw [if_neg h] at hy
      rcases getElem?_append_one hx with q | ⟨q, _⟩
      · rcases getElem?_append_one hy with r | ⟨_, r⟩
        · exact M.up a b x y q r hab
        · rw [r]
          show rank m x.2 < rank m (w ++ [t])
          rw [rank_snoc]
          have := M.top x (List.mem_of_getElem? q)
          omega
      · rcases getElem?_append_one hy with r | ⟨r, _⟩
        · have := (List.getElem?_eq_some_iff.mp r).1; omega
        · omega
  top := fun e he => by
    rcases addK_mem he with he | rfl
    · have := M.top e he; omega
    · show rank m (w ++ [t]) ≤ _
      rw [rank_snoc]; omega
  full := fun d hd => by
    rcases Nat.lt_or_ge d t with q | q
    · obtain ⟨u, hu, hr⟩ := M.full d q
      exact ⟨u, addK_old hu, hr⟩
    · have : d = t := by omega
      subst this
      rcases addK_has k2 (δ p d) (w ++ [d]) with ⟨u, hu⟩ | h
      · refine ⟨u, addK_old hu, ?_⟩
        have := M.top _ hu
        simp only at this
        omega
      · exact ⟨_, h, by rw [rank_snoc]; omega⟩
theorem ok_start (δ : κ → Nat → κ) (m : Nat) (p0 : κ) : Ok δ m p0 0 [(p0, [])] where
  runs := fun e he => by rw [List.mem_singleton.mp he]; exact ⟨rfl, Dig.nil m⟩
  begin := rfl
  nd := by simp
  up := fun a b x y hx hy hab => by
    have := (List.getElem?_eq_some_iff.mp hy).1
    simp at this
    omega
  cap := fun e x he hx => by rw [List.mem_singleton.mp he]; simp [rank]
  full := fun j _ _ hj => by omega
theorem Ok.turn {δ : κ → Nat → κ} {m : Nat} {p0 : κ} {i : Nat} {kn : List (κ × List Nat)} (K : Ok δ m p0 i kn) {p : κ} {w : List Nat} (hi : kn[i]? = some (p, w)) : Ok δ m p0 (i + 1) (expand δ p w m kn) := by
  obtain ⟨hp, hw⟩ := K.runs _ (List.mem_of_getElem? hi)
  have hp : p = run δ p0 w := hp
  have mid : ∀ t, t ≤ m → Mid δ m p0 p w kn t (expand δ p w t kn) := by
    intro t
    induction t with
    | zero =>
      intro _
      rw [expand_zero]
      exact ⟨K.runs, K.nd, K.up, fun e he => by have := K.cap e _ he hi; simp only at this; omega, fun d hd => by omega⟩
    | succ t ih =>
      intro ht
      rw [expand_succ]
      exact (ih (by omega)).step hp hw (by omega)
  have M := mid m (Nat.le_refl _)
  obtain ⟨more, hm⟩ := expand_pre δ p w kn m
  have old : ∀ {j : Nat} {x : κ × List Nat}, kn[j]? = some x → (expand δ p w m kn)[j]? = some x := fun {j x} h => by
    rw [hm, List.getElem?_append_left (List.getElem?_eq_some_iff.mp h).1]; exact h
  refine ⟨M.runs, old K.begin, M.nd, M.up, fun e x he hx => ?_, fun j x d hj hx hd => ?_⟩
  · have h1 := M.top e he
    have h2 := M.up i (i + 1) _ x (old hi) hx (Nat.lt_succ_self i)
    simp only at h2
    have h3 : (rank m w + 1) * m ≤ rank m x.2 * m := Nat.mul_le_mul_right m h2
    rw [Nat.add_mul] at h3
    omega
  · rcases Nat.lt_or_ge j i with q | q
    · have hjl : j < kn.length := by
        have := (List.getElem?_eq_some_iff.mp hi).1
        omega
      have hx' : kn[j]? = some x := by
        rw [hm, List.getElem?_append_left hjl] at hx; exact hx
      obtain ⟨u, hu, hr⟩ := K.full j x d q hx' hd
      exact ⟨u, by rw [hm]; exact List.mem_append_left _ hu, hr⟩
    · have : j = i := by omega
      subst this
      have : x = (p, w) := Option.some.inj (hx.symm.trans (old hi))
      subst this
      exact M.full d hd
theorem kns_ok (δ : κ → Nat → κ) (m : Nat) (p0 : κ) : ∀ i, (∀ j, j < i → (kns δ m p0 j)[j]? ≠ none) → Ok δ m p0 i (kns δ m p0 i) := by
  intro i
  induction i with
  | zero => intro _; exact ok_start δ m p0
  | succ i ih =>
    intro h
    have K := ih fun j hj => h j (by omega)
    show Ok δ m p0 (i + 1) (match (kns δ m p0 i)[i]? with | none => kns δ m p0 i | some (p, w) => expand δ p w m (kns δ m p0 i))
    cases e : (kns δ m p0 i)[i]? with
    | none => exact absurd e (h i (by omega))
    | some x =>
      obtain ⟨p, w⟩ := x
      exact K.turn e
theorem Live.some {δ : κ → Nat → κ} {m : Nat} {p0 : κ} {bad : κ → Bool} {i : Nat} (L : Live δ m p0 bad i) : ∀ j, j < i → (kns δ m p0 j)[j]? ≠ none := fun j hj e => by
  have := L j hj
  unfold stop at this
  rw [e] at this
  cases this
theorem Live.ok {δ : κ → Nat → κ} {m : Nat} {p0 : κ} {bad : κ → Bool} {i : Nat} (L : Live δ m p0 bad i) : Ok δ m p0 i (kns δ m p0 i) := kns_ok δ m p0 i L.some
/-- the list only grows -/
theorem kns_pre (δ : κ → Nat → κ) (m : Nat) (p0 : κ) (i : Nat) : ∃ more, kns δ m p0 (i + 1) = kns δ m p0 i ++ more := by
  show ∃ more, (match (kns δ m p0 i)[i]? with | none => kns δ m p0 i | some (p, w) => expand δ p w m (kns δ m p0 i)) = _
  cases (kns δ m p0 i)[i]? with
  | none => exact ⟨[], by simp⟩
  | some x => exact expand_pre δ x.1 x.2 _ m
theorem kns_at {δ : κ → Nat → κ} {m : Nat} {p0 : κ} {j : Nat} {x : κ × List Nat} (h : (kns δ m p0 j)[j]? = some x) : ∀ i, j ≤ i → (kns δ m p0 i)[j]? = some x := by
  intro i
  induction i with
  | zero => intro hj; have : j = 0 := by omega
            subst this; exact h
  | succ i ih =>
    intro hj
    rcases Nat.lt_or_ge j (i + 1) with q | q
    · obtain ⟨more, hm⟩ := kns_pre δ m p0 i
      have := ih (by omega)
      rw [hm, List.getElem?_append_left (List.getElem?_eq_some_iff.mp this).1]
      exact this
    · have : j = i + 1 := by omega
      subst this; exact h
/-- the entries that the walk has gone through are not bad -/
theorem Live.good {δ : κ → Nat → κ} {m : Nat} {p0 : κ} {bad : κ → Bool} {i : Nat} (L : Live δ m p0 bad i) {j : Nat} {x : κ × List Nat} (hj : j < i) (h : (kns δ m p0 i)[j]? = .some x) : bad x.1 = false := by
  have hs := L j hj
  unfold stop at hs
  cases e : (kns δ m p0 j)[j]? with
  | none => exact absurd e (L.some j hj)
  | some y =>
    rw [e] at hs
    have := kns_at e i (by omega)
    rw [h] at this
    cases this
    exact hs
/-- every word is met, or something not yet gone through lies ahead of it -/
theorem Ok.meets {δ : κ → Nat → κ} {m : Nat} {p0 : κ} {i : Nat} {kn : List (κ × List Nat)} (K : Ok δ m p0 i kn) : ∀ v, Dig m v →
    (∃ (j : Nat) (x : κ × List Nat), kn[j]? = some x ∧ x.1 = run δ p0 v ∧ rank m x.2 ≤ rank m v) ∨ ∃ (j : Nat) (x : κ × List Nat), i ≤ j ∧ kn[j]? = some x ∧ rank m x.2 ≤ rank m v := by
  apply snoc_ind
  · intro _
    exact .inl ⟨0, _, K.begin, rfl, Nat.le_refl _⟩
  · intro v d ih hv
    obtain ⟨hv, hd⟩ := hv.init
    have le : rank m v ≤ rank m (v ++ [d]) := by
      rw [rank_snoc]
      have : rank m v * 1 ≤ rank m v * m := Nat.mul_le_mul_left _ (by omega)
      omega
    rcases ih hv with ⟨j, x, hj, hx, hr⟩ | ⟨j, x, hij, hj, hr⟩
    · rcases Nat.lt_or_ge j i with q | q
      · obtain ⟨u, hu, hur⟩ := K.full j x d q hj hd
        obtain ⟨k, hk⟩ := List.getElem?_of_mem hu
        refine .inl ⟨k, _, hk, ?_, ?_⟩
        · show δ x.1 d = _
          rw [run_snoc, hx]
        · show rank m u ≤ _
          rw [rank_snoc]
          have : rank m x.2 * m ≤ rank m v * m := Nat.mul_le_mul_right m hr
          omega
      · exact .inr ⟨j, x, q, hj, Nat.le_trans hr le⟩
    · exact .inr ⟨j, x, hij, hj, Nat.le_trans hr le⟩
theorem Ok.le {δ : κ → Nat → κ} {m : Nat} {p0 : κ} {i j : Nat} {kn : List (κ × List Nat)} (K : Ok δ m p0 i kn) {x y : κ × List Nat} (hx : kn[i]? = some x) (hy : kn[j]? = some y) (h : i ≤ j) : rank m x.2 ≤ rank m y.2 := by
  rcases Nat.lt_or_ge i j with q | q
  · exact Nat.le_of_lt (K.up i j x y hx hy q)
  · have : i = j := by omega
    subst this
    rw [hx] at hy; cases hy
    exact Nat.le_refl _
/-- THE WALK IS RIGHT: where it tells none, no word is bad -/
theorem Res.none_right {δ : κ → Nat → κ} {m : Nat} {p0 : κ} {bad : κ → Bool} (h : Res δ m p0 bad none) : ∀ v, Dig m v → bad (run δ p0 v) = false := by
  obtain ⟨i, L, hs, hr⟩ := h
  have K := L.ok
  cases e : (kns δ m p0 i)[i]? with
  | some x => rw [e] at hr; cases hr
  | none =>
    intro v hv
    have hlen : (kns δ m p0 i).length ≤ i := List.getElem?_eq_none_iff.mp e
    rcases K.meets v hv with ⟨j, x, hj, hx, hr⟩ | ⟨j, x, hij, hj, hr⟩
    · rw [← hx]
      exact L.good (by have := (List.getElem?_eq_some_iff.mp hj).1; omega) hj
    · have := (List.getElem?_eq_some_iff.mp hj).1; omega
/-- .. and the word that it tells is bad, of the least rank -/
theorem Res.some_right {δ : κ → Nat → κ} {m : Nat} {p0 : κ} {bad : κ → Bool} {w : List Nat} (h : Res δ m p0 bad (some w)) :
    Dig m w ∧ bad (run δ p0 w) = true ∧ ∀ v, Dig m v → bad (run δ p0 v) = true → rank m w ≤ rank m v := by
  obtain ⟨i, L, hs, hr⟩ := h
  have K := L.ok
  unfold stop at hs
  cases e : (kns δ m p0 i)[i]? with
  | none => rw [e] at hr; cases hr
  | some x =>
    rw [e] at hs hr
    obtain ⟨p, u⟩ := x
    have hr : u = w := (Option.some.inj hr).symm
    subst hr
    obtain ⟨hp, hw⟩ := K.runs _ (List.mem_of_getElem? e)
    refine ⟨hw, by rw [← hp]; exact hs, fun v hv hb => ?_⟩
    rcases K.meets v hv with ⟨j, y, hj, hy, hr⟩ | ⟨j, y, hij, hj, hr⟩
    · rcases Nat.lt_or_ge j i with q | q
      · have := L.good q hj
        rw [hy, hb] at this
        cases this
      · exact Nat.le_trans (K.le e hj q) hr
    · exact Nat.le_trans (K.le e hj hij) hr
/-! ### it comes to an end -/
theorem length_le_of_nodup {α : Type} [DecidableEq α] : ∀ {l s : List α}, l.Nodup → (∀ x, x ∈ l → x ∈ s) → l.length ≤ s.length
  | [], _, _, _ => Nat.zero_le _
  | a :: l, s, hn, hs => by
    obtain ⟨ha, hn⟩ := List.nodup_cons.mp hn
    have h1 : a ∈ s := hs a (List.mem_cons_self ..)
    have h2 : l.length ≤ (s.erase a).length := length_le_of_nodup hn fun x hx => (List.mem_erase_of_ne (fun e => ha (by rw [← e]; exact hx))).mpr (hs x (List.mem_cons_of_mem _ hx))
    rw [List.length_erase_of_mem h1] at h2
    have := List.length_pos_of_mem h1
    simp only [List.length_cons]
    omega
theorem Live.bound {δ : κ → Nat → κ} {m : Nat} {p0 : κ} {bad : κ → Bool} {i : Nat} (L : Live δ m p0 bad i) {S : List κ} (hS : ∀ v, Dig m v → run δ p0 v ∈ S) : i ≤ S.length := by
  have K := L.ok
  have h1 : (kns δ m p0 i).length ≤ S.length := by
    have := length_le_of_nodup K.nd (s := S) fun x hx => by
      obtain ⟨e, he, rfl⟩ := List.mem_map.mp hx
      obtain ⟨h1, h2⟩ := K.runs e he
      rw [h1]
      exact hS _ h2
    rw [List.length_map] at this
    exact this
  rcases Nat.eq_zero_or_pos i with z | z
  · omega
  · cases e : (kns δ m p0 (i - 1))[i - 1]? with
    | none => exact absurd e (L.some (i - 1) (by omega))
    | some x =>
      have := (List.getElem?_eq_some_iff.mp (kns_at e i (by omega))).1
      omega
theorem Live.length {δ : κ → Nat → κ} {m : Nat} {p0 : κ} {bad : κ → Bool} {i : Nat} (L : Live δ m p0 bad i) {S : List κ} (hS : ∀ v, Dig m v → run δ p0 v ∈ S) : (kns δ m p0 i).length ≤ S.length := by
  have K := L.ok
  have := length_le_of_nodup K.nd (s := S) fun x hx => by
    obtain ⟨e, he, rfl⟩ := List.mem_map.mp hx
    obtain ⟨h1, h2⟩ := K.runs e he
    rw [h1]
    exact hS _ h2
  rw [List.length_map] at this
  exact this
/-! ### the same walk by other keys -/
theorem addK_map {f : κ → κ} (hf : ∀ a b, f a = f b → a = b) (kn : List (κ × List Nat)) (q : κ) (w : List Nat) : addK (kn.map fun e => (f e.1, e.2)) (f q) w = (addK kn q w).map fun e => (f e.1, e.2) := by
  unfold addK
  have e : ((kn.map fun e => (f e.1, e.2)).any fun e => decide (e.1 = f q)) = kn.any fun e => decide (e.1 = q) := by
    rw [List.any_map]
    congr 1
    funext x
    by_cases h : x.1 = q
    · simp [h]
    · have h' : ¬ f x.1 = f q := fun z => h (hf _ _ z)
      show decide (f x.1 = f q) = decide (x.1 = q)
      rw [decide_eq_false h, decide_eq_false h']
  rw [e]
  split
  · rfl
  · simp
theorem expand_map {f : κ → κ} (hf : ∀ a b, f a = f b → a = b) {δ δ' : κ → Nat → κ} (hδ : ∀ p d, δ' (f p) d = f (δ p d)) (p : κ) (w : List Nat) (kn : List (κ × List Nat)) :
    ∀ t, expand δ' (f p) w t (kn.map fun e => (f e.1, e.2)) = (expand δ p w t kn).map fun e => (f e.1, e.2) := by
  intro t
  induction t with
  | zero => rfl
  | succ t ih => rw [expand_succ, expand_succ, ih, hδ, addK_map hf]
theorem kns_map {f : κ → κ} (hf : ∀ a b, f a = f b → a = b) {δ δ' : κ → Nat → κ} (hδ : ∀ p d, δ' (f p) d = f (δ p d)) (m : Nat) (p0 : κ) : ∀ i, kns δ' m (f p0) i = (kns δ m p0 i).map fun e => (f e.1, e.2) := by
  intro i
  induction i with
  | zero => rfl
  | succ i ih =>
    show (match (kns δ' m (f p0) i)[i]? with | none => kns δ' m (f p0) i | some (p, w) => expand δ' p w m (kns δ' m (f p0) i)) = List.map _ (match (kns δ m p0 i)[i]? with | none => kns δ m p0 i | some (p, w) => expand δ p w m (kns δ m p0 i))
    rw [ih, List.getElem?_map]
    cases (kns δ m p0 i)[i]? with
    | none => rfl
    | some x => exact expand_map hf hδ x.1 x.2 _ m
theorem Res.map {f : κ → κ} (hf : ∀ a b, f a = f b → a = b) {δ δ' : κ → Nat → κ} (hδ : ∀ p d, δ' (f p) d = f (δ p d)) {m : Nat} {p0 : κ} {bad bad' : κ → Bool} (hb : ∀ p, bad' (f p) = bad p) {r : Option (List Nat)} (h : Res δ m p0 bad r) : Res δ' m (f p0) bad' r := by
  have hs : ∀ i, stop δ' m (f p0) bad' i = stop δ m p0 bad i := fun i => by
    unfold stop
    rw [kns_map hf hδ, List.getElem?_map]
    cases (kns δ m p0 i)[i]? with
    | none => rfl
    | some x => exact hb x.1
  obtain ⟨i, L, hi, rfl⟩ := h
  refine ⟨i, fun j hj => by rw [hs]; exact L j hj, by rw [hs]; exact hi, ?_⟩
  rw [kns_map hf hδ, List.getElem?_map]
  cases (kns δ m p0 i)[i]? with
  | none => rfl
  | some x => rfl
/-- a walk that never meets a bad key tells none -/
theorem Res.never {δ : κ → Nat → κ} {m : Nat} {p0 : κ} {bad : κ → Bool} {r : Option (List Nat)} (h : Res δ m p0 bad r) (hn : ∀ v, Dig m v → bad (run δ p0 v) = false) : r = none := by
  cases r with
  | none => rfl
  | some w =>
    obtain ⟨h1, h2, _⟩ := h.some_right
    rw [hn w h1] at h2
    cases h2
end
end Bf
set_option linter.all false
/-! Rules, standings, verdicts; plain Lean. -/
namespace Sl
open Bf
section
variable {N : Type} [DecidableEq N]

inductive Rul (N : Type) where
  | must (n : N) | only (ns : List N) | note (n : N) (ks : List Int) | ahead (a b : N) | never (a b : N) | most (n : N) (k : Nat) | next (a b : N)
  deriving DecidableEq
/-- a letter: a row's name and note -/
abbrev Ltr (N : Type) := N × Int
/-- a rule's number behind a row -/
def stepR : Rul N → Nat → Ltr N → Option Nat
  | .must n, s, l => some (if l.1 = n then 1 else s)
  | .only ns, _, l => if l.1 ∈ ns then some 0 else none
  | .note n ks, _, l => if l.1 = n ∧ ¬ l.2 ∈ ks then none else some 0
  | .ahead a b, s, l => if l.1 = b ∧ s = 0 then none else some (if l.1 = a then 1 else s)
  | .never a b, s, l => if l.1 = b ∧ s = 1 then none else some (if l.1 = a then 1 else s)
  | .most n k, s, l => if s + (if l.1 = n then 1 else 0) ≤ k then some (s + (if l.1 = n then 1 else 0)) else none
  | .next a b, s, l => if s = 1 ∧ ¬ l.1 = b then none else some (if l.1 = a then 1 else 0)
def endR : Rul N → Nat → Bool
  | .must _, s => decide (s ≠ 0)
  | .next _ _, s => decide (s ≠ 1)
  | _, _ => true
def capR : Rul N → Nat
  | .must _ => 1 | .only _ => 0 | .note _ _ => 0 | .ahead _ _ => 1 | .never _ _ => 1 | .most _ k => k | .next _ _ => 1
def runR (r : Rul N) (w : List (Ltr N)) : Option Nat := w.foldl (fun s l => s.bind fun n => stepR r n l) (some 0)
theorem runR_snoc (r : Rul N) (w : List (Ltr N)) (l : Ltr N) : runR r (w ++ [l]) = (runR r w).bind fun n => stepR r n l := by
  simp [runR, List.foldl_append]
/-- whether a log keeps a rule -/
def fitR (r : Rul N) (w : List (Ltr N)) : Bool := match runR r w with
  | none => false
  | some s => endR r s
def fits (rs : List (Rul N)) (w : List (Ltr N)) : Bool := rs.all fun r => fitR r w
def parts (A B : List (Rul N)) (w : List (Ltr N)) : Bool := fits A w != fits B w

theorem stepR_cap {r : Rul N} {s t : Nat} {l : Ltr N} (hs : s ≤ capR r) (h : stepR r s l = some t) : t ≤ capR r := by
  cases r with
  | must n => simp only [stepR, Option.some.injEq] at h; subst h; simp only [capR] at *; split <;> omega
  | only ns => simp only [stepR] at h; split at h <;> cases h; exact Nat.le_refl _
  | note n ks => simp only [stepR] at h; split at h <;> cases h; exact Nat.le_refl _
  | ahead a b => simp only [stepR] at h; split at h <;> cases h; simp only [capR] at *; split <;> omega
  | never a b => simp only [stepR] at h; split at h <;> cases h; simp only [capR] at *; split <;> omega
  | most n k =>
    have h : (if s + (if l.1 = n then 1 else 0) ≤ k then some (s + (if l.1 = n then 1 else 0)) else none) = some t := h
    generalize hz : s + (if l.1 = n then 1 else 0) = z at h
    by_cases q : z ≤ k
    · rw [if_pos q] at h
      cases h
      exact q
    · rw [if_neg q] at h
      cases h
  | next a b => simp only [stepR] at h; split at h <;> cases h; simp only [capR] at *; split <;> omega
theorem runR_cap (r : Rul N) : ∀ w t, runR r w = some t → t ≤ capR r := by
  apply snoc_ind
  · intro t h; cases h; exact Nat.zero_le _
  · intro w l ih t h
    rw [runR_snoc] at h
    cases e : runR r w with
    | none => rw [e] at h; cases h
    | some s => rw [e] at h; exact stepR_cap (ih s e) h

/-! ### standings of a policy -/
/-- a standing; none: broken -/
abbrev Std := Option (List Nat)
def tolds (rs : List (Rul N)) (ss : List Nat) (l : Ltr N) : List (Option Nat) := (rs.zip ss).map fun p => stepR p.1 p.2 l
/-- none, where one is none; else all -/
def gather (xs : List (Option Nat)) : Std := if none ∈ xs then none else some (xs.map fun x => x.getD 0)
def stepP (rs : List (Rul N)) (ss : List Nat) (l : Ltr N) : Std := gather (tolds rs ss l)
def stepS (rs : List (Rul N)) (st : Std) (l : Ltr N) : Std := match st with
  | none => none
  | some ss => stepP rs ss l
def endP (rs : List (Rul N)) (ss : List Nat) : Bool := (rs.zip ss).all fun p => endR p.1 p.2
def endS (rs : List (Rul N)) (st : Std) : Bool := match st with
  | none => false
  | some ss => endP rs ss
def firstS (rs : List (Rul N)) : Std := some (List.replicate rs.length 0)
def runS (rs : List (Rul N)) (w : List (Ltr N)) : Std := w.foldl (stepS rs) (firstS rs)
theorem runS_snoc (rs : List (Rul N)) (w : List (Ltr N)) (l : Ltr N) : runS rs (w ++ [l]) = stepS rs (runS rs w) l := by
  simp [runS, List.foldl_append]
theorem zip_map_self {α β : Type} (f : α → β) : ∀ l : List α, l.zip (l.map f) = l.map fun x => (x, f x)
  | [] => rfl
  | a :: l => by simp [zip_map_self f l]
theorem runS_eq (rs : List (Rul N)) : ∀ w, runS rs w = gather (rs.map fun r => runR r w) := by
  apply snoc_ind
  · show firstS rs = _
    unfold firstS gather
    rw [if_neg (by intro h; obtain ⟨r, _, e⟩ := List.mem_map.mp h; cases e)]
    congr 1
    rw [List.map_map]
    have : ((fun x : Option Nat => x.getD 0) ∘ fun r : Rul N => runR r []) = fun _ => 0 := rfl
    rw [this, List.map_const']
  · intro w l ih
    rw [runS_snoc, ih]
    by_cases h : (none : Option Nat) ∈ rs.map fun r => runR r w
    · have e1 : gather (rs.map fun r => runR r w) = none := by unfold gather; rw [if_pos h]
      rw [e1]
      obtain ⟨r, hr, e⟩ := List.mem_map.mp h
      have h2 : (none : Option Nat) ∈ rs.map fun r => runR r (w ++ [l]) := List.mem_map.mpr ⟨r, hr, by rw [runR_snoc, e]; rfl⟩
      unfold gather
      rw [if_pos h2]
      rfl
    · have e1 : gather (rs.map fun r => runR r w) = some ((rs.map fun r => runR r w).map fun x => x.getD 0) := by unfold gather; rw [if_neg h]
      rw [e1]
      show stepP rs _ l = _
      unfold stepP
      congr 1
      unfold tolds
      rw [List.map_map, zip_map_self, List.map_map]
      apply List.map_congr_left
      intro r hr
      show stepR r ((runR r w).getD 0) l = _
      rw [runR_snoc]
      cases e : runR r w with
      | none => exact absurd (List.mem_map.mpr ⟨r, hr, e⟩) h
      | some s => rfl
theorem endS_runS (rs : List (Rul N)) (w : List (Ltr N)) : endS rs (runS rs w) = fits rs w := by
  rw [runS_eq]
  unfold fits
  by_cases h : (none : Option Nat) ∈ rs.map fun r => runR r w
  · have e1 : gather (rs.map fun r => runR r w) = none := by unfold gather; rw [if_pos h]
    rw [e1]
    show false = _
    obtain ⟨r, hr, e⟩ := List.mem_map.mp h
    symm
    rw [List.all_eq_false]
    exact ⟨r, hr, by unfold fitR; rw [e]; exact Bool.false_ne_true⟩
  · have e1 : gather (rs.map fun r => runR r w) = some ((rs.map fun r => runR r w).map fun x => x.getD 0) := by unfold gather; rw [if_neg h]
    rw [e1]
    show endP rs _ = _
    unfold endP
    rw [List.map_map, zip_map_self, List.all_map]
    rw [Bool.eq_iff_iff, List.all_eq_true, List.all_eq_true]
    have key : ∀ r ∈ rs, endR r ((runR r w).getD 0) = fitR r w := fun r hr => by
      unfold fitR
      cases e : runR r w with
      | none => exact absurd (List.mem_map.mpr ⟨r, hr, e⟩) h
      | some s => rfl
    constructor
    · intro q r hr
      rw [← key r hr]
      exact q r hr
    · intro q r hr
      show endR r ((runR r w).getD 0) = true
      rw [key r hr]
      exact q r hr
/-! ### pairs of standings -/
abbrev Pr := Std × Std
def firstQ (A B : List (Rul N)) : Pr := (firstS A, firstS B)
def stepQ (A B : List (Rul N)) (p : Pr) (l : Ltr N) : Pr := (stepS A p.1 l, stepS B p.2 l)
def differs (A B : List (Rul N)) (p : Pr) : Bool := endS A p.1 != endS B p.2
/-- by a letter's place -/
def stepD (A B : List (Rul N)) (L : List (Ltr N)) (p : Pr) (d : Nat) : Pr := match L[d]? with
  | none => p
  | some l => stepQ A B p l
/-- the letters of a word -/
def spell (L : List (Ltr N)) (w : List Nat) : List (Ltr N) := w.filterMap fun d => L[d]?
theorem spell_snoc (L : List (Ltr N)) (w : List Nat) {d : Nat} {l : Ltr N} (h : L[d]? = some l) : spell L (w ++ [d]) = spell L w ++ [l] := by
  simp [spell, List.filterMap_append, h]
theorem run_eq (A B : List (Rul N)) (L : List (Ltr N)) : ∀ w, Dig L.length w → run (stepD A B L) (firstQ A B) w = (runS A (spell L w), runS B (spell L w)) := by
  apply snoc_ind
  · intro _; rfl
  · intro w d ih h
    obtain ⟨hw, hd⟩ := h.init
    have e : L[d]? = some L[d] := List.getElem?_eq_getElem hd
    rw [run_snoc, ih hw, spell_snoc L w e, runS_snoc, runS_snoc]
    show (match L[d]? with | none => _ | some l => stepQ A B _ l) = _
    rw [e]
    rfl
theorem differs_run (A B : List (Rul N)) (L : List (Ltr N)) {w : List Nat} (h : Dig L.length w) : differs A B (run (stepD A B L) (firstQ A B) w) = parts A B (spell L w) := by
  rw [run_eq A B L w h]
  show (endS A (runS A (spell L w)) != endS B (runS B (spell L w))) = _
  rw [endS_runS, endS_runS]
  rfl
/-- what the walk of two policies tells, over these letters -/
def Told (A B : List (Rul N)) (L : List (Ltr N)) (r : Option (List Nat)) : Prop := Res (stepD A B L) L.length (firstQ A B) (differs A B) r
theorem Told.swap {A B : List (Rul N)} {L : List (Ltr N)} {r : Option (List Nat)} (h : Told A B L r) : Told B A L r := by
  refine Res.map (f := Prod.swap) (δ := stepD A B L) (δ' := stepD B A L) (p0 := firstQ A B) (bad := differs A B) (fun a b e => ?_) (fun p d => ?_) (fun p => ?_) h
  · have := congrArg Prod.swap e
    simpa using this
  · unfold stepD
    cases L[d]? <;> rfl
  · show (endS B p.2 != endS A p.1) = (endS A p.1 != endS B p.2)
    cases endS B p.2 <;> cases endS A p.1 <;> rfl
theorem Told.self {A : List (Rul N)} {L : List (Ltr N)} {r : Option (List Nat)} (h : Told A A L r) : r = none := by
  refine Res.never h fun v hv => ?_
  rw [differs_run A A L hv]
  unfold parts
  cases fits A (spell L v) <;> rfl
/-! ### few pairs -/
/-- all lists of n numbers up to 3 -/
def lists4 : Nat → List (List Nat)
  | 0 => [[]]
  | n + 1 => (lists4 n).flatMap fun l => [0 :: l, 1 :: l, 2 :: l, 3 :: l]
theorem mem_lists4 : ∀ {l : List Nat}, (∀ x, x ∈ l → x ≤ 3) → l ∈ lists4 l.length
  | [], _ => List.mem_singleton.mpr rfl
  | a :: l, h => by
    have ih := mem_lists4 (l := l) fun x hx => h x (List.mem_cons_of_mem _ hx)
    have ha := h a (List.mem_cons_self ..)
    refine List.mem_flatMap.mpr ⟨l, ih, ?_⟩
    match a, ha with
    | 0, _ => simp
    | 1, _ => simp
    | 2, _ => simp
    | 3, _ => simp
def stds (n : Nat) : List Std := none :: (lists4 n).map some
def pairs (a b : Nat) : List Pr := (stds a).flatMap fun x => (stds b).map fun y => (x, y)
/-- a rule that counts to three at most -/
def Small (r : Rul N) : Prop := capR r ≤ 3
theorem runS_in {rs : List (Rul N)} (h : ∀ r, r ∈ rs → Small r) (w : List (Ltr N)) : runS rs w ∈ stds rs.length := by
  rw [runS_eq]
  unfold gather
  split
  · exact List.mem_cons_self ..
  · refine List.mem_cons_of_mem _ (List.mem_map.mpr ⟨_, ?_, rfl⟩)
    have := mem_lists4 (l := (rs.map fun r => runR r w).map fun x => x.getD 0) fun x hx => by
      rw [List.map_map] at hx
      obtain ⟨r, hr, rfl⟩ := List.mem_map.mp hx
      show (runR r w).getD 0 ≤ 3
      cases e : runR r w with
      | none => exact Nat.zero_le _
      | some t => exact Nat.le_trans (runR_cap r w t e) (h r hr)
    simpa using this
theorem run_in {A B : List (Rul N)} (hA : ∀ r, r ∈ A → Small r) (hB : ∀ r, r ∈ B → Small r) (L : List (Ltr N)) {w : List Nat} (h : Dig L.length w) : run (stepD A B L) (firstQ A B) w ∈ pairs A.length B.length := by
  rw [run_eq A B L w h]
  exact List.mem_flatMap.mpr ⟨_, runS_in hA _, List.mem_map.mpr ⟨_, runS_in hB _, rfl⟩⟩
theorem lists4_len : ∀ n, (lists4 n).length = 4 ^ n
  | 0 => rfl
  | n + 1 => by
    have e : ∀ l : List (List Nat), (l.flatMap fun l => [0 :: l, 1 :: l, 2 :: l, 3 :: l]).length = 4 * l.length := by
      intro l
      induction l with
      | nil => rfl
      | cons a l ih => rw [List.flatMap_cons, List.length_append, ih]; simp; omega
    rw [lists4, e, lists4_len n, Nat.pow_succ]
    omega
theorem pairs_len (a b : Nat) : (pairs a b).length = (4 ^ a + 1) * (4 ^ b + 1) := by
  have e : ∀ (l : List Std) (m : List Std), (l.flatMap fun x => m.map fun y => (x, y)).length = l.length * m.length := by
    intro l m
    induction l with
    | nil => simp
    | cons x l ih => rw [List.flatMap_cons, List.length_append, ih, List.length_map, List.length_cons, Nat.add_mul]; omega
  unfold pairs
  rw [e]
  simp [stds, lists4_len]
theorem pairs_few {a b : Nat} (ha : a ≤ 3) (hb : b ≤ 3) : (pairs a b).length ≤ 4225 := by
  rw [pairs_len]
  have h1 : 4 ^ a ≤ 4 ^ 3 := Nat.pow_le_pow_right (by decide) ha
  have h2 : 4 ^ b ≤ 4 ^ 3 := Nat.pow_le_pow_right (by decide) hb
  exact Nat.mul_le_mul (Nat.succ_le_succ h1) (Nat.succ_le_succ h2)
/-- policies as the law draws them -/
structure Pol (A : List (Rul N)) : Prop where
  few : A.length ≤ 3
  small : ∀ r, r ∈ A → Small r
abbrev LiveQ (A B : List (Rul N)) (L : List (Ltr N)) (i : Nat) : Prop := Live (stepD A B L) L.length (firstQ A B) (differs A B) i
abbrev knQ (A B : List (Rul N)) (L : List (Ltr N)) (i : Nat) : List (Pr × List Nat) := kns (stepD A B L) L.length (firstQ A B) i
theorem live_few {A B : List (Rul N)} (hA : Pol A) (hB : Pol B) {L : List (Ltr N)} {i : Nat} (h : LiveQ A B L i) : i ≤ 4225 ∧ (knQ A B L i).length ≤ 4225 :=
  ⟨Nat.le_trans (Live.bound h (S := pairs A.length B.length) fun v hv => run_in hA.small hB.small L hv) (pairs_few hA.few hB.few),
    Nat.le_trans (Live.length h (S := pairs A.length B.length) fun v hv => run_in hA.small hB.small L hv) (pairs_few hA.few hB.few)⟩
end
end Sl
set_option Elab.async false
set_option linter.all false
set_option maxRecDepth 100000
/-! Own rules: starred targets at the end of a tuple of targets. -/
namespace Sr
open PySem PySem.Spec PyProof.Rows L2

/-- two readings of one namespace agree -/
theorem ns_fun {h : Heap} {a : Addr} {m m' : Str → Option Value} (x : h.Ns a m) (y : h.Ns a m') : m' = m := by
  obtain ⟨o, es, ep, e, d, _, f⟩ := x
  obtain ⟨o', es', ep', e', d', _, f'⟩ := y
  rw [e] at e'
  cases e'
  rw [d] at d'
  cases d'
  funext k
  rw [← f k, ← f' k]
/-- where no object stands, none is tracked -/
theorem untracked {X : Cx} {pins : List (Addr × Obj)} {σ : L2.St} {H : Hp} {s : Shared} {D : Addr} (I : Inv X pins σ H s) (hD : s.heap.get? D = none) : H D = none := by
  cases q : H D with
  | none => rfl
  | some o =>
    have there : ∃ u, s.heap.get? D = some u := by
      have x := I.hok D o q
      cases o with
      | lst xs => obtain ⟨_, _, _, _, e⟩ := x; exact ⟨_, e⟩
      | tup xs => obtain ⟨_, _, _, o, e, _⟩ := x; exact ⟨_, e⟩
      | dK kvs => obtain ⟨_, _, _, _, o, _, _, e, _⟩ := x; exact ⟨_, e⟩
      | dT kvs => obtain ⟨_, _, _, _, o, _, _, e, _⟩ := x; exact ⟨_, e⟩
      | set S n => obtain ⟨o, _, _, _, e, _⟩ := x; exact ⟨_, e⟩
      | ins C dx fs => obtain ⟨_, _, _, e, _⟩ := x; exact ⟨_, e⟩
      | own y => exact x
      | xd fs => obtain ⟨_, ⟨_, _, _, e, _⟩, _⟩ := x; exact ⟨_, e⟩
      | rng lo hi => obtain ⟨_, _, _, e⟩ := x; exact ⟨_, e⟩
      | frz ob u => obtain ⟨e, _⟩ := x; exact ⟨_, e⟩
      | tbl ps => exact ⟨_, x⟩
      | met f y => exact ⟨_, x⟩
      | ext p => obtain ⟨_, e, _⟩ := x; exact e
    obtain ⟨u, e⟩ := there
    rw [hD] at e
    cases e
/-- behind a rule of the ledger: all but the frame's own object stands, the frame's map stands, one new object at D is tracked -/
theorem inv_ledger {X : Cx} {pins : List (Addr × Obj)} {σ : L2.St} {H : Hp} {s : Shared} {h' : Heap} {tk : Nat} {D : Addr} {o : HO} {m : Str → Option Value} (I : Inv X pins σ H s)
    (hm : s.heap.Ns X.env.locals m) (hm' : h'.Ns X.env.locals m) (k : ∀ b u, b ≠ X.env.locals → s.heap.get? b = some u → h'.get? b = some u) (hD : s.heap.get? D = none)
    (new : ObjOk X.prog X.w (upd H D o) h' D o) : Inv X pins σ (upd H D o) { s with heap := h', toks := tk } := by
  have hn : H D = none := untracked I hD
  have old : ∀ b u, s.heap.get? b = some u → b ≠ D := fun b u e z => by
    rw [z, hD] at e
    cases e
  have tr : ∀ b u, H b = some u → b ≠ X.env.locals := fun b u e z => by
    rw [z, I.free] at e
    cases e
  refine I.step (g' := s.gens) (d' := s.drawn) (ch := []) (fun _ z => nomatch z) (fun b u h1 _ _ e _ => k b u h1 e) (fun b u h1 _ _ e _ => ⟨u.slots, k b u h1 e⟩) (fun b u _ e n => ?_) (fun b u _ e => ?_)
    (fun b xs e => ?_) (fun b u xs e => ?_) (fun b ps e => ⟨#[], ?_⟩) (fun m2 h2 => ?_) (fun b u e => ?_) I.bare
  · rw [upd_ne (old b u e)]
    exact n
  · by_cases hb : b = X.env.locals
    · obtain ⟨o', es, ep, e', _⟩ := hm'
      exact ⟨o', by rw [hb]; exact e'⟩
    · exact ⟨u, k b u hb e⟩
  · rw [upd_ne (ne_of_none e hn)]
    exact e
  · rw [upd_ne (ne_of_none e hn)]
    exact e
  · rw [upd_ne (ne_of_none e hn), e]
    simp
  · rw [ns_fun hm h2]
    exact hm'
  · by_cases hb : b = D
    · subst hb
      rw [upd_same] at e
      cases e
      exact new
    · rw [upd_ne hb] at e
      refine (I.hok b u e).stay (fun c v hc q => ?_) (fun c q => by rw [upd_ne (ne_of_none q hn)]; exact q) fun c xs q => by rw [upd_ne (ne_of_none q hn)]; exact q
      rcases hc with hc | hc
      · exact k c v (by rw [hc]; exact tr b u e) q
      · exact k c v (tr c _ hc) q
section
variable {X : Cx}
theorem pgs_star {e : Expr} {p : Pos} {t : TG} (h1 : PG X e t) (hs : (assignEach [.Starred e p] X.env).map (·.2) = [assign e X.env] := by rfl) : PGs X [.Starred e p] (gCons t gNil) := by
  refine ⟨fun pins s σ H vs us Q I r h => ?_⟩
  obtain ⟨v, vr, e1, h⟩ := h
  subst e1
  cases r with
  | cons r rr =>
    rw [hs]
    refine assignInOrder_cons (thn (h1.run pins s σ H _ _ _ I r h) fun _ s1 ⟨σ1, H1, I1, e2, q1⟩ => ?_)
    subst e2
    cases rr
    exact assignInOrder_nil ⟨σ1, H1, I1, q1⟩
/-- (a, .., *rest) = a tuple of i items at least -/
def gStar (K : PySem.W.Frag) (i : Nat) (t : TGs) : TG := fun v σ H Q => ∃ a xs, v = .ref a ∧ SqT K H a xs ∧ i ≤ xs.length ∧ xs.length ≤ 100 ∧ ∀ D, H D = none → t (xs.take i ++ [.ref D]) σ (upd H D (.lst (xs.drop i))) Q
theorem pg_star {es : List Expr} {k i : Nat} {t : TGs} {pos : Pos} (hc : X.calm = true) (h : PGs X es t) (hn : (assignEach es X.env).length = i + 1 := by rfl) (hst : (assignEach es X.env).findIdx? (·.1) = some i := by rfl) :
    PG X (.Tuple es k pos) (gStar X.K i t) := by
  refine ⟨fun pins s σ H v u Q I r hw => ?_⟩
  obtain ⟨a, xs, e1, hq, hl, hz, hw⟩ := hw
  subst e1
  cases r
  obtain ⟨its, rv, ht, _⟩ := I.tuple hq
  have len := rv.length
  obtain ⟨m, hm, _⟩ := id I.loc
  have F : Fr (Att.noObjs s.heap) X.env.locals s.heap m := Att.fr_all hm
  have hLs : ∃ oL, s.heap.get? X.env.locals = some oL := by
    obtain ⟨oL, _, _, e, _⟩ := hm
    exact ⟨oL, e⟩
  let news := allNews (Att.noObjs s.heap) s.heap X.env.locals
  have N : News (Att.noObjs s.heap) X.env.locals s.heap news := news_all
  have inN : ∀ b u, b ≠ X.env.locals → s.heap.get? b = some u → (b, u) ∈ news := fun b u hb e => mem_allNews hb (Att.noObjs_get _ _) e
  refine PySem.W.kun_assignT (n := i + 1) (i := i) (mids := its.drop i) (lasts := []) F N ht (I.ok.hd hc) hn hst (by omega) ?_ ?_ rfl ?_ ?_ fun D h' tk F' N' hD => ?_
  · show i + 1 ≤ its.toArray.size + 1
    rw [List.size_toArray]
    omega
  · rw [List.size_toArray]
    omega
  · show (its.drop i).take (its.toArray.size + 1 - (i + 1)) = its.drop i
    rw [List.size_toArray, List.take_of_length_le (by rw [List.length_drop]; omega)]
  · show (its.drop i).drop (its.toArray.size + 1 - (i + 1)) = []
    rw [List.size_toArray, List.drop_eq_nil_iff, List.length_drop]
    omega
  · have hDL : D ≠ X.env.locals := (N' _ (List.mem_cons_self ..)).2.1
    have hDget : h'.get? D = some (PySem.W.listOf (its.drop i).toArray 0) := (N' _ (List.mem_cons_self ..)).1
    have keep : ∀ b u, b ≠ X.env.locals → s.heap.get? b = some u → h'.get? b = some u := fun b u hb e => (N' _ (List.mem_cons_of_mem _ (inN b u hb e))).1
    have hfree : s.heap.get? D = none := by
      cases q : s.heap.get? D with
      | none => rfl
      | some u => exact absurd (hD _ (inN D u hDL q)) (Nat.lt_irrefl _)
    have hnone : H D = none := untracked I hfree
    have I1 := inv_ledger (tk := tk) (o := .lst (xs.drop i)) I hm F'.ns keep hfree ⟨by rw [List.length_drop, sizeLine_eq]; omega, its.drop i, 0, rv.drop i, hDget⟩
    refine h.run pins _ σ _ (xs.take i ++ [.ref D]) _ Q I1 ?_ (hw D hnone)
    rw [List.append_nil]
    exact (rv.take i).append (.cons rfl .nil)
end
end Sr
set_option Elab.async false
set_option linter.all false
set_option maxRecDepth 100000
/-! Own rules: zip of two sequences (each a list or a tuple), strict or not. -/
namespace Zs
open PySem PySem.Spec PyProof.Rows

/-- a zip that is told to be strict -/
abbrev IsZipS (h : Heap) (z TI TO : Addr) (f0 : Value) : Prop :=
  h.get? z = some { cls := .type "zip", dict := none, data := .fields #[f0, .bool false, .bool true, .ref TI, .ref TO], slots := #[] }
/-- a zip, strict or not -/
abbrev IsZipB (b : Bool) (h : Heap) (z TI TO : Addr) (f0 : Value) : Prop :=
  h.get? z = some { cls := .type "zip", dict := none, data := .fields #[f0, .bool false, .bool b, .ref TI, .ref TO], slots := #[] }

section
variable {prog : Program} {w : World} {A : Around} {E : Value → Shared → Prop} {s : Shared} {z TI TO i1 i2 : Addr} {fp1 fp2 : List Addr} {n1 n2 i : Nat} {P1 P2 : Nat → Value → Prop} {St1 St2 : Nat → Heap → Prop} {a1 a2 : Value}

theorem nextOrEnd_item {it : Addr} {fp : List Addr} {n : Nat} {P : Nat → Value → Prop} {St : Nat → Heap → Prop} (D : Draws prog w A it fp n P St) {Q : Option Value → Shared → Prop} (hlt : i < n) (st : St i s.heap)
    (h : ∀ x h' tk, P i x → St (i + 1) h' → Heap.SameBut it s.heap h' → Q (some x) { s with heap := h', toks := tk }) : wpAny (model prog w) A (Builtin.SmallTypes.nextOrEnd (.ref it)) Q E s := by
  unfold Builtin.SmallTypes.nextOrEnd
  refine wpAny_bind (wpAny_attempt (D.item i s _ _ hlt st fun x h' tk hp sn hs => ?_))
  exact wpAny_pure (h x h' tk hp sn hs)
theorem nextOrEnd_end {it : Addr} {fp : List Addr} {n : Nat} {P : Nat → Value → Prop} {St : Nat → Heap → Prop} (D : Draws prog w A it fp n P St) {Q : Option Value → Shared → Prop} (st : St n s.heap)
    (h : ∀ h', Heap.ExtBut it s.heap h' → Q none { s with heap := h' }) : wpAny (model prog w) A (Builtin.SmallTypes.nextOrEnd (.ref it)) Q E s := by
  unfold Builtin.SmallTypes.nextOrEnd
  refine wpAny_bind (wpAny_attempt (D.done s _ _ st fun h' e hb he => ?_))
  obtain ⟨o, ho, hc⟩ := he
  refine wpAny_bind (wpAny_isInstance (T := "StopIteration") (b := true) ⟨o, ho, hc⟩ isSubtype_stop ?_)
  exact wpAny_pure (h h' hb)

theorem zipS_next_item {Q : Value → Shared → Prop} (S : ZipSep2 z TI TO i1 i2 fp1 fp2) (D1 : Draws prog w A i1 fp1 n1 P1 St1) (D2 : Draws prog w A i2 fp2 n2 P2 St2)
    (hz : IsZipS s.heap z TI TO .none) (hTI : IsTupOf2 s.heap TI (.ref i1) (.ref i2)) (hTO : IsTupOf2 s.heap TO a1 a2) (st1 : St1 i s.heap) (st2 : St2 i s.heap) (hlt1 : i < n1) (hlt2 : i < n2)
    (hQ : ∀ x1 x2 h' tk, P1 i x1 → P2 i x2 → IsZipS h' z TI TO (rawInt s.heap.objs.size) → IsTupOf2 h' TO x1 x2 → St1 (i + 1) h' → St2 (i + 1) h' → IsTupOf2 h' s.heap.objs.size x1 x2 →
      (∀ c o, c ≠ z → c ≠ TO → c ≠ i1 → c ≠ i2 → s.heap.get? c = some o → h'.get? c = some o) → Q (.ref s.heap.objs.size) { s with heap := h', toks := tk }) :
    wpAny (model prog w) A (Builtin.«zip.__next__» ⟨[.ref z], []⟩) (fun fin s' => ∃ v, fin = .done (.ret v) ∧ Q v s') E s := by
  obtain ⟨hp, g, d, tk0, os⟩ := s
  show wpAny _ _ (field (.ref z) 2 >>= _) _ _ _
  refine wpAny_bind (wpAny_field hz rfl (x := .bool true) rfl ?_)
  show wpAny _ _ (field (.ref z) 3 >>= _) _ _ _
  refine wpAny_bind (wpAny_field hz rfl (x := .ref TI) rfl (wpAny_bind (wpAny_seqItems hTI rfl ?_)))
  show wpAny _ _ (Builtin.SmallTypes.ownedTupleIsFree (.ref z) >>= _) _ _ _
  refine wpAny_bind ?_
  unfold Builtin.SmallTypes.ownedTupleIsFree
  refine wpAny_bind (wpAny_field hz rfl (x := .none) rfl (wpAny_pure ?_))
  simp only [if_true]
  refine wpAny_bind (wpAny_rule (wpAny_bind (wpAny_field hz rfl (x := .ref TO) rfl (wpAny_bind (wpAny_setField_rec hz (by simp) fun g0 hz0 hs0 => ?_)))))
  replace hz0 : IsZipS g0 z TI TO .ellipsis := hz0
  replace hs0 : Heap.SameBut z hp g0 := hs0
  refine wpAny_bind ?_
  simp only [List.zipIdx_cons, List.zipIdx_nil, List.forIn_cons, List.forIn_nil]
  refine wpAny_bind (wpAny_bind (wpAny_onRaise ?_))
  show wpAny _ _ (Builtin.SmallTypes.nextOrEnd (.ref i1)) _ _ ⟨g0, g, d, tk0, os⟩
  refine nextOrEnd_item D1 hlt1 (D1.over st1 hs0 S.zf1) fun x1 p1 tk1 hx1 sn1 hp1 => ?_
  replace hp1 : Heap.SameBut i1 g0 p1 := hp1
  have hU1 : IsTupOf2 p1 TO a1 a2 := hp1.extBut _ _ S.Ti1 (hs0.extBut _ _ S.TOz hTO)
  refine wpAny_bind (wpAny_seqItems (s := ⟨p1, g, d, tk1, os⟩) hU1 rfl (wpAny_bind (updateSeq_IsTupOf2 (s := ⟨p1, g, d, tk1, os⟩) hU1 fun g1 hT1 hs1 => ?_)))
  replace hT1 : IsTupOf2 g1 TO x1 a2 := hT1
  replace hs1 : Heap.SameBut TO p1 g1 := hs1
  refine wpAny_bind (wpAny_letGo (wpAny_pure (wpAny_bind (wpAny_bind (wpAny_onRaise ?_)))))
  show wpAny _ _ (Builtin.SmallTypes.nextOrEnd (.ref i2)) _ _ ⟨g1, g, d, tk1, os⟩
  refine nextOrEnd_item D2 hlt2 (D2.over (D2.over (D2.over st2 hs0 S.zf2) hp1 S.sep1_2) hs1 S.Tf2) fun x2 p2 tk2 hx2 sn2 hp2 => ?_
  replace hp2 : Heap.SameBut i2 g1 p2 := hp2
  have hU2 : IsTupOf2 p2 TO x1 a2 := hp2.extBut _ _ S.Ti2 hT1
  refine wpAny_bind (wpAny_seqItems (s := ⟨p2, g, d, tk2, os⟩) hU2 rfl (wpAny_bind (updateSeq_IsTupOf2 (s := ⟨p2, g, d, tk2, os⟩) hU2 fun g2 hT2 hs2 => ?_)))
  replace hT2 : IsTupOf2 g2 TO x1 x2 := hT2
  replace hs2 : Heap.SameBut TO p2 g2 := hs2
  refine wpAny_bind (wpAny_letGo (wpAny_pure (wpAny_pure (wpAny_bind (wpAny_seqItems (s := ⟨g2, g, d, tk2, os⟩) hT2 rfl (wpAny_bind (wpAny_newTuple ?_)))))))
  have hsz : g2.objs.size = hp.objs.size := by rw [hs2.1, hp2.1, hs1.1, hp1.1, hs0.1]
  have hzz : IsZipS g2 z TI TO .ellipsis := (hs2.extBut _ _ S.TOz.symm (hp2.extBut _ _ S.zi2 (hs1.extBut _ _ S.TOz.symm (hp1.extBut _ _ S.zi1 hz0))))
  have hkk : ∀ c o, c ≠ z → c ≠ TO → c ≠ i1 → c ≠ i2 → hp.get? c = some o → g2.get? c = some o := fun c o cz cT c1 c2 e =>
    (hs2.extBut _ _ cT (hp2.extBut _ _ c2 (hs1.extBut _ _ cT (hp1.extBut _ _ c1 (hs0.extBut _ _ cz e)))))
  have hj1 : St1 (i + 1) g2 := (D1.over (D1.over (D1.over sn1 hs1 S.Tf1) hp2 S.sep2_1) hs2 S.Tf1)
  have hj2 : St2 (i + 1) g2 := (D2.over sn2 hs2 S.Tf2)
  have hzlt : z < g2.objs.size := Heap.lt_size hzz
  show wpAny _ _ (Builtin.SmallTypes.ownedTupleHandOut (.ref z) (.ref g2.objs.size) >>= _) _ _ ⟨g2.push { cls := .type "tuple", data := .seq #[x1, x2] }, g, d, tk2, os⟩
  refine wpAny_bind ?_
  unfold Builtin.SmallTypes.ownedTupleHandOut
  have hz6 : IsZipS (g2.push { cls := .type "tuple", data := .seq #[x1, x2] }) z TI TO .ellipsis := Heap.get?_push_of_some _ hzz
  refine wpAny_bind (wpAny_setField_rec hz6 (by simp) fun h7 hz7 hs7 => ?_)
  replace hz7 : IsZipS h7 z TI TO (rawInt g2.objs.size) := hz7
  refine wpAny_setField_rec hz7 (by simp) fun h8 hz8 hs8 => ?_
  replace hz8 : IsZipS h8 z TI TO (rawInt g2.objs.size) := hz8
  replace hs7 : Heap.SameBut z (g2.push { cls := .type "tuple", data := .seq #[x1, x2] }) h7 := hs7
  replace hs8 : Heap.SameBut z h7 h8 := hs8
  have up : ∀ c o, c ≠ z → g2.get? c = some o → h8.get? c = some o := fun c o c1 e => hs8.extBut _ _ c1 (hs7.extBut _ _ c1 (Heap.get?_push_of_some _ e))
  have hT8 : IsTupOf2 h8 g2.objs.size x1 x2 := hs8.extBut _ _ (Nat.ne_of_gt hzlt) (hs7.extBut _ _ (Nat.ne_of_gt hzlt) (Heap.get?_push_size _ rfl))
  rw [hsz] at hz8 hT8
  refine wpAny_pure ⟨_, rfl, ?_⟩
  show Q (.ref g2.objs.size) ⟨h8, g, d, tk2, os⟩
  rw [hsz]
  exact hQ x1 x2 h8 tk2 hx1 hx2 hz8 (up _ _ S.TOz hT2) (D1.frame _ _ _ hj1 fun b hb o e => up b o (fun q => S.zf1 (q ▸ hb)) e) (D2.frame _ _ _ hj2 fun b hb o e => up b o (fun q => S.zf2 (q ▸ hb)) e) hT8 fun c o cz cT c1 c2 e => up c o cz (hkk c o cz cT c1 c2 e)
/-- StopIteration, raised where nothing is handled -/
theorem stop_it {α : Type} {Q : α → Shared → Prop} (hh : A.handled = none) (h : ∀ h' e, (∀ c o, s.heap.get? c = some o → h'.get? c = some o) → (∃ o, h'.get? e = some o ∧ o.cls = .type "StopIteration") → E (.ref e) { s with heap := h' }) :
    wpAny (model prog w) A.in1 (Builtin.SmallTypes.stopIteration : Sem α) Q E s := by
  show wpAny _ _ (newExc (.type "StopIteration") [] >>= _) _ _ _
  refine wpAny_bind ?_
  simp only [newExc, newTuple]
  refine wpAny_bind (wpAny_newObj_type (wpAny_bind (m := firstArgMember _ _) (wpAny_of_eq (a := Value.none) (by first | rfl | (simp only [firstArgMember]; rfl)) (wpAny_newObj_type ?_ (by size_fits)))) (by size_fits))
  simp only [raiseNew]
  refine wpAny_bind (wpAny_handled ?_)
  rw [show A.in1.handled = none from hh]
  exact wpAny_bind (wpAny_pure (wpAny_throw (h _ _ (fun c o e => Heap.get?_push_of_some _ (Heap.get?_push_of_some _ e)) ⟨_, Heap.get?_push_size _ rfl, rfl⟩)))
/-- the end: both have come to theirs -/
theorem zipS_next_end {Q : Option Value → Shared → Prop} (hh : A.handled = none) (S : ZipSep2 z TI TO i1 i2 fp1 fp2) (D1 : Draws prog w A.in1 i1 fp1 n1 P1 St1) (D2 : Draws prog w A.in1 i2 fp2 n2 P2 St2)
    (hz : IsZipS s.heap z TI TO .none) (hTI : IsTupOf2 s.heap TI (.ref i1) (.ref i2)) (hTO : IsTupOf2 s.heap TO a1 a2) (st1 : St1 n1 s.heap) (st2 : St2 n2 s.heap)
    (hQ : ∀ h', (∀ c o, c ≠ z → c ≠ TO → c ≠ i1 → c ≠ i2 → s.heap.get? c = some o → h'.get? c = some o) → Q none { s with heap := h' }) : wpAny (model prog w) A (pyNext (.ref z)) Q E s := by
  have hT : s.TypeIs (.ref z) "zip" := ⟨_, hz, rfl⟩
  unfold pyNext
  refine wpAny_bind (wpAny_attempt (wpAny_callSpecial?_slot (name := Str.ofString "__next__") hT F.slot_zip_next (wpAny_call_entry F.slot_zip_next hT F.entry_zip_next ?_ (F.args_zip_next_1 _))))
  obtain ⟨hp, g, d, tk0, os⟩ := s
  show wpAny _ _ (field (.ref z) 2 >>= _) _ _ _
  refine wpAny_bind (wpAny_field hz rfl (x := .bool true) rfl ?_)
  show wpAny _ _ (field (.ref z) 3 >>= _) _ _ _
  refine wpAny_bind (wpAny_field hz rfl (x := .ref TI) rfl (wpAny_bind (wpAny_seqItems hTI rfl ?_)))
  show wpAny _ _ (Builtin.SmallTypes.ownedTupleIsFree (.ref z) >>= _) _ _ _
  refine wpAny_bind ?_
  unfold Builtin.SmallTypes.ownedTupleIsFree
  refine wpAny_bind (wpAny_field hz rfl (x := .none) rfl (wpAny_pure ?_))
  simp only [if_true]
  refine wpAny_bind (wpAny_rule (wpAny_bind (wpAny_field hz rfl (x := .ref TO) rfl (wpAny_bind (wpAny_setField_rec hz (by simp) fun g0 hz0 hs0 => ?_)))))
  replace hz0 : IsZipS g0 z TI TO .ellipsis := hz0
  replace hs0 : Heap.SameBut z hp g0 := hs0
  refine wpAny_bind ?_
  simp only [List.zipIdx_cons, List.zipIdx_nil, List.forIn_cons, List.forIn_nil]
  refine wpAny_bind (wpAny_bind (wpAny_onRaise ?_))
  show wpAny _ _ (Builtin.SmallTypes.nextOrEnd (.ref i1)) _ _ ⟨g0, g, d, tk0, os⟩
  refine nextOrEnd_end D1 (D1.over st1 hs0 S.zf1) fun q hq => ?_
  replace hq : Heap.ExtBut i1 g0 q := hq
  have hzq : IsZipS q z TI TO .ellipsis := hq _ _ S.zi1 hz0
  refine wpAny_bind (wpAny_setField_rec (s := ⟨q, g, d, tk0, os⟩) hzq (by simp) fun q' hzq' hq' => ?_)
  replace hq' : Heap.SameBut z q q' := hq'
  refine wpAny_bind ?_
  show wpAny _ _ (forIn (((#[Value.ref i1, Value.ref i2] : Array Value).toList.drop 1).zipIdx 1) PUnit.unit _ >>= _) _ _ _
  refine wpAny_bind ?_
  simp only [List.drop_succ_cons, List.drop_zero, List.zipIdx_cons, List.zipIdx_nil, List.forIn_cons, List.forIn_nil]
  refine wpAny_bind (wpAny_bind ?_)
  have st2q : St2 n2 q := D2.frame _ _ _ (D2.over st2 hs0 S.zf2) fun b hb o e => hq b o (fun x => S.sep1_2 (x ▸ hb)) e
  refine nextOrEnd_end D2 (D2.over st2q hq' S.zf2) fun r hr => ?_
  replace hr : Heap.ExtBut i2 q' r := hr
  refine wpAny_pure ?_
  simp only [Option.isSome_none, Bool.false_eq_true, if_false]
  refine wpAny_pure ?_
  refine wpAny_bind (wpAny_rule ?_)
  refine stop_it hh fun h' e hk he => ?_
  obtain ⟨o, ho, hc⟩ := he
  refine wpAny_bind (wpAny_isInstance (T := "StopIteration") (b := true) ⟨o, ho, hc⟩ isSubtype_stop ?_)
  exact wpAny_pure (hQ h' fun c o' cz cT c1 c2 x => hk _ _ (hr _ _ c2 (hq'.extBut _ _ cz (hq _ _ c1 (hs0.extBut _ _ cz x)))))
theorem pyNext_zipS_item {Q : Option Value → Shared → Prop} (S : ZipSep2 z TI TO i1 i2 fp1 fp2) (D1 : Draws prog w A.in1 i1 fp1 n1 P1 St1) (D2 : Draws prog w A.in1 i2 fp2 n2 P2 St2)
    (hz : IsZipS s.heap z TI TO .none) (hTI : IsTupOf2 s.heap TI (.ref i1) (.ref i2)) (hTO : IsTupOf2 s.heap TO a1 a2) (st1 : St1 i s.heap) (st2 : St2 i s.heap) (hlt1 : i < n1) (hlt2 : i < n2)
    (hQ : ∀ x1 x2 h' tk, P1 i x1 → P2 i x2 → IsZipS h' z TI TO (rawInt s.heap.objs.size) → IsTupOf2 h' TO x1 x2 → St1 (i + 1) h' → St2 (i + 1) h' → IsTupOf2 h' s.heap.objs.size x1 x2 →
      (∀ c o, c ≠ z → c ≠ TO → c ≠ i1 → c ≠ i2 → s.heap.get? c = some o → h'.get? c = some o) → Q (some (.ref s.heap.objs.size)) { s with heap := h', toks := tk }) :
    wpAny (model prog w) A (pyNext (.ref z)) Q E s := by
  have hT : s.TypeIs (.ref z) "zip" := ⟨_, hz, rfl⟩
  unfold pyNext
  exact wpAny_bind (wpAny_attempt (wpAny_callSpecial?_slot (name := Str.ofString "__next__") hT F.slot_zip_next
    (wpAny_call_entry F.slot_zip_next hT F.entry_zip_next
      (zipS_next_item S D1 D2 hz hTI hTO st1 st2 hlt1 hlt2 fun x1 x2 h' tk y1 y2 b1 b2 d1 d2 b5 b6 => wpAny_pure (hQ x1 x2 h' tk y1 y2 b1 b2 d1 d2 b5 b6)) (F.args_zip_next_1 _))))
theorem letGo_zipB {b : Bool} {elts : List Expr} {x1 : Nat} {pos : Pos} {T : Addr} {Q : Unit → Shared → Prop} (hz : IsZipB b s.heap z TI TO (rawInt T))
    (hQ : ∀ h', IsZipB b h' z TI TO .none → Heap.SameBut z s.heap h' → Q () { s with heap := h' }) : wpAny (model prog w) A (letOwnedTupleGo (.Tuple elts x1 pos) (.ref z) (.ref T)) Q E s := by
  unfold letOwnedTupleGo
  refine wpAny_bind (wpAny_load hz ?_)
  show wpAny _ _ (if (["enumerate", "zip", "dict_itemiterator", "dict_reverseitemiterator", "odict_iterator", "itertools.zip_longest", "itertools.pairwise"].contains "zip" && (#[rawInt T, .bool false, .bool b, .ref TI, .ref TO] : Array Value)[0]? == some (rawInt T)) = true then _ else _) Q E s
  rw [if_pos (by simp)]
  exact wpAny_bind (wpAny_rule (wpAny_setField_rec hz (by simp) fun h' hz' hs' => hQ h' hz' hs'))
theorem pyIter_zipB {b : Bool} {f0 : Value} {Q : Value → Shared → Prop} (hz : IsZipB b s.heap z TI TO f0) (h : Q (.ref z) s) : wpAny (model prog w) A (pyIter (.ref z)) Q E s := by
  have hT : s.TypeIs (.ref z) "zip" := ⟨_, hz, rfl⟩
  refine wpAny_pyIter_slot hT F.slot_zip_iter (wpAny_call_entry F.slot_zip_iter hT F.entry_zip_iter ?_ (F.args_zip_iter_1 _))
  exact wpAny_pure ⟨_, rfl, "zip", _, hT, F.slot_zip_next.lookup, h⟩
end
/-! ### zip(v1, v2, strict=True) begins -/
theorem typeCall_strict (a b c : Value) : checkTypeCall "zip" ⟨[a, b], [(Str.ofString "strict", c)]⟩ = pure () := by kernel_rfl
theorem newCall_strict (a b c : Value) : checkBuiltinCall "zip.__new__" ⟨[.type "zip", a, b], [(Str.ofString "strict", c)]⟩ = pure () := by kernel_rfl
theorem args_init_strict (o a b c : Value) : argsOk "object.__init__" ⟨[o, a, b], [(Str.ofString "strict", c)]⟩ := by unfold argsOk; kernel_rfl
abbrev gzS (h : Heap) (o1 o2 : Obj) : Heap := (gzO2 h o1 o2).push { cls := .type "zip", data := .fields #[.none, .bool false, .bool true, .ref ((h.push o1).push o2).objs.size, .ref (gzT2 h o1 o2).objs.size] }
set_option maxHeartbeats 1000000 in
theorem meets_zip_strict {v1 v2 : Value} {o1 o2 : Obj} {H1 H2 : Heap → Prop} (B1 : Begins v1 o1 H1) (B2 : Begins v2 o2 H2) :
    Meets (Builtin.«zip.__new__» ⟨[.type "zip", v1, v2], [(Str.ofString "strict", .bool true)]⟩) (fun _ R s => (H1 s.heap ∧ H2 s.heap) ∧ R (.ok (.ret (.ref (gzO2 s.heap o1 o2).objs.size))) { s with heap := gzS s.heap o1 o2 }) :=
  .of_wp fun prog w A R s h => by
    obtain ⟨hp, g, d, tk, os⟩ := s; obtain ⟨⟨h1, h2⟩, h⟩ := h
    have hsub := sub_zip
    have q1 : ∀ {A' : Around} {E : Value → Shared → Prop} {Q : Value → Shared → Prop}, Q (.ref hp.objs.size) ⟨(hp.push o1), g, d, tk, os⟩ → wpAny (model prog w) A' (pyIter v1) Q E ⟨hp, g, d, tk, os⟩ :=
      fun q => B1.iter prog w _ _ ⟨hp, g, d, tk, os⟩ _ (B1.keeps _ _ h1 fun b o' e => e) q
    have q2 : ∀ {A' : Around} {E : Value → Shared → Prop} {Q : Value → Shared → Prop}, Q (.ref (hp.push o1).objs.size) ⟨((hp.push o1).push o2), g, d, tk, os⟩ → wpAny (model prog w) A' (pyIter v2) Q E ⟨(hp.push o1), g, d, tk, os⟩ :=
      fun q => B2.iter prog w _ _ ⟨(hp.push o1), g, d, tk, os⟩ _ (B2.keeps _ _ h2 fun b o' e => (Heap.get?_push_of_some _ e)) q
    have e1 : (Str.ofString "strict" == ("strict" : Str)) = true := by decide +kernel
    have e2 : (Str.ofString "strict" != ("strict" : Str)) = false := by decide +kernel
    wp_walk using q1, q2
    exact ⟨_, rfl, h⟩
/-- its 5 new cells, strict or not -/
theorem begins_zipB {prog : Program} {w : World} {A : Around} {E : Value → Shared → Prop} {s : Shared} {b : Bool} {v1 v2 : Value} {o1 o2 : Obj} {H1 H2 : Heap → Prop} {Q : Value → Shared → Prop} (B1 : Begins v1 o1 H1) (B2 : Begins v2 o2 H2) (h1 : H1 s.heap) (h2 : H2 s.heap)
    (h : ∀ h', IsZipB b h' (s.heap.objs.size + 4) (s.heap.objs.size + 2) (s.heap.objs.size + 3) .none → IsTupOf2 h' (s.heap.objs.size + 2) (.ref s.heap.objs.size) (.ref (s.heap.objs.size + 1)) →
      IsTupOf2 h' (s.heap.objs.size + 3) .none .none → h'.get? s.heap.objs.size = some o1 → h'.get? (s.heap.objs.size + 1) = some o2 → (∀ c o, s.heap.get? c = some o → h'.get? c = some o) → Q (.ref (s.heap.objs.size + 4)) { s with heap := h' }) :
    wpAny (model prog w) A (call (.type "zip") [v1, v2] (if b = true then [(Str.ofString "strict", .bool true)] else [])) Q E s := by
  cases b with
  | false => exact zip_begins2 B1 B2 h1 h2 fun h' a1 a2 a3 a4 a5 _ a6 => h h' a1 a2 a3 a4 a5 a6
  | true =>
    show wpAny _ _ (call (.type "zip") [v1, v2] [(Str.ofString "strict", .bool true)]) _ _ _
    refine callType_newKw F.called_zip (by decide) (typeCall_strict _ _ _) (newCall_strict _ _ _) (fun obj => args_init_strict obj _ _ _) F.entry_zip_new (meets_zip_strict B1 B2) ⟨⟨h1, h2⟩, ?_⟩
    have z1 : (s.heap.push o1).objs.size = s.heap.objs.size + 1 := by rw [Heap.size_push]
    have z2 : ((s.heap.push o1).push o2).objs.size = s.heap.objs.size + 2 := by rw [Heap.size_push, z1]
    have zT : (gzT2 s.heap o1 o2).objs.size = s.heap.objs.size + 3 := by rw [Heap.size_push, z2]
    have zO : (gzO2 s.heap o1 o2).objs.size = s.heap.objs.size + 4 := by rw [Heap.size_push, zT]
    have gZ : (gzS s.heap o1 o2).get? (gzO2 s.heap o1 o2).objs.size = some { cls := .type "zip", data := .fields #[.none, .bool false, .bool true, .ref ((s.heap.push o1).push o2).objs.size, .ref (gzT2 s.heap o1 o2).objs.size] } := Heap.get?_push_size _ rfl
    have gO : (gzS s.heap o1 o2).get? (gzT2 s.heap o1 o2).objs.size = some { cls := .type "tuple", data := .seq #[.none, .none] } := Heap.get?_push_of_some _ (Heap.get?_push_size _ rfl)
    have gT : (gzS s.heap o1 o2).get? ((s.heap.push o1).push o2).objs.size = some { cls := .type "tuple", data := .seq #[.ref s.heap.objs.size, .ref (s.heap.push o1).objs.size] } := Heap.get?_push_of_some _ (Heap.get?_push_of_some _ (Heap.get?_push_size _ rfl))
    have g1 : (gzS s.heap o1 o2).get? s.heap.objs.size = some o1 := Heap.get?_push_of_some _ (Heap.get?_push_of_some _ (Heap.get?_push_of_some _ (Heap.get?_push_of_some _ (Heap.get?_push_size _ B1.free))))
    have g2 : (gzS s.heap o1 o2).get? (s.heap.push o1).objs.size = some o2 := Heap.get?_push_of_some _ (Heap.get?_push_of_some _ (Heap.get?_push_of_some _ (Heap.get?_push_size _ B2.free)))
    rw [zO, zT, z2] at gZ
    rw [zT] at gO
    rw [z2, z1] at gT
    rw [z1] at g2
    show _ ∧ _
    rw [zO]
    exact ⟨⟨_, gZ, rfl⟩, h _ gZ gT gO g1 g2 fun c o e => Heap.get?_push_of_some _ (Heap.get?_push_of_some _ (Heap.get?_push_of_some _ (Heap.get?_push_of_some _ (Heap.get?_push_of_some _ e))))⟩
/-! ### the source: a list or a tuple -/
def IsItB (b : Bool) (h : Heap) (it l : Addr) (i : Nat) : Prop := if b = true then h.IsListIter it l i else h.IsTupleIter it l i
def IsSeqB (b : Bool) (h : Heap) (l : Addr) (items : Array Value) : Prop := if b = true then h.IsList l items else h.IsTuple l items
def itObj (b : Bool) (l : Addr) : Obj := if b = true then { cls := .type "list_iterator", data := .fields #[.ref l, .int 0 0] } else { cls := .type "tuple_iterator", data := .fields #[.ref l, .int 0 0] }
theorem begins_seqB (b : Bool) (l : Addr) (items : Array Value) : Begins (.ref l) (itObj b l) fun h => IsSeqB b h l items := by
  cases b
  · exact begins_tuple l items
  · exact begins_list l items
theorem draws_seqB {prog : Program} {w : World} {A : Around} (b : Bool) (hh : A.handled = none) (it l : Addr) (hne : l ≠ it) (items : Array Value) :
    Draws prog w A it [it, l] items.size (fun i v => items[i]? = some v) (fun i h => IsItB b h it l i ∧ IsSeqB b h l items) := by
  cases b
  · exact Draws.tuple hh it l hne items
  · exact Draws.list hh it l hne items
theorem IsItB.at {b : Bool} {h h' : Heap} {it l : Addr} {i : Nat} (x : IsItB b h it l i) (k : ∀ o, h.get? it = some o → h'.get? it = some o) : IsItB b h' it l i := by
  cases b
  · exact Heap.IsTupleIter.at x k
  · exact Heap.IsListIter.at x k
theorem IsItB.obj {b : Bool} {h : Heap} {it l : Addr} {i : Nat} (x : IsItB b h it l i) : ∃ o, h.get? it = some o ∧ ∀ v, o.data ≠ .cell v := by
  cases b
  · obtain ⟨o, e, _, d⟩ := x
    exact ⟨o, e, fun v z => by rw [d] at z; cases z⟩
  · obtain ⟨o, e, _, d⟩ := x
    exact ⟨o, e, fun v z => by rw [d] at z; cases z⟩
theorem isIt_new {b : Bool} {h : Heap} {it l : Addr} (e : h.get? it = some (itObj b l)) : IsItB b h it l 0 := by
  cases b
  · exact ⟨_, e, rfl, rfl⟩
  · exact ⟨_, e, rfl, rfl⟩
end Zs
namespace Zs
open PySem PySem.Spec PyProof.Rows L2
/-- a list or a tuple that is read -/
def SqB (K : PySem.W.Frag) (b : Bool) (H : Hp) (a : Addr) (xs : List V) : Prop := if b = true then SqL K H a xs else SqT K H a xs
theorem seqB {X : Cx} {pins : List (Addr × Obj)} {σ : L2.St} {H : Hp} {s : Shared} {b : Bool} {a : Addr} {xs : List V} (I : Inv X pins σ H s) (h : SqB X.K b H a xs) : ∃ its : List Value, Vals xs its ∧ IsSeqB b s.heap a its.toArray ∧ xs.length ≤ sizeLine ∧ a < s.heap.objs.size := by
  cases b
  · obtain ⟨its, r, p, z⟩ := I.tuple h
    obtain ⟨o, e, _⟩ := id p
    exact ⟨its, r, p, z, Heap.lt_size e⟩
  · obtain ⟨its, r, p, z⟩ := I.list h
    exact ⟨its, r, p.isList, z, p.lt⟩
theorem seqB_inj {X : Cx} {pins : List (Addr × Obj)} {σ : L2.St} {H : Hp} {s : Shared} {b : Bool} {a : Addr} {xs ys : List V} (I : Inv X pins σ H s) (h : SqB X.K b H a xs) (h' : SqB X.K b H a ys) : xs = ys := by
  cases b
  · exact I.tuple_inj h h'
  · exact I.list_inj h h'
/-- the sequences at a and c as they stand at each turn, the items in new pairs -/
def Itzb (K : PySem.W.Frag) (la lc : Bool) (a c : Addr) : It :=
  ⟨fun i H => ∃ (xs ys : List V) (x y : V), SqB K la H a xs ∧ SqB K lc H c ys ∧ xs[i]? = some x ∧ ys[i]? = some y,
    fun i H v H' => ∃ T x y, v = .ref T ∧ H T = none ∧ H' = upd H T (.tup [x, y]) ∧ (∀ xs, SqB K la H a xs → xs[i]? = some x) ∧ ∀ ys, SqB K lc H c ys → ys[i]? = some y,
    fun i H => ∃ xs ys : List V, SqB K la H a xs ∧ SqB K lc H c ys ∧ xs.length = i ∧ ys.length = i⟩
theorem turn_zipB {P : Program} {w : World} {K : PySem.W.Frag} {elts : List Expr} {kk : Nat} {tpos : Pos} {b la lc : Bool} {a c z TI TO i1 i2 : Addr} (S : ZipSep2 z TI TO i1 i2 [i1, a] [i2, c]) (na : a ≠ i1) (nc : c ≠ i2) :
    Turn P w K (.Tuple elts kk tpos) (Itzb K la lc a c) [z, TI, TO, i1, i2] z (fun i h => IsZipB b h z TI TO .none ∧ IsTupOf2 h TI (.ref i1) (.ref i2) ∧ (∃ x y, IsTupOf2 h TO x y) ∧ IsItB la h i1 a i ∧ IsItB lc h i2 c i) where
  mem := by simp
  obj := fun i h st d hd => by
    obtain ⟨hz, hTI, ⟨x, y, hTO⟩, h1, h2⟩ := st
    have e' : d = z ∨ d = TI ∨ d = TO ∨ d = i1 ∨ d = i2 := by simpa using hd
    rcases e' with q | q | q | q | q
    · rw [q]; exact ⟨_, hz, fun v q => nomatch q⟩
    · rw [q]; exact ⟨_, hTI, fun v q => nomatch q⟩
    · rw [q]; exact ⟨_, hTO, fun v q => nomatch q⟩
    · rw [q]; exact h1.obj
    · rw [q]; exact h2.obj
  keep := fun i h h' st k => by
    obtain ⟨hz, hTI, ⟨x, y, hTO⟩, h1, h2⟩ := st
    exact ⟨k z (by simp) _ hz, k TI (by simp) _ hTI, ⟨x, y, k TO (by simp) _ hTO⟩, h1.at fun o q => k i1 (by simp) o q, h2.at fun o q => k i2 (by simp) o q⟩
  item := by
    intro X hP hw hK hc i pins s σ H E I hf st hg
    subst hP hw hK
    obtain ⟨hz, hTI, ⟨x0, y0, hTO⟩, h1, h2⟩ := st
    obtain ⟨xs, ys, x, y, hqx, hqy, hx, hy⟩ := hg
    obtain ⟨its, rv, p, _⟩ := seqB I hqx
    obtain ⟨its2, rv2, p2, _⟩ := seqB I hqy
    have hzl : z < s.heap.objs.size := Heap.lt_size hz
    have hh : X.A.in1.handled = none := I.ok.hd hc
    have D1 := draws_seqB (prog := X.prog) (w := X.w) la hh i1 a na its.toArray
    have D2 := draws_seqB (prog := X.prog) (w := X.w) lc hh i2 c nc its2.toArray
    have l1 : i < its.toArray.size := by
      have := (List.getElem?_eq_some_iff.mp hx).1
      rw [List.size_toArray, ← rv.length]; exact this
    have l2 : i < its2.toArray.size := by
      have := (List.getElem?_eq_some_iff.mp hy).1
      rw [List.size_toArray, ← rv2.length]; exact this
    have fin : ∀ x1 x2 h' tk, its.toArray[i]? = some x1 → its2.toArray[i]? = some x2 → IsZipB b h' z TI TO (rawInt s.heap.objs.size) → IsTupOf2 h' TO x1 x2 → (IsItB la h' i1 a (i + 1) ∧ IsSeqB la h' a its.toArray) → (IsItB lc h' i2 c (i + 1) ∧ IsSeqB lc h' c its2.toArray) → IsTupOf2 h' s.heap.objs.size x1 x2 →
        (∀ c o, c ≠ z → c ≠ TO → c ≠ i1 → c ≠ i2 → s.heap.get? c = some o → h'.get? c = some o) → ∃ u, (some (Value.ref s.heap.objs.size) : Option Value) = some u ∧
      wpAny (model X.prog X.w) X.A (letOwnedTupleGo (.Tuple elts kk tpos) (.ref z) u) (fun _ s2 => ∃ x H', Inv X pins σ H' s2 ∧ RelV x u ∧ (Itzb X.K la lc a c).yld i H x H' ∧ (IsZipB b s2.heap z TI TO .none ∧ IsTupOf2 s2.heap TI (.ref i1) (.ref i2) ∧ (∃ x y, IsTupOf2 s2.heap TO x y) ∧ IsItB la s2.heap i1 a (i + 1) ∧ IsItB lc s2.heap i2 c (i + 1)) ∧ ∀ b ∈ [z, TI, TO, i1, i2], H' b = none) E { s with heap := h', toks := tk } := by
      intro x1 x2 h' tk e1 e2 z' TO' st1' st2' hT hk
      refine ⟨_, rfl, letGo_zipB (s := { s with heap := h', toks := tk }) z' fun h'' z'' sb => ?_⟩
      have hT2 : h''.get? s.heap.objs.size = some { cls := .type "tuple", data := .seq #[x1, x2] } := (sb.2 _ (Nat.ne_of_gt hzl)).trans hT
      obtain ⟨u, hu, ru⟩ := rv.get hx
      obtain ⟨u2, hu2, ru2⟩ := rv2.get hy
      have q1 : u = x1 := by
        have : its.toArray[i]? = some u := by simpa using hu
        rw [e1] at this; exact (Option.some.inj this).symm
      have q2 : u2 = x2 := by
        have : its2.toArray[i]? = some u2 := by simpa using hu2
        rw [e2] at this; exact (Option.some.inj this).symm
      subst q1 q2
      have new : ObjOk X.prog X.w (upd H s.heap.objs.size (.tup [x, y])) h'' s.heap.objs.size (.tup [x, y]) :=
        ⟨by show 2 ≤ sizeLine; decide, [u, u2], .cons ru (.cons ru2 .nil), ⟨_, hT2, rfl, _, rfl⟩⟩
      have I1 : Inv X pins σ (upd H s.heap.objs.size (.tup [x, y])) { s with heap := h'', toks := tk } :=
        I.turnedNew (t' := tk) (ch := [z, TI, TO, i1, i2]) (fun d o hb q => (sb.2 d (fun q' => hb (by simp [q']))).trans (hk d o (fun q' => hb (by simp [q'])) (fun q' => hb (by simp [q'])) (fun q' => hb (by simp [q'])) (fun q' => hb (by simp [q'])) q)) hf (Nat.le_refl _) new
      refine ⟨.ref s.heap.objs.size, _, I1, rfl, ⟨_, x, y, rfl, I.hok.fresh (Nat.le_refl _), rfl, fun l hl => by rw [seqB_inj I hl hqx]; exact hx, fun l hl => by rw [seqB_inj I hl hqy]; exact hy⟩, ⟨z'', ?_, ⟨u, u2, ?_⟩, ?_, ?_⟩, fun d hcm => ?_⟩
      · exact (sb.2 _ S.TIz).trans (hk _ _ S.TIz S.TITO S.TIi1 S.TIi2 hTI)
      · exact (sb.2 _ S.TOz).trans TO'
      · exact st1'.1.at fun o q => (sb.2 _ S.zi1.symm).trans q
      · exact st2'.1.at fun o q => (sb.2 _ S.zi2.symm).trans q
      · have hlt : d < s.heap.objs.size := by
          have e' : d = z ∨ d = TI ∨ d = TO ∨ d = i1 ∨ d = i2 := by simpa using hcm
          rcases e' with q | q | q | q | q
          · rw [q]; exact hzl
          · rw [q]; exact Heap.lt_size hTI
          · rw [q]; exact Heap.lt_size hTO
          · rw [q]; obtain ⟨_, e1, _⟩ := h1.obj; exact Heap.lt_size e1
          · rw [q]; obtain ⟨_, e2, _⟩ := h2.obj; exact Heap.lt_size e2
        rw [upd_ne (Nat.ne_of_lt hlt)]
        exact (hf d hcm).1
    cases b with
    | false => exact wpAny_pyNext_zipD2_item S D1 D2 hz hTI hTO ⟨h1, p⟩ ⟨h2, p2⟩ l1 l2 fun x1 x2 h' tk e1 e2 z' TO' s1 s2 hT _ hk => fin x1 x2 h' tk e1 e2 z' TO' s1 s2 hT hk
    | true => exact pyNext_zipS_item S D1 D2 hz hTI hTO ⟨h1, p⟩ ⟨h2, p2⟩ l1 l2 fin
  done := by
    intro X hP hw hK hc i pins s σ H E I hf st hg
    subst hP hw hK
    obtain ⟨hz, hTI, ⟨x0, y0, hTO⟩, h1, h2⟩ := st
    obtain ⟨xs, ys, hqx, hqy, hx, hy⟩ := hg
    obtain ⟨its, rv, p, _⟩ := seqB I hqx
    obtain ⟨its2, rv2, p2, _⟩ := seqB I hqy
    have hh : X.A.in1.handled = none := I.ok.hd hc
    have D1 := draws_seqB (prog := X.prog) (w := X.w) la hh i1 a na its.toArray
    have D2 := draws_seqB (prog := X.prog) (w := X.w) lc hh i2 c nc its2.toArray
    have l1 : its.toArray.size = i := by rw [List.size_toArray, ← rv.length]; exact hx
    have l2 : its2.toArray.size = i := by rw [List.size_toArray, ← rv2.length]; exact hy
    have fin : ∀ h' tk, (∀ c o, c ≠ z → c ≠ TO → c ≠ i1 → c ≠ i2 → s.heap.get? c = some o → h'.get? c = some o) → (none : Option Value) = none ∧ Inv X pins σ H { s with heap := h', toks := tk } := fun h' tk hk =>
      ⟨rfl, I.turnedL (t' := tk) (ch := [z, TI, TO, i1, i2]) (fun d o hb q => hk d o (fun q' => hb (by simp [q'])) (fun q' => hb (by simp [q'])) (fun q' => hb (by simp [q'])) (fun q' => hb (by simp [q'])) q) hf⟩
    cases b with
    | false => exact wpAny_pyNext_zipD2_end S D1 D2 hz hTI hTO (i := i) ⟨h1, p⟩ ⟨h2, p2⟩ (by rw [l1]; exact Nat.le_refl _) (by rw [l2]; exact Nat.le_refl _) (.inl l1.symm) fun h' tk hk => fin h' tk hk
    | true => exact zipS_next_end (I.ok.hd hc) S D1 D2 hz hTI hTO (by rw [l1]; exact ⟨h1, p⟩) (by rw [l2]; exact ⟨h2, p2⟩) fun h' hk => fin h' s.toks hk
  self := fun A i s Q E st h => pyIter_zipB st.1 h
/-- a built-in class called with keywords -/
theorem callWith_typeK {M : Model} {A : Around} {E : Value → Shared → Prop} {s : Shared} {env : Env} {pos : Pos} {T : String} {e : Expr} {rest : List Expr} {kws : List Keyword} {Q : Value → Shared → Prop}
    (h : wpAny M A (spliced (backTo pos (starEach (e :: rest) env))) (fun vs s1 => wpAny M A (evalAll ((backToKw pos (keywordEach kws env)).map (·.2))) (fun kvs s2 => wpAny M A (call (.type T) vs (((backToKw pos (keywordEach kws env)).filterMap (·.1)).zip kvs)) Q E s2) E s1) E s)
    (he : backTo pos (starEach (e :: rest) env) = (false, eval e env) :: backTo pos (starEach rest env)) (hplain : (backTo pos (starEach (e :: rest) env)).any (·.1) = false)
    (hall : (backToKw pos (keywordEach kws env)).all (·.1.isSome) = true) (hkw : (backToKw pos (keywordEach kws env)).any (·.1.isNone) = false) :
    wpAny M A (callWith pos (.type T) [] (backTo pos (starEach (e :: rest) env)) (backToKw pos (keywordEach kws env))) Q E s := by
  unfold callWith
  have z : wpAny M A (evalArgs (.type T) true (backTo pos (starEach (e :: rest) env)) (backToKw pos (keywordEach kws env))) (fun a s1 => wpAny M A (call (.type T) ([] ++ a.pos) a.kw) Q E s1) E s := by
    rw [he] at h ⊢
    exact evalArgs_kwB hall h
  refine wpAny_bind (wpAny_holding (wpAny_mono z (fun a s1 h1 => wpAny_bind (wpAny_standAt ?_)) fun _ _ x => x))
  simp only [hplain, hkw, Bool.or_false]
  refine wpAny_bind (wpAny_pure ?_)
  exact wpAny_bind (wpAny_mono h1 (fun r s2 hr => wpAny_bind (wpAny_holding (wpAny_point (wpAny_pure hr)))) fun _ _ x => x)
/-- zip of two sequences -/
def iZipB (K : PySem.W.Frag) (la lc : Bool) (ta : TA) : TI := fun σ H R => ta σ H fun vs H1 => ∃ a c xs ys, vs = [.ref a, .ref c] ∧ SqB K la H1 a xs ∧ SqB K lc H1 c ys ∧ R (Itzb K la lc a c) H1
theorem zipB_it {X : Cx} {elts : List Expr} {kk : Nat} {tpos : Pos} {b la lc : Bool} {pins : List (Addr × Obj)} {σ : L2.St} {H : Hp} {s : Shared} {R : It → Hp → Prop} {a c : Addr} {xs ys : List V} (I : Inv X pins σ H s) (hx : SqB X.K la H a xs) (hy : SqB X.K lc H c ys) (q : R (Itzb X.K la lc a c) H) :
    wpAny (model X.prog X.w) X.A (call (.type "zip") [.ref a, .ref c] (if b = true then [(Str.ofString "strict", .bool true)] else [])) (fun v s1 => wpAny (model X.prog X.w) X.A (pyIter v) (PIE X pins σ (.Tuple elts kk tpos) R) X.xe s1) X.xe s := by
  obtain ⟨its, rv, p1, _, la1⟩ := seqB I hx
  obtain ⟨its2, rv2, p2, _, lc1⟩ := seqB I hy
  refine begins_zipB (begins_seqB la a its.toArray) (begins_seqB lc c its2.toArray) p1 p2 fun h' hz hTI hTO g1 g2 hk => pyIter_zipB hz ?_
  have I2 : Inv X pins σ H { s with heap := h' } := I.kept (t' := s.toks) hk
  have fresh5 : ∀ d, d ∈ [s.heap.objs.size + 4, s.heap.objs.size + 2, s.heap.objs.size + 3, s.heap.objs.size, s.heap.objs.size + 1] → FpOk X pins H d := fun d hd => by
    have e' : d = s.heap.objs.size + 4 ∨ d = s.heap.objs.size + 2 ∨ d = s.heap.objs.size + 3 ∨ d = s.heap.objs.size ∨ d = s.heap.objs.size + 1 := by simpa using hd
    have hle : s.heap.objs.size ≤ d := by
      rcases e' with z | z | z | z | z
      · rw [z]; exact Nat.le_add_right _ _
      · rw [z]; exact Nat.le_add_right _ _
      · rw [z]; exact Nat.le_add_right _ _
      · rw [z]; exact Nat.le_refl _
      · rw [z]; exact Nat.le_add_right _ _
    exact I.fpOk hle (I.hok.fresh hle)
  have S : ZipSep2 (s.heap.objs.size + 4) (s.heap.objs.size + 2) (s.heap.objs.size + 3) s.heap.objs.size (s.heap.objs.size + 1) [s.heap.objs.size, a] [s.heap.objs.size + 1, c] :=
    zip_sep2 (fp1 := [a]) (fp2 := [c]) (fun d hd => by rw [List.mem_singleton.mp hd]; exact la1) (fun d hd => by rw [List.mem_singleton.mp hd]; exact lc1)
  exact ⟨s.heap.objs.size + 4, [s.heap.objs.size + 4, s.heap.objs.size + 2, s.heap.objs.size + 3, s.heap.objs.size, s.heap.objs.size + 1], _, _, H, rfl, I2,
    turn_zipB (b := b) S (Nat.ne_of_lt la1) (Nat.ne_of_lt (Nat.lt_succ_of_lt lc1)), ⟨hz, hTI, ⟨_, _, hTO⟩, isIt_new g1, isIt_new g2⟩, fresh5, q⟩
section
variable {X : Cx} {e e2 : Expr} {ta : TA} {p pos tpos kp kcp : Pos} {kc : Nat} {elts : List Expr} {kk : Nat}
theorem pi_zipN (la lc : Bool) (hg : Gl X "zip") (hm : X.mg "zip" = none) (ha : PA X [e, e2] ta) (hs : starEach [e, e2] X.env = (false, eval e X.env) :: starEach [e2] X.env := by rfl) (hpl : (backTo pos (starEach [e2] X.env)).any (·.1) = false := by rfl) :
    PI X (.Tuple elts kk tpos) (.Call (.Name "zip" p) [e, e2] [] pos) (iZipB X.K la lc ta) := by
  refine ⟨fun pins s σ H R I h => ?_⟩
  refine Call_ (ld_blt I hg hm PyProof.Rows.boot_zip (PyProof.Rows.callWith_type1 (thn (ha.run pos pins s σ H _ I h) fun us s1 ⟨vs, H1, I1, r1, q1⟩ => ?_) hs hpl))
  obtain ⟨a, c, xs, ys, ex, hx, hy, q⟩ := q1
  subst ex
  cases r1 with
  | cons r rr =>
    cases rr with
    | cons r' rr =>
      cases rr
      cases r
      cases r'
      exact zipB_it (b := false) I1 hx hy q
theorem pi_zipS (la lc : Bool) (hg : Gl X "zip") (hm : X.mg "zip" = none) (ha : PA X [e, e2] ta)
    (he : backTo pos (starEach [e, e2] X.env) = (false, eval e X.env) :: backTo pos (starEach [e2] X.env) := by rfl) (hpl : (backTo pos (starEach [e, e2] X.env)).any (·.1) = false := by rfl) :
    PI X (.Tuple elts kk tpos) (.Call (.Name "zip" p) [e, e2] [⟨some "strict", .Constant (.bool true) kc kcp, kp⟩] pos) (iZipB X.K la lc ta) := by
  refine ⟨fun pins s σ H R I h => ?_⟩
  have hk : PK X [⟨some "strict", .Constant (.bool true) kc kcp, kp⟩] (tCons (tC (.bl true)) tNil) := pk_cons pe_bl pk_nil
  refine wpAny_Call_Name_kw (ld_blt I hg hm PyProof.Rows.boot_zip ?_)
  refine callWith_typeK (thn (ha.run pos pins s σ H _ I h) fun us s1 ⟨vs, H1, I1, r1, q1⟩ => thn (hk.run pos pins s1 σ H1 (fun zs H2 => zs = [.bl true] ∧ H2 = H1) I1 ⟨rfl, rfl⟩) fun ws s2 ⟨zs, H2, I2, r2, e1, e2⟩ => ?_) he hpl rfl rfl
  subst e1 e2
  obtain ⟨a, c, xs, ys, ex, hx, hy, q⟩ := q1
  subst ex
  obtain ⟨u1, u2, rfl, q1, q2⟩ := vals2 r1
  cases q1
  cases q2
  obtain ⟨u3, rfl, q3⟩ := vals1 r2
  cases q3
  exact zipB_it (b := true) I2 hx hy q
end
/-- a loop over zip of two sequences of one length -/
theorem for_zipB {K : PySem.W.Frag} {la lc : Bool} {a c : Addr} {xs ys : List V} {g : TG} {tb : TS} {D : Ends} {σ : L2.St} {H : Hp} (hl : xs.length = ys.length) (Pv : Nat → L2.St → Hp → Prop) (h0 : Pv 0 σ H) (hq : ∀ i σ H, Pv i σ H → SqB K la H a xs ∧ SqB K lc H c ys)
    (hs : ∀ (i : Nat) (x y : V) (T : Addr) (σ : L2.St) (H : Hp), xs[i]? = some x → ys[i]? = some y → Pv i σ H → H T = none → g (.ref T) σ (upd H T (.tup [x, y])) fun σ2 H2 => tb { D with nx := Pv (i + 1), ct := Pv (i + 1), bk := D.nx } σ2 H2) (hd : ∀ σ H, Pv xs.length σ H → D.nx σ H) :
    ∃ W : Nat → Nat → L2.St → Hp → Prop, (∃ m, W 0 m σ H) ∧ ∀ i m σ H, W i m σ H →
      ((Itzb K la lc a c).stop i H ∧ D.nx σ H) ∨ ((Itzb K la lc a c).go i H ∧ ∃ N : L2.St → Hp → Prop, (∀ σ' H', N σ' H' → ∃ m', m' < m ∧ W (i + 1) m' σ' H') ∧ ∀ x H', (Itzb K la lc a c).yld i H x H' → g x σ H' fun σ2 H2 => tb { D with nx := N, ct := N, bk := D.nx } σ2 H2) := by
  refine ⟨fun i m σ H => m = xs.length - i ∧ i ≤ xs.length ∧ Pv i σ H, ⟨xs.length, by simp, Nat.zero_le _, h0⟩, ?_⟩
  rintro i m σ H ⟨rfl, hi, p⟩
  obtain ⟨qx, qy⟩ := hq i σ H p
  by_cases hlt : i < xs.length
  · refine .inr ⟨⟨xs, ys, xs[i], ys[i]'(hl ▸ hlt), qx, qy, by simp [hlt], by simp [hl ▸ hlt]⟩, Pv (i + 1), fun σ' H' p' => ⟨xs.length - (i + 1), by omega, rfl, hlt, p'⟩, fun v H' y => ?_⟩
    obtain ⟨T, x, y, e1, e2, e3, h1, h2⟩ := y
    subst e1 e3
    exact hs i x y T σ H (h1 xs qx) (h2 ys qy) p e2
  · have e : i = xs.length := by omega
    subst e
    exact .inl ⟨⟨xs, ys, qx, qy, rfl, hl.symm⟩, hd σ H p⟩
end Zs
set_option Elab.async false
set_option linter.all false
set_option maxRecDepth 100000
/-! Own rules: a dict comprehension of two clauses. -/
namespace Dc2
open PySem PySem.Spec PyProof.Rows L2

/-- {kx: vx for t0 in i0 if .. for t1 in i1 if ..} -/
abbrev dcx (kx vx t0 i0 t1 i1 : Expr) (f0 f1 : List Expr) (sc : Scope) (pos : Pos) : Expr := .DictComp kx vx [⟨t0, i0, f0, 0⟩, ⟨t1, i1, f1, 0⟩] sc pos
theorem turn_out (kx vx t0 i0 t1 i1 : Expr) (f0 f1 : List Expr) (sc : Scope) (pos : Pos) (it acc : Value) (env : Env) : compTurn (dcx kx vx t0 i0 t1 i1 f0 f1 sc pos) 0 it acc env = (do
    standAt i0.pos
    match ← pyNext it with
    | none => pure (.done .next)
    | some v =>
      letOwnedTupleGo t0 it v
      assign t0 env v
      let mut ok := true
      for c in f0 do
        if ok then ok ← isTrue c env (eval c env)
      if ok then
        let x ← eval i1 env
        standAt i1.pos
        let x ← foldedSetIterable i1 env x
        let _ ← runOwn (.compStart (dcx kx vx t0 i0 t1 i1 f0 f1 sc pos) 1 (← holding [x] (pyIter x)) acc env) env
      again (.compLoop (dcx kx vx t0 i0 t1 i1 f0 f1 sc pos) 0 it acc env)) := by rfl
theorem turn_in (kx vx t0 i0 t1 i1 : Expr) (f0 f1 : List Expr) (sc : Scope) (pos : Pos) (it : Value) (D : Addr) (env : Env) : compTurn (dcx kx vx t0 i0 t1 i1 f0 f1 sc pos) 1 it (.ref D) env = (do
    standAt i1.pos
    match ← pyNext it with
    | none => pure (.done .next)
    | some v =>
      letOwnedTupleGo t1 it v
      assign t1 env v
      let mut ok := true
      for c in f1 do
        if ok then ok ← isTrue c env (eval c env)
      if ok then
        (do
          let kv ← eval kx env
          let vv ← holding [kv] (eval vx env)
          standAt { kx.pos with endLine := vx.pos.endLine, endCol := vx.pos.endCol }
          holding [kv, vv] (dictSet D kv vv))
      again (.compLoop (dcx kx vx t0 i0 t1 i1 f0 f1 sc pos) 1 it (.ref D) env)) := by rfl

section
variable {prog : Program} {w : World} {A : Around} {R : Result → Shared → Prop} {s : Shared} {kx vx t0 i0 t1 i1 : Expr} {f0 f1 : List Expr} {sc : Scope} {pos : Pos} {it acc : Value} {env : Env}
/-- the wish about what is raised within the block -/
abbrev Noted (prog : Program) (w : World) (A : Around) (env : Env) (R : Result → Shared → Prop) : Value → Shared → Prop := notedBy (model prog w) A env fun e s' => R (.error e) s'
/-- the tests of a clause -/
abbrev testsM (fs : List Expr) (env : Env) : Sem Bool := forIn fs true fun c r => if r = true then do let ok ← isTrue c env (eval c env); pure (ForInStep.yield ok) else pure (ForInStep.yield r)
/-- the loop of the first clause -/
theorem loop_out (hs : ∀ x, foldedSetIterable i1 env x = pure x) (I : Nat → Shared → Prop) (turn : ∀ n s, I n s → wpAny (model prog w) A (pyNext it) (fun r s1 => match r with
      | none => R (.ok .next) s1
      | some v => wpAny (model prog w) A (letOwnedTupleGo t0 it v) (fun _ s2 => wpAny (model prog w) A (assign t0 env v) (fun _ s3 => wpAny (model prog w) A (testsM f0 env) (fun ok s4 =>
          if ok = true then wpAny (model prog w) A (eval i1 env) (fun x s5 => wpAny (model prog w) A (pyIter x) (fun it1 s6 =>
              codeAny (model prog w) A (.compStart (dcx kx vx t0 i0 t1 i1 f0 f1 sc pos) 1 it1 acc env) (fun r s' => match r with | .ok _ => ∃ m, m < n ∧ I m s' | .error _ => False) s6) (Noted prog w A env R) s5) (Noted prog w A env R) s4
          else ∃ m, m < n ∧ I m s4) (Noted prog w A env R) s3) (Noted prog w A env R) s2) (Noted prog w A env R) s1) (Noted prog w A env R) s) (n : Nat) (h : I n s) :
    codeAny (model prog w) A (.compLoop (dcx kx vx t0 i0 t1 i1 f0 f1 sc pos) 0 it acc env) R s := by
  refine codeAny_loop rfl I (fun n s hI => ?_) n h
  show wpAny _ A ((compTurn (dcx kx vx t0 i0 t1 i1 f0 f1 sc pos) 0 it acc env).onRaise (fun x => do noteFrame x env; theTreesLotGoes x)) _ _ s
  refine wpAny_noted ?_
  rw [turn_out]
  refine wpAny_bind (wpAny_standAt (wpAny_bind (thn (turn n s hI) fun r s1 h1 => ?_)))
  cases r with
  | none => exact wpAny_pure h1
  | some v =>
    refine wpAny_bind (thn h1 fun _ s2 h2 => wpAny_bind (thn h2 fun _ s3 h3 => wpAny_bind (thn h3 fun ok s4 h4 => ?_)))
    cases ok with
    | false => exact wpAny_pure ⟨rfl, h4⟩
    | true =>
      refine wpAny_bind (thn h4 fun x s5 h5 => wpAny_bind (wpAny_standAt (wpAny_bind (wpAny_of_eq (hs x) (wpAny_bind (wpAny_holding (thn h5 fun it1 s6 h6 => wpAny_bind (wpAny_runOwn ?_))))))))
      rw [Around.mark_none]
      refine codeAny_mono h6 fun r s' hr => ?_
      cases r with
      | ok f => first | exact wpAny_pure ⟨rfl, hr⟩ | exact wpAny_bind (wpAny_pure (wpAny_pure ⟨rfl, hr⟩))
      | error e => exact hr.elim
/-- the loop of the second -/
theorem loop_in {D : Addr} (I : Nat → Shared → Prop) (turn : ∀ n s, I n s → wpAny (model prog w) A (pyNext it) (fun r s1 => match r with
      | none => R (.ok .next) s1
      | some v => wpAny (model prog w) A (letOwnedTupleGo t1 it v) (fun _ s2 => wpAny (model prog w) A (assign t1 env v) (fun _ s3 => wpAny (model prog w) A (testsM f1 env) (fun ok s4 =>
          if ok = true then wpAny (model prog w) A (eval kx env) (fun kv s5 => wpAny (model prog w) A (eval vx env) (fun vv s6 => wpAny (model prog w) A (dictSet D kv vv) (fun _ s7 => ∃ m, m < n ∧ I m s7) (Noted prog w A env R) s6) (Noted prog w A env R) s5) (Noted prog w A env R) s4
          else ∃ m, m < n ∧ I m s4) (Noted prog w A env R) s3) (Noted prog w A env R) s2) (Noted prog w A env R) s1) (Noted prog w A env R) s) (n : Nat) (h : I n s) :
    codeAny (model prog w) A (.compLoop (dcx kx vx t0 i0 t1 i1 f0 f1 sc pos) 1 it (.ref D) env) R s := by
  refine codeAny_loop rfl I (fun n s hI => ?_) n h
  show wpAny _ A ((compTurn (dcx kx vx t0 i0 t1 i1 f0 f1 sc pos) 1 it (.ref D) env).onRaise (fun x => do noteFrame x env; theTreesLotGoes x)) _ _ s
  refine wpAny_noted ?_
  rw [turn_in]
  refine wpAny_bind (wpAny_standAt (wpAny_bind (thn (turn n s hI) fun r s1 h1 => ?_)))
  cases r with
  | none => exact wpAny_pure h1
  | some v =>
    refine wpAny_bind (thn h1 fun _ s2 h2 => wpAny_bind (thn h2 fun _ s3 h3 => wpAny_bind (thn h3 fun ok s4 h4 => ?_)))
    cases ok with
    | false => exact wpAny_pure ⟨rfl, h4⟩
    | true => exact wpAny_bind (wpAny_bind (thn h4 fun kv s5 h5 => wpAny_bind (wpAny_holding (thn h5 fun vv s6 h6 => wpAny_bind (wpAny_standAt (wpAny_holding (thn h6 fun _ s7 h7 => wpAny_pure ⟨rfl, h7⟩)))))))
theorem start_in (h0 : codeAny (model prog w) A (.compLoop (dcx kx vx t0 i0 t1 i1 f0 f1 sc pos) 1 it acc env) R s)
    (h : wpAny (model prog w) A (pyIter it) (fun it' s' => codeAny (model prog w) A (.compLoop (dcx kx vx t0 i0 t1 i1 f0 f1 sc pos) 1 it' acc env) R s') (Noted prog w A env R) s) :
    codeAny (model prog w) A (.compStart (dcx kx vx t0 i0 t1 i1 f0 f1 sc pos) 1 it acc env) R s := by
  refine codeAny_of_tree ?_
  show wpAny _ _ ((compStart (dcx kx vx t0 i0 t1 i1 f0 f1 sc pos) 1 it acc env).onRaise (fun x => do noteFrame x env; standAt theWindowsPlace)) _ _ s
  refine wpAny_notedAt ?_
  unfold compStart
  show wpAny _ _ (ask >>= _) _ _ s
  refine wpAny_bind (wpAny_askSetting (wpAny_ite ?_))
  split
  · first
      | exact wpAny_bind (wpAny_pure (wpAny_pure (And.intro rfl h0)))
      | exact wpAny_pure (And.intro rfl h0)
  · first
      | exact wpAny_bind (wpAny_rule (wpAny_bind (wpAny_standAt (wpAny_bind (thn h fun it' s' h' => wpAny_pure (And.intro rfl h'))))))
      | (refine wpAny_bind (wpAny_rule ?_); show wpAny _ _ (standAt i1.pos >>= _) _ _ s; exact wpAny_bind (wpAny_standAt (wpAny_bind (thn h fun it' s' h' => wpAny_pure (And.intro rfl h')))))
end

section
variable {X : Cx}
/-- the inner clause's reading: from it Nx is to be reached -/
def tIn (D : Addr) (wi1 : TI) (g1 : TG) (tt1 : TT) (tk tv : TE) (vs1 : List Nat) (σ : L2.St) (H : Hp) (Nx : Hp → Prop) : Prop := wi1 σ H fun J1 H4 => ∃ W1 : Nat → Nat → Hp → Prop, (∃ m, W1 0 m H4) ∧ ∀ j k H, W1 j k H →
  (J1.stop j H ∧ Nx H) ∨ (J1.go j H ∧ ∃ N1 : Hp → Prop, (∀ H', N1 H' → ∃ k', k' < k ∧ W1 (j + 1) k' H') ∧ ∀ x H', J1.yld j H x H' → g1 x (wipe σ vs1) H' fun σ3 H5 => wipe σ3 vs1 = wipe σ vs1 ∧ tt1 σ3 H5 fun b H6 =>
    if b = true then tk σ3 H6 fun y H7 => tv σ3 H7 fun z H8 => ∃ kvs k, y = kV k ∧ H8 D = some (.dK kvs) ∧ kvs.length < sizeLine ∧ N1 (upd H8 D (.dK (putK kvs k z))) else N1 H6)
/-- the comprehension's: D the new dict -/
def tDc2 (wi : TI) (g : TG) (tt : TT) (wi1 : TI) (g1 : TG) (tt1 : TT) (tk tv : TE) (vs vs1 : List Nat) : TE := fun σ H Q => wi σ H fun J H1 => ∀ D, H1 D = none → ∃ W : Nat → Nat → Hp → Prop, (∃ m, W 0 m (upd H1 D (.dK []))) ∧ ∀ i m H, W i m H →
  (J.stop i H ∧ Q (.ref D) H) ∨ (J.go i H ∧ ∃ Nx : Hp → Prop, (∀ H', Nx H' → ∃ m', m' < m ∧ W (i + 1) m' H') ∧ ∀ x H', J.yld i H x H' → g x (wipe σ vs) H' fun σ2 H2 => wipe σ2 vs = wipe σ vs ∧ tt σ2 H2 fun b H3 =>
    if b = true then tIn D wi1 g1 tt1 tk tv vs1 σ2 H3 Nx else Nx H3)
/-- the inner clause, run within a block Y -/
theorem inner {Y : Cx} {env : Env} {kx vx t0 i0 t1 i1 : Expr} {f0 f1 : List Expr} {sc : Scope} {pos : Pos} {D : Addr} {wi1 : TI} {g1 : TG} {tt1 : TT} {tk tv : TE} {vs1 : List Nat} {pins : List (Addr × Obj)} {σ : L2.St} {H : Hp} {s : Shared} {Nx : Hp → Prop} {G : Shared → Prop}
    (he : Y.env = env) (hc : Y.calm = true) (hx : Y.xe = fun _ _ => False) (pi : PI Y t1 i1 wi1) (pg : PG Y t1 g1) (pt : PTs Y f1 tt1) (pk : PE Y kx tk) (pv : PE Y vx tv) (I : Inv Y pins σ H s) (h : tIn D wi1 g1 tt1 tk tv vs1 σ H Nx)
    (hG : ∀ σ' H' s', Inv Y pins σ' H' s' → σ'.length = σ.length → (∀ (j : Nat) v, j ∉ vs1 → σ[j]? = some (some v) → σ'[j]? = some (some v)) → Nx H' → G s') :
    wpAny (model Y.prog Y.w) Y.A (eval i1 env) (fun x s5 => wpAny (model Y.prog Y.w) Y.A (pyIter x) (fun it1 s6 => codeAny (model Y.prog Y.w) Y.A (.compStart (dcx kx vx t0 i0 t1 i1 f0 f1 sc pos) 1 it1 (.ref D) env) (fun r s' => match r with | .ok _ => G s' | .error _ => False) s6) (fun _ _ => False) s5) (fun _ _ => False) s := by
  subst he
  have toF : ∀ {α : Type} {t : Sem α} {Q : α → Shared → Prop} {s : Shared}, wpAny (model Y.prog Y.w) Y.A t Q Y.xe s → wpAny (model Y.prog Y.w) Y.A t Q (fun _ _ => False) s := fun z => by rw [hx] at z; exact z
  refine thn (toF (pi.run pins s σ H _ I h)) fun xv s5 hx5 => thn (toF hx5) fun itv s6 h6 => ?_
  obtain ⟨it1, fp1, tn1, J1, H6, e1, I6, T1, st6, f6, W1, ⟨m1, w1⟩, turn1⟩ := h6
  subst e1
  have stat : ∀ {H' : Hp}, (∀ b ∈ fp1, H' b = none) → ∀ b ∈ fp1, FpOk Y pins H' b := fun hn b hb => ⟨hn b hb, (f6 b hb).2⟩
  have loop : codeAny (model Y.prog Y.w) Y.A (.compLoop (dcx kx vx t0 i0 t1 i1 f0 f1 sc pos) 1 (.ref it1) (.ref D) Y.env) (fun r s' => match r with | .ok _ => G s' | .error _ => False) s6 := by
    refine loop_in (fun k s' => ∃ j H', Inv Y pins (wipe σ vs1) H' s' ∧ tn1 j s'.heap ∧ (∀ b ∈ fp1, H' b = none) ∧ W1 j k H') ?_ m1 ⟨0, H6, I6.weak (wipe_length _ _) (fun j v e => (wipe_some e).1), st6, fun b hb => (f6 b hb).1, w1⟩
    rintro k s12 ⟨j, H12, I12, st12, n12, w12⟩
    rcases turn1 j k H12 w12 with ⟨stop1, nx1⟩ | ⟨go1, N1, hN1, step1⟩
    · refine thnF (T1.done Y rfl rfl rfl hc j _ s12 (wipe σ vs1) H12 (fun _ _ => False) I12 (stat n12) st12 stop1) fun r s13 ⟨hr, I13⟩ => ?_
      subst hr
      exact hG _ _ _ I13 (wipe_length σ vs1) (fun j v hj e => by rw [wipe_out hj]; exact e) nx1
    · refine thnF (T1.item Y rfl rfl rfl hc j _ s12 (wipe σ vs1) H12 (fun _ _ => False) I12 (stat n12) st12 go1) fun r s13 ⟨u1, hr, h13⟩ => ?_
      subst hr
      refine thnF h13 fun _ s14 ⟨x1, H14, I14, r14, y14, st14, n14⟩ => ?_
      have I14' := I14.pinned (stat n14) (T1.obj _ _ st14)
      refine thnF (toF (pg.run _ s14 (wipe σ vs1) H14 x1 u1 _ I14' r14 (step1 x1 H14 y14))) fun _ s15 ⟨σ15, H15, I15, hw15, q15⟩ => ?_
      refine thnF (toF (pt.run _ s15 σ15 H15 _ I15 q15)) fun b1 s16 ⟨H16, I16, q16⟩ => ?_
      have fin1 : ∀ {s' : Shared} {H' : Hp}, Inv Y (pins ++ pinsAt fp1 s14.heap) σ15 H' s' → N1 H' → ∃ m, m < k ∧ ∃ j H', Inv Y pins (wipe σ vs1) H' s' ∧ tn1 j s'.heap ∧ (∀ b ∈ fp1, H' b = none) ∧ W1 j m H' := fun {s' H'} I' nx => by
        obtain ⟨m', hm, w'⟩ := hN1 H' nx
        have held : ∀ b ∈ fp1, ∀ o, s14.heap.get? b = some o → s'.heap.get? b = some o ∧ H' b = none := fun b hb o e =>
          let z := I'.pin (b, o) (List.mem_append_right _ (List.mem_append_right _ (mem_pinsAt hb e)))
          ⟨z.1, z.2.1⟩
        refine ⟨m', hm, j + 1, H', I'.unpinned.weak (by rw [← hw15, wipe_length]) (fun j v e => by rw [← hw15] at e; exact (wipe_some e).1), T1.keep _ _ _ st14 fun b hb o e => (held b hb o e).1, fun b hb => ?_, w'⟩
        obtain ⟨o, e, _⟩ := T1.obj _ _ st14 b hb
        exact (held b hb o e).2
      cases b1 with
      | false => exact fin1 I16 q16
      | true =>
        refine thnF (toF (pk.run _ s16 σ15 H16 _ I16 q16)) fun z s17 ⟨yk, H17, I17, r17, q17⟩ => ?_
        refine thnF (toF (pv.run _ s17 σ15 H17 _ I17 q17)) fun z2 s18 ⟨yv, H18, I18, r18, kvs, kk, ek, hD, hz, nx⟩ => ?_
        subst ek
        exact d_dictSet I18 hD hz r17 r18 fun s19 I19 => fin1 I19 nx
  exact start_in loop (T1.self Y.A 0 _ _ _ st6 loop)
/-- {kx: vx for tg in iter if .. for tg1 in iter1 if ..}, keys ints or texts -/
theorem dc2_core {pins : List (Addr × Obj)} {s : Shared} {σ : L2.St} {H : Hp} {Q : VK} {kx vx tg iter tg1 iter1 : Expr} {ifs ifs1 : List Expr} {sc : Scope} {own : List (Str × Nat)} {vs1 : List Nat} {pos : Pos} {wi wi1 : TI} {g g1 : TG} {tt tt1 : TT} {tk tv : TE} {pos' : Pos} {use : Option (Value → Sem Unit)} {Qf : Value → Shared → Prop} (hc : X.calm = true) (hN : X.N.Nodup) (I : Inv X pins σ H s) (hi : PI X tg iter wi) (ok : BlkOk X.N X.env.scope sc own) (hv : ∀ i ∈ vs1, i ∈ own.map (·.2))
    (hg : ∀ (s : Shared) (H : Hp) (C : Addr) (cl : List (Str × Addr)) (fp : List Addr), PG (X.blk s H sc (compEnvC sc cl C X.env) fp) tg g) (ht : ∀ (s : Shared) (H : Hp) (C : Addr) (cl : List (Str × Addr)) (fp : List Addr), PTs (X.blk s H sc (compEnvC sc cl C X.env) fp) ifs tt)
    (hi1 : ∀ (s : Shared) (H : Hp) (C : Addr) (cl : List (Str × Addr)) (fp : List Addr), PI (X.blk s H sc (compEnvC sc cl C X.env) fp) tg1 iter1 wi1) (hg1 : ∀ (s : Shared) (H : Hp) (C : Addr) (cl : List (Str × Addr)) (fp : List Addr), PG (X.blk s H sc (compEnvC sc cl C X.env) fp) tg1 g1)
    (ht1 : ∀ (s : Shared) (H : Hp) (C : Addr) (cl : List (Str × Addr)) (fp : List Addr), PTs (X.blk s H sc (compEnvC sc cl C X.env) fp) ifs1 tt1) (hk : ∀ (s : Shared) (H : Hp) (C : Addr) (cl : List (Str × Addr)) (fp : List Addr), PE (X.blk s H sc (compEnvC sc cl C X.env) fp) kx tk)
    (he : ∀ (s : Shared) (H : Hp) (C : Addr) (cl : List (Str × Addr)) (fp : List Addr), PE (X.blk s H sc (compEnvC sc cl C X.env) fp) vx tv) (hs : ∀ x, foldedSetIterable iter X.env x = pure x) (hs1 : ∀ env x, foldedSetIterable iter1 env x = pure x)
    (h : tDc2 wi g tt wi1 g1 tt1 tk tv (own.map (·.2)) vs1 σ H Q)
    (hRR : ∀ D C s' m H', Inv X pins σ H' s' → Q (.ref D) H' → s'.heap.Ns C m → FpOk X pins H' C → compPost (model X.prog X.w) X.A X.xe use Qf (.ref D) C (.ok .next) s') :
    wpAny (model X.prog X.w) X.A (comprehension (dcx kx vx tg iter tg1 iter1 ifs ifs1 sc pos) sc X.env pos' (newDict) false (eval iter X.env) use) Qf X.xe s := by
  have hfree : ∀ y ∈ sc.names, y.2 = .free → ∃ c, X.env.cells.lookup y.1 = some c := fun y hy e => (ok.free y hy e).elim (fun k => I.ok.has _ (.inl k)) fun k => I.ok.has _ (.inr k)
  refine wpAny_comprehension_free (use := use) rfl hs (closure_ok hfree) ok.kind (fun y hy e => by rw [ok.uniq y hy, e]) (thn (hi.run pins s σ H _ I h) fun xv s1 hx => thn hx fun itv s2 h2 => ?_)
  obtain ⟨it, fp, tn, J, H2, e, I2, T, st2, f2, q⟩ := h2
  subst e
  refine wpAny_newObj_type (newEnv_comp ?_)
  generalize hD : s2.heap.objs.size = D
  obtain ⟨W, ⟨m0, w0⟩, turn⟩ := q D (I2.hok.fresh (Nat.le_of_eq hD))
  generalize hs3 : ({ s2 with heap := s2.heap.push { cls := .type "dict", data := .dict #[] } } : Shared) = s3
  have h3 : s3.heap = s2.heap.push { cls := .type "dict", data := .dict #[] } := by rw [← hs3]
  have I3 : Inv X pins σ (upd H2 D (.dK [])) s3 := by
    rw [← hs3]
    refine I2.laid (t' := s2.toks) (fun b o e => Heap.get?_push_of_some _ e) (Nat.le_of_eq hD) ?_
    rw [← hD]
    exact dk_empty s2.heap I2.big
  have f3 : ∀ b ∈ fp, FpOk X pins (upd H2 D (.dK [])) b ∧ b < s3.heap.objs.size := fun b hb => by
    obtain ⟨o, e, _⟩ := T.obj _ _ st2 b hb
    have hlt := Heap.lt_size e
    refine ⟨⟨?_, (f2 b hb).2⟩, by rw [h3, Heap.size_push]; exact Nat.lt_succ_of_lt hlt⟩
    rw [upd_ne (by rw [← hD]; exact Nat.ne_of_lt hlt)]
    exact (f2 b hb).1
  have st3 : tn 0 s3.heap := T.keep _ _ _ st2 fun b _ o e => by rw [h3]; exact Heap.get?_push_of_some _ e
  have I4 := block_start I3 ok hN f3
  -- the block's parts
  have pg := hg s3 (upd H2 D (.dK [])) s3.heap.objs.size (cellsFrom (s3.heap.objs.size + 1) sc.names (cloFrom X.env.cells sc.names [])) fp
  have pt := ht s3 (upd H2 D (.dK [])) s3.heap.objs.size (cellsFrom (s3.heap.objs.size + 1) sc.names (cloFrom X.env.cells sc.names [])) fp
  have pi1 := hi1 s3 (upd H2 D (.dK [])) s3.heap.objs.size (cellsFrom (s3.heap.objs.size + 1) sc.names (cloFrom X.env.cells sc.names [])) fp
  have pg1 := hg1 s3 (upd H2 D (.dK [])) s3.heap.objs.size (cellsFrom (s3.heap.objs.size + 1) sc.names (cloFrom X.env.cells sc.names [])) fp
  have pt1 := ht1 s3 (upd H2 D (.dK [])) s3.heap.objs.size (cellsFrom (s3.heap.objs.size + 1) sc.names (cloFrom X.env.cells sc.names [])) fp
  have pk := hk s3 (upd H2 D (.dK [])) s3.heap.objs.size (cellsFrom (s3.heap.objs.size + 1) sc.names (cloFrom X.env.cells sc.names [])) fp
  have pe := he s3 (upd H2 D (.dK [])) s3.heap.objs.size (cellsFrom (s3.heap.objs.size + 1) sc.names (cloFrom X.env.cells sc.names [])) fp
  show codeAny _ _ (.compStart (dcx kx vx tg iter tg1 iter1 ifs ifs1 sc pos) 0 (.ref it) (.ref D) (compEnvC sc (cellsFrom (s3.heap.objs.size + 1) sc.names (cloFrom X.env.cells sc.names [])) s3.heap.objs.size X.env)) (compPost (model X.prog X.w) X.A X.xe use Qf (.ref D) s3.heap.objs.size) { s3 with heap := pushCells (s3.heap.push { cls := .type "dict", data := .dict #[] }) sc.names }
  have nfp : ∀ b ∈ fp, (upd H2 D (.dK [])) b = none := fun b hb => (f3 b hb).1.1
  generalize hce : compEnvC sc (cellsFrom (s3.heap.objs.size + 1) sc.names (cloFrom X.env.cells sc.names [])) s3.heap.objs.size X.env = ce at I4 pg pt pk pe pi1 pg1 pt1 ⊢
  have cL : ce.locals = s3.heap.objs.size := by subst hce; rfl
  generalize hH3 : upd H2 D (.dK []) = H3 at I3 I4 pg pt pk pe pi1 pg1 pt1 w0 nfp f3
  generalize hs4 : ({ s3 with heap := pushCells (s3.heap.push { cls := .type "dict", data := .dict #[] }) sc.names } : Shared) = s4 at I4 ⊢
  have st4 : tn 0 s4.heap := T.keep _ _ _ st3 fun b _ o e => by rw [← hs4]; exact pushCells_keeps _ _ _ _ (Heap.get?_push_of_some _ e)
  have stat : ∀ {σ' : L2.St} {H' : Hp} {s' : Shared}, Inv (X.blk s3 H3 sc ce fp) [] σ' H' s' → (∀ b ∈ fp, H' b = none) → ∀ b ∈ fp, FpOk (X.blk s3 H3 sc ce fp) [] H' b := fun {σ' H' s'} I' hn b hb =>
    ⟨hn b hb, (I'.ok.exf b hb).1, I'.ok.exfs b hb, .inl hb, fun x c e => (I'.ok.exf b hb).2 x c e, fun p hp => absurd (show p ∈ ([] : List (Addr × Obj)) ++ [] from hp) (by simp)⟩
  have loop : codeAny (model X.prog X.w) X.A (.compLoop (dcx kx vx tg iter tg1 iter1 ifs ifs1 sc pos) 0 (.ref it) (.ref D) ce) (compPost (model X.prog X.w) X.A X.xe use Qf (.ref D) s3.heap.objs.size) s4 := by
    refine loop_out (hs1 ce) (fun n s' => ∃ i H', Inv (X.blk s3 H3 sc ce fp) [] (wipe σ (own.map (·.2))) H' s' ∧ tn i s'.heap ∧ (∀ b ∈ fp, H' b = none) ∧ W i n H') ?_ m0 ⟨0, H3, I4, st4, nfp, w0⟩
    rintro n s5 ⟨i, H5, I5, st5, n5, w5⟩
    rcases turn i n H5 w5 with ⟨stop, qq⟩ | ⟨go, Nx, hNx, step⟩
    · refine thnF (T.done (X.blk s3 H3 sc ce fp) rfl rfl rfl hc i [] s5 _ H5 (fun _ _ => False) I5 (stat I5 n5) st5 stop) fun r s6 ⟨hr, I6⟩ => ?_
      subst hr
      have I7 : Inv X pins σ H5 s6 := I3.call' (ch := fp) I6.os I6.base I6.hok I6.bare fun b hb => ⟨(f3 b hb).1.2.2.2.1, (f3 b hb).1.2.1, (f3 b hb).1.2.2.2.2.1, (f3 b hb).1.2.2.2.2.2⟩
      have nC : H5 s3.heap.objs.size = none := by rw [← cL]; exact I6.free
      obtain ⟨m, hn, _⟩ := I6.loc
      have hn : s6.heap.Ns ce.locals m := hn
      rw [cL] at hn
      exact hRR D _ s6 m H5 I7 qq hn (I3.fpOk (H' := H5) (Nat.le_refl _) nC)
    · refine thnF (T.item (X.blk s3 H3 sc ce fp) rfl rfl rfl hc i [] s5 _ H5 (fun _ _ => False) I5 (stat I5 n5) st5 go) fun r s6 ⟨u, hr, h6⟩ => ?_
      subst hr
      refine thnF h6 fun _ s7 ⟨x, H7, I7, r7, y7, st7, n7⟩ => ?_
      refine thnF (pg.run _ s7 _ H7 x u _ (I7.pinned (stat I7 n7) (T.obj _ _ st7)) r7 (step x H7 y7)) fun _ s8 ⟨σ8, H8, I8, hw8, q8⟩ => ?_
      refine thnF (pt.run _ s8 σ8 H8 _ I8 q8) fun b s9 ⟨H9, I9, q9⟩ => ?_
      -- the turn's end, from any slots that know what the block knew at its start
      have fin : ∀ {σ9 : L2.St} {s' : Shared} {H' : Hp}, Inv (X.blk s3 H3 sc ce fp) ([] ++ pinsAt fp s7.heap) σ9 H' s' → (wipe σ (own.map (·.2))).length = σ9.length → (∀ (j : Nat) v, (wipe σ (own.map (·.2)))[j]? = some (some v) → σ9[j]? = some (some v)) → Nx H' →
          ∃ m, m < n ∧ ∃ i H', Inv (X.blk s3 H3 sc ce fp) [] (wipe σ (own.map (·.2))) H' s' ∧ tn i s'.heap ∧ (∀ b ∈ fp, H' b = none) ∧ W i m H' := fun {σ9 s' H'} I' hl hk nx => by
        obtain ⟨m', hm, w'⟩ := hNx H' nx
        have held : ∀ b ∈ fp, ∀ o, s7.heap.get? b = some o → s'.heap.get? b = some o ∧ H' b = none := fun b hb o e =>
          let z := I'.pin (b, o) (List.mem_append_right _ (List.mem_append_right _ (mem_pinsAt hb e)))
          ⟨z.1, z.2.1⟩
        refine ⟨m', hm, i + 1, H', (I'.unpinned (pins := [])).weak hl hk, T.keep _ _ _ st7 fun b hb o e => (held b hb o e).1, fun b hb => ?_, w'⟩
        obtain ⟨o, e, _⟩ := T.obj _ _ st7 b hb
        exact (held b hb o e).2
      have hl8 : (wipe σ (own.map (·.2))).length = σ8.length := by rw [← hw8, wipe_length]
      have hk8 : ∀ (j : Nat) v, (wipe σ (own.map (·.2)))[j]? = some (some v) → σ8[j]? = some (some v) := fun j v e => by
        rw [← hw8] at e
        exact (wipe_some e).1
      cases b with
      | false => exact fin I9 hl8 hk8 q9
      | true =>
        refine wpAny_mono (inner (Y := X.blk s3 H3 sc ce fp) (t0 := tg) (i0 := iter) (f0 := ifs) (sc := sc) (pos := pos) (G := fun s' => ∃ m, m < n ∧ ∃ i H', Inv (X.blk s3 H3 sc ce fp) [] (wipe σ (own.map (·.2))) H' s' ∧ tn i s'.heap ∧ (∀ b ∈ fp, H' b = none) ∧ W i m H') rfl hc rfl pi1 pg1 pt1 pk pe I9 q9 fun σ' H' s' I' hl' hk' nx => ?_) (fun x s10 h10 => ?_) (fun _ _ z => z.elim)
        · refine fin I' (hl8.trans hl'.symm) (fun j v e => ?_) nx
          refine hk' j v (fun z => ?_) (hk8 j v e)
          exact (wipe_some e).2 (hv j z)
        · exact wpAny_mono h10 (fun _ _ z => z) fun _ _ z => z.elim
  exact codeAny_compStart_dict loop (T.self X.A 0 _ _ _ st4 loop)
/-- {kx: vx for tg in iter if .. for tg1 in iter1 if ..}, keys ints or texts -/
theorem pe_dc2 {kx vx tg iter tg1 iter1 : Expr} {ifs ifs1 : List Expr} {sc : Scope} {own : List (Str × Nat)} {vs1 : List Nat} {pos : Pos} {wi wi1 : TI} {g g1 : TG} {tt tt1 : TT} {tk tv : TE} (hc : X.calm = true) (hN : X.N.Nodup) (hi : PI X tg iter wi) (ok : BlkOk X.N X.env.scope sc own) (hv : ∀ i ∈ vs1, i ∈ own.map (·.2))
    (hg : ∀ (s : Shared) (H : Hp) (C : Addr) (cl : List (Str × Addr)) (fp : List Addr), PG (X.blk s H sc (compEnvC sc cl C X.env) fp) tg g) (ht : ∀ (s : Shared) (H : Hp) (C : Addr) (cl : List (Str × Addr)) (fp : List Addr), PTs (X.blk s H sc (compEnvC sc cl C X.env) fp) ifs tt)
    (hi1 : ∀ (s : Shared) (H : Hp) (C : Addr) (cl : List (Str × Addr)) (fp : List Addr), PI (X.blk s H sc (compEnvC sc cl C X.env) fp) tg1 iter1 wi1) (hg1 : ∀ (s : Shared) (H : Hp) (C : Addr) (cl : List (Str × Addr)) (fp : List Addr), PG (X.blk s H sc (compEnvC sc cl C X.env) fp) tg1 g1)
    (ht1 : ∀ (s : Shared) (H : Hp) (C : Addr) (cl : List (Str × Addr)) (fp : List Addr), PTs (X.blk s H sc (compEnvC sc cl C X.env) fp) ifs1 tt1) (hk : ∀ (s : Shared) (H : Hp) (C : Addr) (cl : List (Str × Addr)) (fp : List Addr), PE (X.blk s H sc (compEnvC sc cl C X.env) fp) kx tk)
    (he : ∀ (s : Shared) (H : Hp) (C : Addr) (cl : List (Str × Addr)) (fp : List Addr), PE (X.blk s H sc (compEnvC sc cl C X.env) fp) vx tv) (hs : ∀ x, foldedSetIterable iter X.env x = pure x := by intro _; rfl) (hs1 : ∀ env x, foldedSetIterable iter1 env x = pure x := by intro _ _; rfl) :
    PE X (dcx kx vx tg iter tg1 iter1 ifs ifs1 sc pos) (tDc2 wi g tt wi1 g1 tt1 tk tv (own.map (·.2)) vs1) := by
  refine ⟨fun pins s σ H Q I h => ?_⟩
  rw [arm_eval_DictComp]
  refine dc2_core hc hN I hi ok hv hg ht hi1 hg1 ht1 hk he hs hs1 h fun D C s' m H' I' q hn f => ⟨m, hn, fun h'' sb => ?_⟩
  obtain ⟨f0, f1, f2, f3, f4, f5⟩ := f
  exact ⟨.ref D, H', I'.turned (t' := s'.toks) (fun b o hb e => (sb.2 b hb).trans e) f0 f1 f3 f4 f5, rfl, q⟩
/-- y = {kx: vx for tg in iter if .. for tg1 in iter1 if ..}, keys ints or texts -/
theorem ps_setDc2 {i : Nat} {y : Str} {py spos : Pos} {kx vx tg iter tg1 iter1 : Expr} {ifs ifs1 : List Expr} {sc : Scope} {own : List (Str × Nat)} {vs1 : List Nat} {pos : Pos} {wi wi1 : TI} {g g1 : TG} {tt tt1 : TT} {tk tv : TE} (hc : X.calm = true) (hN : X.N.Nodup) (hy : X.N[i]? = some y) (hyl : X.env.scope.names.lookup y = some .local) (hsw : swapsWith (dcx kx vx tg iter tg1 iter1 ifs ifs1 sc pos) (some (.Name y py)) spos.line X.env = pure true) (hi : PI X tg iter wi) (ok : BlkOk X.N X.env.scope sc own) (hv : ∀ i ∈ vs1, i ∈ own.map (·.2))
    (hg : ∀ (s : Shared) (H : Hp) (C : Addr) (cl : List (Str × Addr)) (fp : List Addr), PG (X.blk s H sc (compEnvC sc cl C X.env) fp) tg g) (ht : ∀ (s : Shared) (H : Hp) (C : Addr) (cl : List (Str × Addr)) (fp : List Addr), PTs (X.blk s H sc (compEnvC sc cl C X.env) fp) ifs tt)
    (hi1 : ∀ (s : Shared) (H : Hp) (C : Addr) (cl : List (Str × Addr)) (fp : List Addr), PI (X.blk s H sc (compEnvC sc cl C X.env) fp) tg1 iter1 wi1) (hg1 : ∀ (s : Shared) (H : Hp) (C : Addr) (cl : List (Str × Addr)) (fp : List Addr), PG (X.blk s H sc (compEnvC sc cl C X.env) fp) tg1 g1)
    (ht1 : ∀ (s : Shared) (H : Hp) (C : Addr) (cl : List (Str × Addr)) (fp : List Addr), PTs (X.blk s H sc (compEnvC sc cl C X.env) fp) ifs1 tt1) (hk : ∀ (s : Shared) (H : Hp) (C : Addr) (cl : List (Str × Addr)) (fp : List Addr), PE (X.blk s H sc (compEnvC sc cl C X.env) fp) kx tk)
    (he : ∀ (s : Shared) (H : Hp) (C : Addr) (cl : List (Str × Addr)) (fp : List Addr), PE (X.blk s H sc (compEnvC sc cl C X.env) fp) vx tv) (hs : ∀ x, foldedSetIterable iter X.env x = pure x := by intro _; rfl) (hs1 : ∀ env x, foldedSetIterable iter1 env x = pure x := by intro _ _; rfl) :
    PS X (.Assign [.Name y py] (dcx kx vx tg iter tg1 iter1 ifs ifs1 sc pos) spos) (tAsg (tDc2 wi g tt wi1 g1 tt1 tk tv (own.map (·.2)) vs1) (gName i)) := by
  refine ⟨fun pins s σ H D I h => ?_⟩
  rw [exec_Assign_Name_used _ _ _ _ hsw]
  refine wpAny_bind (wpAny_standAt (wpAny_bind ?_))
  show wpAny _ X.A (do let _ ← comprehension (dcx kx vx tg iter tg1 iter1 ifs ifs1 sc pos) sc X.env (firstIterPos [⟨tg, iter, ifs, 0⟩, ⟨tg1, iter1, ifs1, 0⟩] pos) newDict false (eval iter X.env) (some (assign (.Name y py) X.env))) _ _ s
  have h : tDc2 wi g tt wi1 g1 tt1 tk tv (own.map (·.2)) vs1 σ H (fun x H1 => gName i x σ H1 D.nx) := h
  refine wpAny_bind (thn (dc2_core (Qf := fun _ s' => SP X pins D .next s') hc hN I hi ok hv hg ht hi1 hg1 ht1 hk he hs hs1 h fun L C s' m H' I' q hn f => ?_) fun _ s' hq => wpAny_pure (wpAny_pure hq))
  show wpAny _ _ (assign (.Name y py) X.env (.ref L)) _ _ _
  refine wpAny_assign_Name (store_ok2 (v := V.ref L) I' hN hy (.inl hyl) rfl (fun s2 I2 ⟨a, sb, ha⟩ => ?_) (.inr hyl))
  obtain ⟨f0, f1, f2, f3, f4, f5⟩ := f
  have haC : C ≠ a := by
    rcases ha with z | z
    · rw [z]; exact f1
    · exact fun e => f4 y a z e.symm
  refine ⟨m, hn.sameBut sb haC, fun h3 sb3 => ?_⟩
  exact ⟨_, H', I2.turned (t' := s2.toks) (fun b o hb e => (sb3.2 b hb).trans e) f0 f1 f3 f4 f5, q⟩
end
end Dc2
set_option Elab.async false
set_option linter.all false
set_option maxRecDepth 100000
/-! Own rules: dicts whose keys are pairs of standings (a tuple of numbers, or None). -/
namespace Nd
open PySem PySem.Spec PyProof.Rows L2 Sl

def numK (n : Nat) : NestedKey := .num (n : Int)
def stdK : Std → NestedKey
  | none => .none
  | some ss => .tup (ss.map numK)
def prK (p : Pr) : NestedKey := .tup [stdK p.1, stdK p.2]
theorem numK_inj : ∀ {a b : List Nat}, a.map numK = b.map numK → a = b
  | [], [], _ => rfl
  | [], _ :: _, h => by cases h
  | _ :: _, [], h => by cases h
  | x :: a, y :: b, h => by
    rw [List.map_cons, List.map_cons] at h
    injection h with h1 h2
    have h1 : NestedKey.num (x : Int) = NestedKey.num (y : Int) := h1
    injection h1 with h1
    rw [numK_inj h2, Int.ofNat_inj.mp h1]
theorem stdK_inj : ∀ {a b : Std}, stdK a = stdK b → a = b
  | none, none, _ => rfl
  | none, some _, h => by cases h
  | some _, none, h => by cases h
  | some a, some b, h => by
    have h : NestedKey.tup (a.map numK) = NestedKey.tup (b.map numK) := h
    injection h with h
    rw [numK_inj h]
theorem prK_inj {p q : Pr} (h : prK p = prK q) : p = q := by
  have h : NestedKey.tup [stdK p.1, stdK p.2] = NestedKey.tup [stdK q.1, stdK q.2] := h
  injection h with h
  injection h with h1 h2
  injection h2 with h2 _
  exact Prod.ext (stdK_inj h1) (stdK_inj h2)
theorem depth_nums : ∀ ss : List Nat, NestedKey.depthAll (ss.map numK) = 0
  | [] => rfl
  | n :: ss => by
    show max 0 (NestedKey.depthAll (ss.map numK)) = 0
    rw [depth_nums ss]
    rfl
theorem depth_std (a : Std) : (stdK a).depth ≤ 1 := by
  cases a with
  | none => exact Nat.zero_le _
  | some ss =>
    show NestedKey.depthAll (ss.map numK) + 1 ≤ 1
    rw [depth_nums]
    exact Nat.le_refl _
theorem depth_pr (p : Pr) : (prK p).depth ≤ 8 := by
  show max (stdK p.1).depth (max (stdK p.2).depth 0) + 1 ≤ 8
  have h1 := depth_std p.1
  have h2 := depth_std p.2
  omega

/-! ### standings and pairs of them as values -/
def StdV (H : Hp) (st : Std) (v : V) : Prop := match st with
  | none => v = .non
  | some ss => ∃ a, v = .ref a ∧ H a = some (.tup (ss.map fun (n : Nat) => V.int (n : Int)))
def PrV (H : Hp) (p : Pr) (v : V) : Prop := ∃ a x y, v = .ref a ∧ H a = some (.tup [x, y]) ∧ StdV H p.1 x ∧ StdV H p.2 y
theorem StdV.same {H H' : Hp} {st : Std} {v : V} (x : StdV H st v) (s : ∀ b xs, H b = some (.tup xs) → H' b = some (.tup xs)) : StdV H' st v := by
  cases st with
  | none => exact x
  | some ss =>
    obtain ⟨a, e, h⟩ := x
    exact ⟨a, e, s _ _ h⟩
theorem PrV.same {H H' : Hp} {p : Pr} {v : V} (x : PrV H p v) (s : ∀ b xs, H b = some (.tup xs) → H' b = some (.tup xs)) : PrV H' p v := by
  obtain ⟨a, x, y, e, h, h1, h2⟩ := x
  exact ⟨a, x, y, e, s _ _ h, StdV.same h1 s, StdV.same h2 s⟩
section
variable {P : Program} {w : World} {H : Hp} {h : Heap}
theorem nums_all : ∀ {ss : List Nat} {us : List Value}, Vals (ss.map fun (n : Nat) => V.int (n : Int)) us → NestedAll h (ss.map numK) us
  | [], _, r => by
    cases r
    exact .nil
  | n :: ss, _, r => by
    rw [List.map_cons] at r
    cases r with
    | cons r t =>
      obtain ⟨tk, rfl⟩ := r
      exact .cons (.int _ _) (nums_all t)
theorem std_is (ok : HOk P w H h) {st : Std} {v : V} {u : Value} (x : StdV H st v) (r : RelV v u) : NestedIs h (stdK st) u := by
  cases st with
  | none =>
    have x : v = .non := x
    subst x
    cases r
    exact .none
  | some ss =>
    obtain ⟨a, rfl, e⟩ := x
    cases r
    obtain ⟨_, its, rv, o, ho, hc, n, hd⟩ := ok a _ e
    exact .tup ho hc hd (by simpa using nums_all rv)
theorem pr_is (ok : HOk P w H h) {p : Pr} {a : Addr} (x : PrV H p (.ref a)) : (nestedKind P w).is h (prK p) a := by
  obtain ⟨b, x, y, e, hb, h1, h2⟩ := x
  cases e
  obtain ⟨_, its, rv, o, ho, hc, n, hd⟩ := ok a _ hb
  obtain ⟨u1, u2, rfl, r1, r2⟩ := vals2 rv
  exact ⟨.tup ho hc hd (.cons (std_is ok h1 r1) (.cons (std_is ok h2 r2) .nil)), depth_pr p⟩
end
/-! ### the dict -/
/-- the entries of the dict at d -/
def Ent (P : Program) (w : World) (d : Addr) (xs : List (NestedKey × Addr × Value)) : HO := .ext fun h => ∃ o es ep, h.get? d = some o ∧ o.ExactDict ∧ o.data = .dict es ep ∧ es.toList = xs.map (entryOfKey (nestedKind P w)) ∧ (xs.map (·.1)).Nodup
abbrev Row (H : Hp) : Pr × V → NestedKey × Addr × Value → Prop := fun p q => q.1 = prK p.1 ∧ PrV H p.1 (.ref q.2.1) ∧ RelV p.2 q.2.2
/-- a dict of pairs of standings stands at d -/
def DictN (P : Program) (w : World) (H : Hp) (d : Addr) (kvs : List (Pr × V)) : Prop :=
  ∃ xs, Paired (Row H) kvs xs ∧ (d == sysModules) = false ∧ kvs.length ≤ sizeLine ∧ H d = some (Ent P w d xs)
theorem DictN.same {P : Program} {w : World} {H H' : Hp} {d : Addr} {kvs : List (Pr × V)} (x : DictN P w H d kvs) (s : ∀ b o, H b = some o → H' b = some o) : DictN P w H' d kvs := by
  obtain ⟨xs, r, h1, h2, h3⟩ := x
  exact ⟨xs, Paired.mapP r fun p q z => ⟨z.1, z.2.1.same fun b ys e => s _ _ e, z.2.2⟩, h1, h2, s _ _ h3⟩
theorem ent_ok {P : Program} {w : World} {H : Hp} {h : Heap} {d : Addr} {xs : List (NestedKey × Addr × Value)} (hm : h.DictOfH (nestedKind P w) d xs) : ObjOk P w H h d (Ent P w d xs) := by
  obtain ⟨o, es, ep, ho, hc, hd, he, _, hn⟩ := hm
  refine ⟨⟨o, es, ep, ho, hc, hd, he, hn⟩, ⟨o, ho⟩, fun h1 h2 p k => ?_⟩
  obtain ⟨o, es, ep, ho, r⟩ := p
  exact ⟨o, es, ep, k o ho, r⟩
theorem paired_mem {α β : Type} {F : α → β → Prop} : ∀ {l : List α} {m : List β}, Paired F l m → ∀ b ∈ m, ∃ a ∈ l, F a b
  | _, _, .nil, b, hb => by cases hb
  | _, _, .cons r t, b, hb => by
    rcases List.mem_cons.mp hb with e | hb
    · subst e
      exact ⟨_, List.mem_cons_self .., r⟩
    · obtain ⟨a, ha, q⟩ := paired_mem t b hb
      exact ⟨a, List.mem_cons_of_mem _ ha, q⟩
theorem dict_of {P : Program} {w : World} {H : Hp} {h : Heap} {d : Addr} {kvs : List (Pr × V)} {xs : List (NestedKey × Addr × Value)} (ok : HOk P w H h) (r : Paired (Row H) kvs xs) (e : H d = some (Ent P w d xs)) : h.DictOfH (nestedKind P w) d xs := by
  obtain ⟨⟨o, es, ep, ho, hc, hd, he, hn⟩, _⟩ := ok d _ e
  refine ⟨o, es, ep, ho, hc, hd, he, fun x hx => ?_, hn⟩
  obtain ⟨p, _, q1, q2, _⟩ := paired_mem r x hx
  rw [q1]
  exact pr_is ok q2
/-- what is looked up -/
theorem val_at {H : Hp} : ∀ {kvs : List (Pr × V)} {xs : List (NestedKey × Addr × Value)}, Paired (Row H) kvs xs → ∀ k : Pr, RelO (valV kvs k) (valueAt (pairsH xs) (prK k))
  | _, _, .nil, k => True.intro
  | _, _, @Paired.cons _ _ _ p q kvs xs r t, k => by
    obtain ⟨q1, q2, q3⟩ := r
    by_cases e : p.1 = k
    · have e' : q.1 = prK k := by rw [q1, e]
      have h1 : valV (p :: kvs) k = some p.2 := valV_pos e
      have h2 : valueAt (pairsH (q :: xs)) (prK k) = some q.2.2 := by simp [pairsH, valueAt, e']
      rw [h1, h2]
      exact q3
    · have e' : ¬ q.1 = prK k := by rw [q1]; exact fun z => e (prK_inj z)
      have h1 : valV (p :: kvs) k = valV kvs k := valV_neg e
      have h2 : valueAt (pairsH (q :: xs)) (prK k) = valueAt (pairsH xs) (prK k) := by simp [pairsH, valueAt, e']
      rw [h1, h2]
      exact val_at t k
section
variable {X : Cx}
/-- k in d, k not in d -/
def rInN (P : Program) (w : World) (neg : Bool) : R2 := fun x y H Q => ∃ k d kvs, PrV H k x ∧ y = .ref d ∧ DictN P w H d kvs ∧ Q (.bl (if neg = true then !(valV kvs k).isSome else (valV kvs k).isSome)) H
theorem op_notInN (hu : X.A.units + 64 < cLine) : OpR X (compareOp .NotIn) (rInN X.prog X.w true) := by
  intro pins s σ H x y v u Q I rx ry h
  obtain ⟨k, d, kvs, hk, rfl, ⟨xs, r, hs, hz, e⟩, q⟩ := h
  obtain ⟨a, _, _, rfl, _⟩ := id hk
  cases rx
  cases ry
  have rel := val_at r k
  refine notIn_keyed (knd := nestedKind X.prog X.w) (by show X.A.units + 1 + 8 < cLine; omega) (pr_is I.hok hk) hs ⟨xs, dict_of I.hok r e, rfl⟩ ?_
  have eb : (valueAt (pairsH xs) (prK k)).isSome = (valV kvs k).isSome := rel.isSome_eq.symm
  rw [eb]
  exact ⟨.bl _, H, I.tok _, rfl, q⟩
/-- d[k] -/
def rGetN (P : Program) (w : World) : R2 := fun x y H Q => ∃ k d kvs v, x = .ref d ∧ PrV H k y ∧ DictN P w H d kvs ∧ valV kvs k = some v ∧ Q v H
theorem ix_getN (hu : X.A.units + 64 < cLine) : IxR X (rGetN X.prog X.w) := by
  intro value slice pins s σ H x y v u Q I rx ry h hs'
  obtain ⟨k, d, kvs, z, rfl, hk, ⟨xs, r, hs, hz, e⟩, hv, q⟩ := h
  obtain ⟨a, _, _, rfl, _⟩ := id hk
  cases rx
  cases ry
  have rel := val_at r k
  rw [hv] at rel
  obtain ⟨uv, e2, rz⟩ := RelO.some_of rel
  have dk := dict_of I.hok r e
  exact PyProof.Rows.subscriptTail_builtinR (x := uv) dk.typeIs F.slot_dict_getitem.lookup (getItem_keyed (knd := nestedKind X.prog X.w) (by show X.A.units + 1 + 8 < cLine; omega) (pr_is I.hok hk) ⟨xs, dk, rfl⟩ e2 ⟨rfl, z, H, I.tok _, rz, q⟩) hs'
/-- one entry more -/
theorem paired_snoc {α β : Type} {F : α → β → Prop} {a : α} {b : β} (q : F a b) : ∀ {l : List α} {m : List β}, Paired F l m → Paired F (l ++ [a]) (m ++ [b])
  | _, _, .nil => .cons q .nil
  | _, _, .cons r t => .cons r (paired_snoc q t)
theorem at_none {H : Hp} {kvs : List (Pr × V)} {xs : List (NestedKey × Addr × Value)} (r : Paired (Row H) kvs xs) {k : Pr} (h : valV kvs k = none) : atKey xs (prK k) = none := by
  have rel := val_at r k
  rw [h, valueAt_pairsH] at rel
  cases e : atKey xs (prK k) with
  | none => rfl
  | some p =>
    rw [e] at rel
    cases rel
/-- d[k] = v, k not in d -/
def rSetN (P : Program) (w : World) : TSet := fun o i v H Q => ∃ k d kvs, o = .ref d ∧ PrV H k i ∧ DictN P w H d kvs ∧ valV kvs k = none ∧ kvs.length < sizeLine ∧ ∀ ob, DictN P w (upd H d ob) d (kvs ++ [(k, v)]) → Mut (H d) → Q (upd H d ob)
theorem set_N (hu : X.A.units + 64 < cLine) : PSet X (rSetN X.prog X.w) := by
  intro pins s σ H o i v ov iv u Q I ro ri rv h
  obtain ⟨k, d, kvs, rfl, hk, ⟨xs, r, hs, hz, e⟩, hn, hl, q⟩ := h
  obtain ⟨a, x, y, rfl, ha, _⟩ := id hk
  cases ro
  cases ri
  have hx : xs.length = kvs.length := (Paired.length r).symm
  refine wpAny_setItem_heap (knd := nestedKind X.prog X.w) (by show X.A.units + 1 + 8 < cLine; omega) (pr_is I.hok hk) (dict_of I.hok r e) (fun h' hm' hb => ?_) (by rw [hx]; exact hz)
  have hn2 := at_none r hn
  rw [storedH_new hn2] at hm'
  have nd : d ≠ a := fun z => by
    rw [z, ha] at e
    cases e
  have mu : Mut (H d) := by rw [e]; exact True.intro
  have keepT : ∀ b ys, H b = some (.tup ys) → (upd H d (Ent X.prog X.w d (xs ++ [(prK k, a, u)]))) b = some (.tup ys) := fun b ys z => by
    rw [upd_ne fun q => by rw [q, e] at z; cases z]
    exact z
  have hd : DictN X.prog X.w (upd H d (Ent X.prog X.w d (xs ++ [(prK k, a, u)]))) d (kvs ++ [(k, v)]) :=
    ⟨xs ++ [(prK k, a, u)], paired_snoc ⟨rfl, hk.same keepT, rv⟩ (Paired.mapP r fun p q z => ⟨z.1, z.2.1.same keepT, z.2.2⟩), hs, by rw [List.length_append, List.length_singleton]; exact hl, upd_same⟩
  have he : ∃ ob, h'.get? d = some ob := by
    obtain ⟨ob, _, _, ho, _⟩ := hm'
    exact ⟨ob, ho⟩
  exact ⟨_, I.write (e := d) (t' := s.toks + _) mu (.inl rfl) (fun b ob hbd q => (hb.2 b hbd).trans q) he (ent_ok hm'), q _ hd mu⟩
/-- {k: v} -/
def tDispN (P : Program) (w : World) (tk tv : TE) : TE := fun σ H Q => ∀ p, H p = none → tk σ (upd H p (.dT [])) fun x H1 => tv σ H1 fun z H2 => H2 p = some (.dT []) ∧ ∃ k, PrV H2 k x ∧ ∀ ob, DictN P w (upd H2 p ob) p [(k, z)] → Q (.ref p) (upd H2 p ob)
theorem pe_dispN (hu : X.A.units + 64 < cLine) {k v : Expr} {tk tv : TE} {pos : Pos} (hk : PE X k tk) (hv : PE X v tv) : PE X (.Dict [some k] [v] pos) (tDispN X.prog X.w tk tv) := by
  refine ⟨fun pins s σ H Q I h => ?_⟩
  have hn := I.hok.fresh (Nat.le_refl s.heap.objs.size)
  have I1 := I.laid (a := s.heap.objs.size) (o := .dT []) (h' := s.heap.push { cls := .type "dict", data := .dict #[] }) (t' := s.toks) (fun _ _ q => Heap.get?_push_of_some _ q) (Nat.le_refl _) (dt_empty s.heap I.big)
  have pp : PPs X pos [some k] [v] [(tk, tv)] := pps_cons hk hv pps_nil
  let R : List (V × V) → Hp → Prop := fun ps H2 => match ps with
    | [(x, z)] => H2 s.heap.objs.size = some (.dT []) ∧ ∃ k, PrV H2 k x ∧ ∀ ob, DictN X.prog X.w (upd H2 s.heap.objs.size ob) s.heap.objs.size [(k, z)] → Q (.ref s.heap.objs.size) (upd H2 s.heap.objs.size ob)
    | _ => False
  rw [arm_eval_Dict, zip_pairTrees [some k] [v] X.env pos rfl rfl, dictDisplay_pairs (pairTrees [some k] [v] X.env pos) (fun z => nomatch z) (by show 1 < _; decide)]
  refine wpAny_bind (wpAny_standAt (wpAny_bind (wpAny_subDictH (knd := nestedKind X.prog X.w) (by show X.A.units + 8 < cLine; omega) (by show 1 ≤ 15; decide) (thn (pp.run pins _ σ _ R I1 (h _ hn)) fun vs s2 ⟨ps, H2, I2, rel, hR⟩ => ?_))))
  match ps, rel, hR with
  | [(x, z)], .cons (b := b2) (And.intro r1 r2) .nil, ⟨e, kk, hkk, q⟩ =>
    obtain ⟨u1, u2⟩ := b2
    obtain ⟨a, _, _, rfl, ha, _⟩ := id hkk
    have r1 : u1 = Value.ref a := r1
    subst r1
    obtain ⟨_, lo, xs0, r0, o, es, ep, h1, h2, h3, h4, h5⟩ := I2.hok _ _ e
    cases r0
    have dn : s2.heap.DictOfH (nestedKind X.prog X.w) s.heap.objs.size [] := ⟨o, es, ep, h1, h2, h3, h4, fun x hx => (by cases hx), List.nodup_nil⟩
    refine ⟨[(prK kk, a, u2)], ⟨rfl, rfl, pr_is I2.hok hkk, True.intro⟩, dn, fun h' tk dd hs => wpAny_pure ?_⟩
    have dd : h'.DictOfH (nestedKind X.prog X.w) s.heap.objs.size [(prK kk, a, u2)] := dd
    have nd : s.heap.objs.size ≠ a := fun z => by
      rw [z, ha] at e
      cases e
    have hd : DictN X.prog X.w (upd H2 s.heap.objs.size (Ent X.prog X.w s.heap.objs.size [(prK kk, a, u2)])) s.heap.objs.size [(kk, z)] :=
      ⟨[(prK kk, a, u2)], .cons ⟨rfl, hkk.same fun b ys z => by rw [upd_ne fun q => by rw [q, e] at z; cases z]; exact z, r2⟩ .nil, lo, by show 1 ≤ sizeLine; decide, upd_same⟩
    have he : ∃ ob, h'.get? s.heap.objs.size = some ob := by
      obtain ⟨ob, _, _, ho, _⟩ := dd
      exact ⟨ob, ho⟩
    exact ⟨.ref s.heap.objs.size, _, I2.write (e := s.heap.objs.size) (t' := tk) (by rw [e]; exact True.intro) (.inl rfl) (fun b ob hbd q => (hs.2 b hbd).trans q) he (ent_ok dd), rfl, q _ hd⟩
/-- list(d): its keys -/
def rListN (P : Program) (w : World) : List V → Hp → VK → Prop := fun xs H Q => ∃ d kvs, xs = [.ref d] ∧ DictN P w H d kvs ∧ ∀ p vs, H p = none → Paired (fun (e : Pr × V) v => PrV H e.1 v) kvs vs → Q (.ref p) (upd H p (.lst vs))
theorem vals_refs : ∀ {xs : List (NestedKey × Addr × Value)} {us : List Value}, us = xs.map (fun x => Value.ref x.2.1) → Vals (xs.map fun x => V.ref x.2.1) us
  | [], _, h => by subst h; exact .nil
  | x :: xs, _, h => by
    subst h
    exact .cons rfl (vals_refs rfl)
theorem rows_refs {H : Hp} : ∀ {kvs : List (Pr × V)} {xs : List (NestedKey × Addr × Value)}, Paired (Row H) kvs xs → Paired (fun (e : Pr × V) v => PrV H e.1 v) kvs (xs.map fun x => V.ref x.2.1)
  | _, _, .nil => .nil
  | _, _, .cons r t => .cons r.2.1 (rows_refs t)
theorem call_listN (hc : X.calm = true) : CallR X (.type "list") (rListN X.prog X.w) := by
  intro pins s σ H xs us Q I r h
  obtain ⟨d, kvs, rfl, ⟨ys, rk, hs, hz, e⟩, q⟩ := h
  obtain ⟨u, rfl, ru⟩ := vals1 r
  cases ru
  have hl : kvs.length = ys.length := Paired.length rk
  obtain ⟨⟨o, es, ep, ho, hx, hd, he, hn⟩, _⟩ := I.hok d _ e
  have hes : es.size = ys.length := size_of_entries he
  refine PySem.W.kdl_call (KdlSrc.rawDict (es := es) (ep := ep) hs) (I.ok.hd hc) ⟨o, ho, hx, hd⟩ (by rw [hes, ← hl]; exact hz) fun h' tk acc' c' hk hS hacc => ?_
  refine ⟨.ref s.heap.objs.size, upd H s.heap.objs.size (.lst (ys.map fun x => V.ref x.2.1)), I.laid hk (Nat.le_refl _) ⟨?_, acc'.toList, c', vals_refs ?_, ?_⟩, rfl, q _ _ (I.hok.fresh (Nat.le_refl _)) (rows_refs rk)⟩
  · rw [List.length_map, ← hl]; exact hz
  · apply List.ext_getElem?
    intro j
    rw [Array.getElem?_toList, List.getElem?_map]
    rcases Nat.lt_or_ge j acc'.size with hj | hj
    · obtain ⟨hi, hv⟩ := hacc.2 j acc'[j] (by simp [hj])
      have ee := entry_at he j
      rw [Array.getElem?_eq_getElem hi] at ee
      cases ey : ys[j]? with
      | none => rw [ey] at ee; cases ee
      | some y =>
        rw [ey] at ee
        have ee := Option.some.inj ee
        rw [Array.getElem?_eq_getElem hj, hv, ee]
        rfl
    · rw [Array.getElem?_eq_none hj, List.getElem?_eq_none (by rw [← hes, ← hacc.1]; exact hj)]
      rfl
  · rw [Array.toArray_toList]; exact hS
end
end Nd
set_option Elab.async false
set_option linter.all false
set_option maxRecDepth 100000
set_option maxHeartbeats 4000000
/-! Own rule: (v,) * k, 0 ≤ k. -/
namespace Tm
open PySem PySem.Spec PyProof.Rows L2
theorem mulW1 (l : Addr) (items : Array Value) (n : Nat) (dd : Option Addr) (sl : Array (Option Value)) (u : Tok) :
    Meets (Builtin.«tuple.__mul__» ⟨[.ref l, .int 1 u], []⟩) (fun _ R s => s.heap.get? l = some { cls := .type "tuple", dict := dd, data := .seq items n, slots := sl } ∧ R (.ok (.ret (Value.ref l))) s) :=
  .of_wp fun prog w A R s h => by
    obtain ⟨hp, g, d, tk, os⟩ := s
    obtain ⟨hl, h⟩ := h
    have f1 := AutoSeq1.idx_int
    have c1 : (items.isEmpty || (1 : Int) == 1) = true := by simp
    wp_walk using wpAny_loadPart' hl
    exact ⟨_, rfl, h⟩
theorem mulW0 (l : Addr) (items : Array Value) (n : Nat) (dd : Option Addr) (sl : Array (Option Value)) (u : Tok) (c1 : (items.isEmpty || (0 : Int) == 1) = false) :
    Meets (Builtin.«tuple.__mul__» ⟨[.ref l, .int 0 u], []⟩) (fun _ R s => s.heap.get? l = some { cls := .type "tuple", dict := dd, data := .seq items n, slots := sl } ∧
      R (.ok (.ret (Value.ref s.heap.objs.size))) { s with heap := s.heap.push { cls := Value.type "tuple", data := Data.seq #[] }, toks := s.toks }) :=
  .of_wp fun prog w A R s h => by
    obtain ⟨hp, g, d, tk, os⟩ := s
    obtain ⟨hl, h⟩ := h
    have f1 := AutoSeq1.idx_int
    wp_walk using wpAny_loadPart' hl
    repeat (first
      | (refine wpAny_ite_false (decide_eq_false (by rw [c1]; exact Bool.false_ne_true)) ?_; wp_walk using wpAny_loadPart' hl))
    exact ⟨_, rfl, h⟩
/-- (v,) * k -/
def rRepV (K : PySem.W.Frag) : R2 := fun x y H Q => ∃ l k v, x = .ref l ∧ y = .int ((k : Nat) : Int) ∧ H l = some (.tup [v]) ∧ k ≤ 1000 ∧ ∀ p H', Same H H' → H' p = some (.tup (List.replicate k v)) → Q (.ref p) H'
section
variable {X : Cx}
theorem op_repV : OpR X (binaryOp .Mult) (rRepV X.K) := by
  intro pins s σ H x y v u Q I rx ry h
  obtain ⟨l, k, z, rfl, rfl, hT, hk, q⟩ := h
  by_cases h2 : 2 ≤ k
  · refine op_repT pins s σ H _ _ v u Q I rx ry ⟨l, (k : Int), [z], rfl, rfl, SqT.of hT, (fun e => by cases e), by omega, by omega, by show 1 ≤ 1000; decide, fun p np => q p _ (fun b o e => by rw [upd_ne (ne_of_none e np)]; exact e) ?_⟩
    rw [upd_same]
    have e : (List.replicate (Int.toNat (k : Int)) [z]).flatten = List.replicate k z := by
      rw [Int.toNat_natCast]
      induction k with
      | zero => rfl
      | succ k ih =>
        clear h2
        have : ∀ k : Nat, (List.replicate k [z]).flatten = List.replicate k z := fun k => by
          induction k with
          | zero => rfl
          | succ k ih => rw [List.replicate_succ, List.flatten_cons, ih]; rfl
        exact this _
    rw [e]
  · cases rx
    obtain ⟨t, rfl⟩ := ry
    obtain ⟨its, r, ⟨⟨cls, dd, data, sl⟩, ho, hc, n, hd⟩, hs⟩ := I.tuple (SqT.of hT)
    simp only at hc hd
    subst hc hd
    have h01 : k = 0 ∨ k = 1 := by omega
    rcases h01 with rfl | rfl
    · have hi : its.toArray.isEmpty = false := by
        cases r with
        | cons a b => rfl
      have c1 : (its.toArray.isEmpty || (0 : Int) == 1) = false := by rw [hi]; rfl
      refine wpAny_binaryOp_repeat_ref (T := "tuple") (U := "int") (by decide) ⟨_, ho, rfl⟩ (fun s' => typeIs_int s' _ t) noFill_tuple_mul F.fills_int_mul F.slot_int_rmul repeat_tuple F.slot_int_index.lookup
        (call_meets F.slot_int_rmul (typeIs_int s _ t) F.entry_int_rmul (F.args_int_rmul_2 _ _) (int_rmul_tuple _ t l its.toArray n dd sl)
          ⟨ho, rfl, ⟨_, ho, rfl⟩, call_meets F.slot_tuple_mul ⟨_, ho, rfl⟩ F.entry_tuple_mul (F.args_tuple_mul_2 _ _) (mulW0 l its.toArray n dd sl t c1) ⟨ho, ?_⟩⟩)
      have nf := I.hok.fresh (Nat.le_refl s.heap.objs.size)
      refine ⟨.ref s.heap.objs.size, _, I.laid (t' := s.toks) (o := .tup []) (fun b ob q => Heap.get?_push_of_some _ q) (Nat.le_refl _) ?_, rfl, q _ _ (fun b o e => by rw [upd_ne (ne_of_none e nf)]; exact e) upd_same⟩
      exact ⟨Nat.zero_le _, [], .nil, IsTup.new _ _⟩
    · refine wpAny_binaryOp_repeat_ref (T := "tuple") (U := "int") (by decide) ⟨_, ho, rfl⟩ (fun s' => typeIs_int s' _ t) noFill_tuple_mul F.fills_int_mul F.slot_int_rmul repeat_tuple F.slot_int_index.lookup
        (call_meets F.slot_int_rmul (typeIs_int s _ t) F.entry_int_rmul (F.args_int_rmul_2 _ _) (int_rmul_tuple _ t l its.toArray n dd sl)
          ⟨ho, rfl, ⟨_, ho, rfl⟩, call_meets F.slot_tuple_mul ⟨_, ho, rfl⟩ F.entry_tuple_mul (F.args_tuple_mul_2 _ _) (mulW1 l its.toArray n dd sl t) ⟨ho, ?_⟩⟩)
      exact ⟨.ref l, H, I, rfl, q _ _ (Same.refl H) hT⟩
end
end Tm
set_option Elab.async false
set_option linter.all false
set_option maxRecDepth 100000
/-! Own rules: set(xs) of texts or ints, and sorted of such a set. -/
namespace Ss
open PySem PySem.Spec PyProof.Rows L2

def keyV : Value → Key
  | .int k _ => .inl k
  | .str x _ => .inr x
  | _ => .inl 0
theorem keyV_is {k : Key} {v : Value} (h : keyIs k v = true) : keyV v = k := by
  rcases keyIs_shape h with ⟨i, t, rfl, rfl⟩ | ⟨x, t, rfl, rfl⟩ <;> rfl
theorem scan_of {k : Key} {v : Value} (h : keyIs k v = true) : v.scannable = true := by
  rcases keyIs_shape h with ⟨i, t, rfl, rfl⟩ | ⟨x, t, rfl, rfl⟩ <;> rfl
/-- an entry as it was laid -/
def Gd (w : World) (e : Int × Value) : Prop := ∃ k, keyIs k e.2 = true ∧ e.1 = keyH w k
/-- the set at a: what was added to it, one after the other, is ks -/
def SetG (w : World) (h : Heap) (a : Addr) (ks : List Key) : Prop :=
  ∃ o es ep t, h.get? a = some o ∧ o.ExactSet ∧ o.data = .set es ep t ∧ (∀ e, e ∈ es.toList → Gd w e) ∧ (es.toList.map fun e => keyV e.2).Nodup ∧ (∀ k, k ∈ (es.toList.map fun e => keyV e.2) ↔ k ∈ ks) ∧
    t.fits es.size = true ∧ Ris t.place.toList ∧ (w.params.followText "set-order" = true ∨ t.led = true)
section
variable {P : Program} {w : World} {h h' : Heap} {a : Addr} {ks : List Key}
theorem SetG.at (R : SetG w h a ks) (k : ∀ o, h.get? a = some o → h'.get? a = some o) : SetG w h' a ks := by
  obtain ⟨o, es, ep, t, ho, r⟩ := R
  exact ⟨o, es, ep, t, k o ho, r⟩
theorem few_of {es : List (Int × Value)} (nd : (es.map fun e => keyV e.2).Nodup) (m : ∀ k, k ∈ (es.map fun e => keyV e.2) ↔ k ∈ ks) : es.length ≤ ks.length := by
  have q := Bf.length_le_of_nodup nd fun x hx => (m x).mp hx
  rw [List.length_map] at q
  exact q
theorem gd_elems {l : List (Int × Value)} (g : ∀ e, e ∈ l → Gd w e) : ElemsOf (mixKind P w) l := fun e he => by
  obtain ⟨k, h1, h2⟩ := g e he
  exact ⟨⟨k, h1, h2⟩, scan_of h1⟩
theorem gd_is {e : Int × Value} (g : Gd w e) (k : Key) : keyIs k e.2 = true ↔ keyV e.2 = k := by
  obtain ⟨k0, h1, _⟩ := g
  refine ⟨keyV_is, fun z => ?_⟩
  rw [keyV_is h1] at z
  rw [← z]
  exact h1
theorem setG_fresh {h : Heap} {a : Addr} (ho : h.get? a = some { cls := .type "set", dict := none, data := .set #[] 0 (.fresh 0 0 (!w.params.followText "set-order")) }) : SetG w h a [] :=
  ⟨_, #[], 0, _, ho, ⟨rfl, rfl, rfl⟩, rfl, (fun e he => by simp at he), (by simp), (fun k => by simp), (by rfl), List.Pairwise.nil, by
    show _ ∨ (!w.params.followText "set-order") = true
    cases w.params.followText "set-order"
    · exact .inr rfl
    · exact .inl rfl⟩
end
section
variable {P : Program} {w : World} {A : Around} {E : Value → Shared → Prop} {s : Shared} {a : Addr} {ks : List Key}
theorem add_end {g : Bool → Sem Unit} (hg : ∀ (b : Bool) (s₁ : Shared) (Q' : Unit → Shared → Prop), Q' () s₁ → wpAny (model P w) A (g b) Q' E s₁)
    {o : Obj} {es : Array (Int × Value)} {ep : Nat} {t : SetTable} (ho : s.heap.get? a = some o) (hex : o.ExactSet) (hd : o.data = .set es ep t)
    {es1 : Array (Int × Value)} {t2 : SetTable} {ls : List Key} (g1 : ∀ e, e ∈ es1.toList → Gd w e) (nd1 : (es1.toList.map fun e => keyV e.2).Nodup) (m1 : ∀ k, k ∈ (es1.toList.map fun e => keyV e.2) ↔ k ∈ ls)
    (hb1 : es1.size < scanBound) (hf2 : t2.fits es1.size = true) (hr : Ris t2.place.toList) (hl : w.params.followText "set-order" = true ∨ t2.led = true) {wasDummy : Bool} {R : Option Bool → Shared → Prop}
    (hR : ∀ h', Heap.SameBut a s.heap h' → SetG w h' a ls → R (some true) { s with heap := h' }) :
    wpAny (model P w) A (do
        storeSet a es1 t2
        if (!wasDummy && t2.tooFull) = true then do
            g (relayAll t2 es1 (SetTable.grown es1.size)).2.2
            storeSet a (relayAll t2 es1 (SetTable.grown es1.size)).1 (relayAll t2 es1 (SetTable.grown es1.size)).2.1
            pure (some true)
          else pure (some true)) R E s := by
  refine wpAny_bind (wpAny_storeSet_of ho hd ?_ (fits_of_scanBound hb1))
  have ho1 := store_at (es' := es1) (t' := t2) ho hd
  have sb1 := Heap.SameBut.update s.heap a (Obj.putSet es1 t2)
  split
  · have pm := relayAll_perm t2 es1 (SetTable.grown es1.size)
    have hf3 := relayAll_fits t2 es1 (SetTable.grown es1.size)
    have hr3 := relayAll_ris t2 es1 (SetTable.grown es1.size)
    have hl3 := relayAll_led t2 es1 (SetTable.grown es1.size)
    generalize relayAll t2 es1 (SetTable.grown es1.size) = Z at pm hf3 hr3 hl3 ⊢
    obtain ⟨es2, t3, gave⟩ := Z
    dsimp only at pm hf3 hr3 hl3 ⊢
    have hsz : es2.size = es1.size := by rw [← Array.length_toList, pm.length_eq, Array.length_toList]
    have hb2 : es2.size < scanBound := by rw [hsz]; exact hb1
    refine wpAny_bind (hg _ _ _ ?_)
    refine wpAny_bind (wpAny_storeSet_of ho1 rfl ?_ (fits_of_scanBound hb2))
    have ho2 := store_at (es' := es2) (t' := t3) ho1 rfl
    refine wpAny_pure (hR _ (sb1.trans (Heap.SameBut.update _ a _)) ?_)
    have pk := pm.map fun e : Int × Value => keyV e.2
    exact ⟨_, es2, _, t3, ho2, hex, rfl, fun e he => g1 e (pm.mem_iff.mp he), pk.nodup_iff.mpr nd1, fun k => pk.mem_iff.trans (m1 k), hf3, hr3, hl.imp id fun z => by rw [hl3]; exact z⟩
  · exact wpAny_pure (hR _ sb1 ⟨_, es1, _, t2, ho1, hex, rfl, g1, nd1, m1, hf2, hr, hl⟩)
theorem setG_add {k : Key} {v : Value} (hk : keyIs k v = true) {Q : Bool → Shared → Prop} (R : SetG w s.heap a ks) (room : ks.length + 1 < scanBound)
    (hQ : ∀ b h', Heap.SameBut a s.heap h' → SetG w h' a (ks ++ [k]) → Q b { s with heap := h' }) : wpAny (model P w) A (setAddHashed a v (keyH w k)) Q E s := by
  obtain ⟨o, es, ep, t, ho, hex, hd, g, nd, hm, hf, hr, hl⟩ := R
  have hsc : v.scannable = true := scan_of hk
  have hel : ElemsOf (mixKind P w) es.toList := gd_elems g
  have hle := few_of nd hm
  rw [Array.length_toList] at hle
  have hb : es.size < scanBound := by omega
  have snoc : ∀ i, i ∈ ks ++ [k] ↔ i ∈ ks ∨ i = k := fun i => by rw [List.mem_append, List.mem_singleton]
  unfold setAddHashed setAddHashedIn
  refine wpAny_holding (wpAny_bind (wpAny_setState_of ho hd hf ?_))
  dsimp only
  rw [byScan_of hsc hb hel]
  simp only [↓reduceIte]
  unfold setAddByScan
  refine wpAny_bind ?_
  refine wpAny_bind (wpAny_rule ?_)
  refine wpAny_bind (wpAny_setScan_of (knd := mixKind P w) (k := k) hk ho hd hf hel ?_)
  cases hfi : List.findIdx? (fun e => (mixKind P w).is k e.2) es.toList with
  | some j =>
    dsimp only
    obtain ⟨hj, pj, _⟩ := List.findIdx?_eq_some_iff_getElem.mp hfi
    have hin : k ∈ ks := (hm k).mp (List.mem_map.mpr ⟨_, List.getElem_mem hj, keyV_is pj⟩)
    refine wpAny_pure (wpAny_pure ?_)
    exact hQ _ s.heap (Heap.SameBut.refl a s.heap) ⟨o, es, ep, t, ho, hex, hd, g, nd, fun i => by
      rw [hm i, snoc]
      exact ⟨.inl, fun z => z.elim id fun e => e ▸ hin⟩, hf, hr, hl⟩
  | none =>
    dsimp only
    have hnk : k ∉ es.toList.map fun e => keyV e.2 := fun z => by
      obtain ⟨e, he, q⟩ := List.mem_map.mp z
      have c := List.findIdx?_eq_none_iff.mp hfi e he
      have d : (mixKind P w).is k e.2 = true := (gd_is (g e he) k).mpr q
      rw [d] at c
      cases c
    have hgw : ∀ (b : Bool) {s₁ : Shared} {Q' : Unit → Shared → Prop}, Q' () s₁ → wpAny (model P w) A (match b with | true => rule "set.scan.the-table-gave-way" | false => pure ()) Q' E s₁ :=
      fun b s₁ Q' q => by cases b <;> first | exact wpAny_pure q | exact wpAny_rule q
    have pm := layNew_perm t es (keyH w k) v
    have hf1 := layNew_fits t es (keyH w k) v
    have hr1 := layNew_ris t es (keyH w k) v hr
    have hl1 := layNew_led t es (keyH w k) v
    generalize layNew t es (keyH w k) v = Z at pm hf1 hr1 hl1 ⊢
    obtain ⟨es1, t1, wasDummy, gave⟩ := Z
    dsimp only at pm hf1 hr1 hl1 ⊢
    rw [Array.toList_push] at pm
    have pc : es1.toList.Perm ((keyH w k, v) :: es.toList) := pm.trans (List.perm_append_singleton _ _)
    have pk : (es1.toList.map fun e => keyV e.2).Perm (k :: es.toList.map fun e => keyV e.2) := by
      have q := pc.map fun e : Int × Value => keyV e.2
      rw [List.map_cons, keyV_is hk] at q
      exact q
    have g1 : ∀ e, e ∈ es1.toList → Gd w e := fun e he => by
      rcases List.mem_cons.mp (pc.mem_iff.mp he) with z | z
      · rw [z]; exact ⟨k, hk, rfl⟩
      · exact g e z
    have nd1 : (es1.toList.map fun e => keyV e.2).Nodup := pk.nodup_iff.mpr (List.nodup_cons.mpr ⟨hnk, nd⟩)
    have m1 : ∀ i, i ∈ (es1.toList.map fun e => keyV e.2) ↔ i ∈ ks ++ [k] := fun i => by
      rw [pk.mem_iff, List.mem_cons, hm i, snoc]
      exact Or.comm
    have hsz : es1.size = es.size + 1 := by rw [← Array.length_toList, pc.length_eq, List.length_cons, Array.length_toList]
    have hb1 : es1.size < scanBound := by rw [hsz]; omega
    have hled : w.params.followText "set-order" = true ∨ t1.led = true := hl.imp id fun z => by rw [hl1]; exact z
    refine wpAny_bind (hgw _ ?_)
    split
    · refine wpAny_bind ?_
      rw [hashByValue_scannable 8 hsc]
      refine wpAny_pure ?_
      refine add_end ?_ ho hex hd g1 nd1 m1 hb1 ?_ ?_ ?_ ?_
      · intro b s₁ Q' q; cases b <;> first | exact wpAny_pure q | exact wpAny_rule q
      · first | (split <;> first | exact hf1 | exact SetTable.fits_plain_off hf1) | exact hf1
      · first | (split <;> exact hr1) | exact hr1
      · first | (split <;> exact hled) | exact hled
      · intro h' sb r; dsimp only; exact wpAny_pure (hQ _ h' sb r)
    · refine wpAny_bind (wpAny_pure ?_)
      simp only [↓reduceIte]
      refine add_end ?_ ho hex hd g1 nd1 m1 hb1 hf1 hr1 hled ?_
      · intro b s₁ Q' q; cases b <;> first | exact wpAny_pure q | exact wpAny_rule q
      · intro h' sb r; dsimp only; exact wpAny_pure (hQ _ h' sb r)
/-- set.update's loop -/
theorem upd_keys {I : Addr} {fp wr : List Addr} {G : Array GenState → Array GenState → Prop} {n : Nat} {Pv : Nat → Value → Prop} {St : Nat → Shared → Prop} {R : Result → Shared → Prop}
    (W : WalksS P w A.in1 I fp wr G n Pv St) (S : Addr) (hSf : S ∉ fp) (ls : List Key) (hn : n = ls.length) (hfew : ls.length < 64) (hval : ∀ i v, Pv i v → ∃ k, ls[i]? = some k ∧ keyIs k v = true)
    (h0 : Heap) (hS0 : h0.get? S = none) (hw0 : ∀ b ∈ wr, h0.get? b = none) :
    ∀ (k i : Nat) (s : Shared), n - i = k → i ≤ n → St i s → (∀ b o, h0.get? b = some o → s.heap.get? b = some o) → SetG w s.heap S (ls.take i) →
      (∀ s', Moved (S :: wr) G s s' → SetG w s'.heap S ls → (∀ b o, h0.get? b = some o → s'.heap.get? b = some o) → R (.ok (.ret .none)) s') →
      codeAny (model P w) A (.builtin "set.update.loop" ⟨[.ref S, .ref I], []⟩) R s := by
  have hSw : S ∉ wr := fun h => hSf (W.sub _ h)
  have hsub : ∀ b ∈ wr, b ∈ S :: wr := fun b hb => List.mem_cons_of_mem _ hb
  have keepM : ∀ {s s' : Shared}, Moved wr G s s' → (∀ b o, h0.get? b = some o → s.heap.get? b = some o) → ∀ b o, h0.get? b = some o → s'.heap.get? b = some o := fun hm hkp b o e =>
    hm.heap b o (fun hb => by rw [hw0 b hb] at e; cases e) (hkp b o e)
  have hsc : (64 : Nat) < scanBound := by decide
  intro k
  induction k with
  | zero =>
    intro i s hk' hi hst hkp hS hR
    have hin : i = n := by omega
    subst hin
    refine codeAny_builtin F.entry_set_update_loop ?_
    rw [Around.under_plainId F.plain_set_update_loop _]
    show wpAny _ A.in1 (pyNext (.ref I) >>= _) _ _ s
    refine wpAny_bind (W.done s _ _ hst fun s' hm => ?_)
    show wpAny _ A.in1 (ret Value.none) _ _ s'
    rw [hn, List.take_length] at hS
    exact wpAny_pure (hR s' (hm.mono hsub) (hS.at fun o e => hm.heap S o hSw e) (keepM hm hkp))
  | succ k ih =>
    intro i s hk' hi hst hkp hS hR
    have hlt : i < n := by omega
    refine codeAny_builtin F.entry_set_update_loop ?_
    rw [Around.under_plainId F.plain_set_update_loop _]
    show wpAny _ A.in1 (pyNext (.ref I) >>= _) _ _ s
    refine wpAny_bind (W.item i s _ _ hlt hst fun v s' hP hst' hm => ?_)
    obtain ⟨q, hq, hv⟩ := hval i v hP
    have hkp' := keepM hm hkp
    have hS' : SetG w s'.heap S (ls.take i) := hS.at fun o e => hm.heap S o hSw e
    show wpAny _ A.in1 (holding [v] (setAdd S v) >>= _) _ _ s'
    refine wpAny_bind (wpAny_holding ?_)
    unfold setAdd
    refine wpAny_holding ?_
    refine wpAny_bind ((mixKind P w).pyHash (k := q) hv ?_)
    refine setG_add (s := { s' with toks := s'.toks + 1 }) hv hS' (by rw [List.length_take]; omega) fun b h' hsb hS2 => ?_
    rw [← take_next hq] at hS2
    have hkp2 : ∀ b o, h0.get? b = some o → h'.get? b = some o := fun b o e => (hsb.2 b (fun z => by rw [z, hS0] at e; cases e)).trans (hkp' b o e)
    refine wpAny_pure ⟨plainId_quiet F.plain_set_update_loop _, ih (i + 1) _ (by omega) hlt (W.frame _ s' _ _ hst' (Nat.le_add_right _ _) fun b hb o e => ?_) hkp2 hS2 fun s'' hm'' hS'' hkp'' => ?_⟩
    · rw [hsb.2 b (fun h : b = S => hSf (by rw [← h]; exact hb))]; exact e
    · refine hR s'' (Moved.trans W.gtrans ((hm.mono hsub).then_heap (Nat.le_add_right _ _) fun b o hb e => ?_) hm'') hS'' hkp''
      rw [hsb.2 b (fun h : b = S => hb (by rw [h]; exact List.mem_cons_self))]; exact e
end
section
variable {P : Program} {w : World} {A : Around} {E : Value → Shared → Prop} {s : Shared}
set_option maxHeartbeats 3200000 in
/-- set(xs), xs a list of texts or ints -/
theorem call_keys {l : Addr} {items : Array Value} (ls : List Key) {Q : Value → Shared → Prop} (hh : A.handled = none) (hl : s.heap.IsList l items) (hit : ∀ (i : Nat) (v : Value), items[i]? = some v → ∃ k : Key, ls[i]? = some k ∧ keyIs k v = true) (hisz : items.size = ls.length)
    (hfew : ls.length < 64)
    (h : ∀ (h' : Heap) (tk : Nat), SetG w h' s.heap.objs.size ls → (∀ b o, s.heap.get? b = some o → h'.get? b = some o) → Q (.ref s.heap.objs.size) { s with heap := h', toks := tk }) :
    wpAny (model P w) A (call (.type "set") [.ref l]) Q E s := by
  obtain ⟨c, tl, hmro⟩ := F.called_set.mro
  have hmade := F.called_set.made
  have hsub := F.called_set.sub
  refine wpAny_call (codeAny_of_tree ?_)
  show wpAny _ _ (callAny (.type "set") _) _ _ _
  refine wpAny_pure ⟨Code.quiet_builtin _ (by decide +kernel), codeAny_builtin F.entry_type_call ?_⟩
  rw [Around.under_plain (weight_type_call_type "set" [.ref l] []) rfl]
  have h1 := F.called_set.notType
  have h2 := F.called_set.canCreate
  have hct := F.typeCall_set_1 (.ref l)
  repeat (any_goals (first | assumption | wp_step))
  refine codeAny_mono (code_set_led1 (.ref l) (E := E) (Q₁ := fun obj s₁ => obj = .ref s.heap.objs.size ∧ s₁ = { s with heap := s.heap.push { cls := .type "set", dict := none, data := .set #[] 0 (.fresh 0 0 (!w.params.followText "set-order")) } }) ⟨rfl, rfl⟩) fun r s₁ hr => ?_
  cases r with
  | error e => exact hr
  | ok fl =>
    cases fl with
    | ret obj =>
      obtain ⟨rfl, rfl⟩ := hr
      have hS : (s.heap.push { cls := .type "set", dict := none, data := .set #[] 0 (.fresh 0 0 (!w.params.followText "set-order")) }).get? s.heap.objs.size = some { cls := .type "set", dict := none, data := .set #[] 0 (.fresh 0 0 (!w.params.followText "set-order")) } := Heap.get?_push_size _ rfl
      have hT : Shared.TypeIs { s with heap := s.heap.push { cls := .type "set", dict := none, data := .set #[] 0 (.fresh 0 0 (!w.params.followText "set-order")) } } (.ref s.heap.objs.size) "set" := ⟨_, hS, rfl⟩
      have hli := F.called_set.init.lookup
      have hbi := F.called_set.init.bind (.ref s.heap.objs.size)
      repeat (any_goals (first | assumption | wp_step))
      refine codeAny_mono (codeAny_call_builtin (R := wants (fun r s₂ => r = .none ∧ ∃ h' tk, s₂ = { s with heap := h', toks := tk } ∧ SetG w h' s.heap.objs.size ls ∧ ∀ b o, s.heap.get? b = some o → h'.get? b = some o) E) F.called_set.init.plain F.entry_set_init (check_set_init_1 hT ?_)) fun r₂ s₂ hr₂ => ?_
      · obtain ⟨ol, hol, hcl, nl, hdl⟩ := hl
        obtain ⟨ocls, odict, odata, oslots⟩ := ol
        simp only at hcl hdl
        subst hcl; subst hdl
        have hol' : (s.heap.push { cls := .type "set", dict := none, data := .set #[] 0 (.fresh 0 0 (!w.params.followText "set-order")) }).get? l = some { cls := .type "list", dict := odict, data := .seq items nl, slots := oslots } := Heap.get?_push_of_some _ hol
        have hsls := F.sub_list_set
        have hslf := F.sub_list_frozenset
        have hne : (Value.type "list" == Value.type "dict") = false := by decide
        have hl1 : (s.heap.push { cls := .type "set", dict := none, data := .set #[] 0 (.fresh 0 0 (!w.params.followText "set-order")) }).IsList l items := ⟨_, hol', rfl, nl, rfl⟩
        unfold Builtin.«set.__init__» noKeywords Builtin.Frozenset.updateFrom
        generalize hPI : pyIter = PI
        wp_walk
        subst hPI
        refine wpAny_pyIter_list hl1 ?_
        refine wpAny_bind (wpAny_runValue ?_)
        have hlS : l < s.heap.objs.size := Heap.lt_size hol
        have hh3 : A.in1.in1.in1.handled = none := by simp [hh]
        have hneI : l ≠ (s.heap.push { cls := .type "set", dict := none, data := .set #[] 0 (.fresh 0 0 (!w.params.followText "set-order")) }).objs.size := by
          rw [Heap.size_push]; exact Nat.ne_of_lt (Nat.lt_succ_of_lt hlS)
        have hSf : s.heap.objs.size ∉ [(s.heap.push { cls := .type "set", dict := none, data := .set #[] 0 (.fresh 0 0 (!w.params.followText "set-order")) }).objs.size, l] := by
          rw [Heap.size_push]; simp only [List.mem_cons, List.mem_singleton, List.not_mem_nil, or_false, not_or]
          exact ⟨Nat.ne_of_lt (Nat.lt_succ_self _), Nat.ne_of_gt hlS⟩
        have none_of : ∀ b, s.heap.objs.size ≤ b → s.heap.get? b = none := fun b hb => by
          cases q : s.heap.get? b with
          | none => rfl
          | some o => exact absurd (Nat.lt_of_lt_of_le (Heap.lt_size q) hb) (Nat.lt_irrefl _)
        refine upd_keys ((Walks.list hh3 _ l hneI items).toS) s.heap.objs.size hSf ls hisz hfew hit s.heap (none_of _ (Nat.le_refl _))
          (fun b hb => none_of b (by rw [List.mem_singleton.mp hb, Heap.size_push]; exact Nat.le_succ _)) (items.size - 0) 0 _ (by omega) (Nat.zero_le _)
          ⟨⟨_, Heap.get?_push_size _ rfl, rfl, rfl⟩, (hl1.push _)⟩ (fun b o e => Heap.get?_push_of_some _ (Heap.get?_push_of_some _ e)) ?hS0 ?hR
        case hS0 =>
          have hget : ((s.heap.push { cls := .type "set", dict := none, data := .set #[] 0 (.fresh 0 0 (!w.params.followText "set-order")) }).push { cls := .type "list_iterator", data := .fields #[.ref l, .int 0 0] }).get? s.heap.objs.size = some { cls := .type "set", dict := none, data := .set #[] 0 (.fresh 0 0 (!w.params.followText "set-order")) } := Heap.get?_push_of_some _ hS
          exact setG_fresh hget
        case hR =>
          intro s' hm hS' hkp
          obtain ⟨h', g2, d', tk', os'⟩ := s'
          have eg : g2 = s.gens := hm.gens
          have ed : d' = s.drawn := hm.drawn
          have eo : os' = s.os := hm.os
          subst eg; subst ed; subst eo
          show wpAny _ _ _ _ _ _
          refine wpAny_pure ?_
          show wpAny _ _ (ret Value.none) _ _ _
          exact wpAny_pure ⟨rfl, h', tk', rfl, hS', hkp⟩
      · cases r₂ with
        | error e => exact hr₂
        | ok fl₂ =>
          cases fl₂ with
          | ret r =>
            obtain ⟨rfl, h', tk, rfl, hS', hk'⟩ := hr₂
            repeat (any_goals (first | assumption | wp_step))
            exact h _ _ hS' hk'
          | _ => exact hr₂.elim
    | _ => exact hr.elim
/-- sorted(a set): the members, gathered, and list.sort -/
theorem gathered {a : Addr} {ls : List Key} (hh : A.handled = none) (hfew : ls.length < 64) (R : SetG w s.heap a ls) {Q : Value → Shared → Prop}
    (hQ : ∀ (s' : Shared) (vs : List Value), (∀ b o, s.heap.get? b = some o → s'.heap.get? b = some o) → s.heap.objs.size ≤ s'.heap.objs.size → s'.gens = s.gens → s'.os = s.os → vs.length < 64 →
      (∀ v, v ∈ vs → ∃ k, keyIs k v = true) → (vs.map keyV).Nodup → (∀ k, k ∈ vs.map keyV ↔ k ∈ ls) →
      ∃ Z : Shared → Prop, (∀ (A' : Around) (Rr : PySem.Fin → Shared → Prop), (∀ s2, Z s2 → Rr (.done (.ret .none)) s2) → wpAny (model P w) A' (Builtin.«list.sort» ⟨[.ref s'.heap.objs.size], []⟩) Rr E { s' with heap := s'.heap.push (seqObj "list" vs.toArray 0) }) ∧ ∀ s2, Z s2 → Q (.ref s'.heap.objs.size) s2) :
    wpAny (model P w) A (call (.builtin "sorted") [.ref a]) Q E s := by
  obtain ⟨o, es, ep, t, ho, hex, hd, g, nd, hm, hf, hr, hl⟩ := R
  have hle := few_of nd hm
  rw [Array.length_toList] at hle
  have hsc : (64 : Nat) < scanBound := by decide
  refine Calls.call_function_entry kind_sorted plain_sorted entry_sorted (args_sorted1 _) ?_
  unfold Builtin.«sorted»
  refine wpAny_bind (m := checkCount "sorted" 1 1 _) (wpAny_pure ?_)
  refine wpAny_bind (collect_set (A := A.in1) hh ⟨o, ho, hex.1, hd⟩ hf (by omega) hr hl fun s1 vs k1 hz g1 o1 pm => ?_)
  have hvl : vs.length = es.size := by rw [pm.length_eq, List.length_map, Array.length_toList]
  have pk : (vs.map keyV).Perm (es.toList.map fun e => keyV e.2) := by
    have q := pm.map keyV
    rw [List.map_map] at q
    exact q
  refine wpAny_bind (wpAny_newList ?_ (by rw [hvl, sizeLine_eq]; omega))
  have hoL : (s1.heap.push (seqObj "list" vs.toArray 0)).get? s1.heap.objs.size = some (seqObj "list" vs.toArray 0) := Heap.get?_push_size _ rfl
  refine wpAny_bind (wpAny_holding (wpAny_call_entry slot_list_sort ⟨_, hoL, rfl⟩ entry_list_sort ?_ (args_list_sort _)))
  obtain ⟨Z, hZ, hq⟩ := hQ s1 vs k1 hz g1 o1 (by rw [hvl]; omega) (fun v hv => by
    obtain ⟨e, he, q⟩ := List.mem_map.mp (pm.mem_iff.mp hv)
    obtain ⟨k, h1, _⟩ := g e he
    exact ⟨k, by rw [← q]; exact h1⟩) (pk.nodup_iff.mpr nd) fun k => pk.mem_iff.trans (hm k)
  exact hZ _ _ fun s2 z => ⟨_, rfl, wpAny_pure ⟨_, rfl, hq s2 z⟩⟩
end
/-! ### over the layer -/
def SetGO (w : World) (a : Addr) (ls : List Key) : HO := .ext fun h => SetG w h a ls
theorem setGO_new {P : Program} {w : World} {H : Hp} {h : Heap} {a : Addr} {ls : List Key} (R : SetG w h a ls) : ObjOk P w H h a (SetGO w a ls) := by
  refine ⟨R, ?_, fun h1 h2 p k => p.at k⟩
  obtain ⟨o, _, _, _, ho, _⟩ := R
  exact ⟨o, ho⟩
theorem vals_keys : ∀ {ls : List Key} {us : List Value}, Vals (ls.map kV) us → ∀ (i : Nat) (v : Value), us[i]? = some v → ∃ k : Key, ls[i]? = some k ∧ keyIs k v = true
  | [], _, r, i, v, h => by
    cases r
    simp at h
  | k :: ls, _, r, i, v, h => by
    rw [List.map_cons] at r
    cases r with
    | cons r t =>
      cases i with
      | zero =>
        have h := Option.some.inj h
        subst h
        refine ⟨k, rfl, ?_⟩
        cases k with
        | inl n => obtain ⟨tk, rfl⟩ := r; exact keyIs_int n tk
        | inr x => obtain ⟨tk, rfl⟩ := r; exact keyIs_str x tk
      | succ i => exact vals_keys t i v h
/-- set(xs) -/
def rSetG (K : PySem.W.Frag) (w : World) : List V → Hp → VK → Prop := fun xs H Q => ∃ (l : Addr) (ls : List Key), xs = [V.ref l] ∧ SqL K H l (ls.map kV) ∧ ls.length < 64 ∧ ∀ p, H p = none → Q (.ref p) (upd H p (SetGO w p ls))
section
variable {X : Cx}
theorem cr_setG (hc : X.calm = true) : CallR X (.type "set") (rSetG X.K X.w) := by
  intro pins s σ H xs us Q I r h
  obtain ⟨l, ls, rfl, hl, hf, q⟩ := h
  obtain ⟨its, rv, pl, hz⟩ := I.list hl
  rw [Vals.ref1 r]
  have hlen := rv.length
  rw [List.length_map] at hlen
  refine call_keys (items := its.toArray) ls (I.ok.hd hc) pl.isList (fun i v e => vals_keys rv i v (by simpa using e)) (by simpa using hlen.symm) hf fun h' tk R kp => ?_
  exact ⟨.ref s.heap.objs.size, _, I.laid kp (Nat.le_refl _) (setGO_new R), rfl, q _ (I.hok.fresh (Nat.le_refl _))⟩
theorem inv_of {pins : List (Addr × Obj)} {σ : L2.St} {H : Hp} {s s' : Shared} {h' : Heap} {p : Addr} {o : HO} (I : Inv X pins σ H s) (k : ∀ b u, s.heap.get? b = some u → h'.get? b = some u) (hp : s.heap.objs.size ≤ p) (g : s'.gens = s.gens) (e : s'.os = s.os) (new : ObjOk X.prog X.w (upd H p o) h' p o) :
    Inv X pins σ (upd H p o) { s' with heap := h' } := by
  have J : Inv X pins σ (upd H p o) { s with heap := h', gens := s'.gens, drawn := s'.drawn, toks := s'.toks } := I.call (ch := []) (Un.laid k hp (I.hok.fresh hp)) (I.hok.laid k hp new) (by rw [g]; exact I.bare) (fun _ z => nomatch z)
  have e2 : ({ s' with heap := h' } : Shared) = { s with heap := h', gens := s'.gens, drawn := s'.drawn, toks := s'.toks } := by
    cases s'
    cases s
    cases e
    rfl
  rw [e2]
  exact J
theorem ints_keys : ∀ {vs : List Value}, (∀ v, v ∈ vs → ∃ k, keyIs k v = true) → (∀ k, k ∈ vs.map keyV → ∃ i, k = Sum.inl i) → ∃ ns : List Int, IntsAre vs ns ∧ vs.map keyV = ns.map Sum.inl
  | [], _, _ => ⟨[], .nil, rfl⟩
  | v :: vs, h, g => by
    obtain ⟨ns, h1, h2⟩ := ints_keys (vs := vs) (fun u hu => h u (List.mem_cons_of_mem _ hu)) fun k hk => g k (List.mem_cons_of_mem _ hk)
    obtain ⟨k, hk⟩ := h v (List.mem_cons_self ..)
    obtain ⟨i, e⟩ := g (keyV v) (List.mem_cons_self ..)
    rcases keyIs_shape hk with ⟨j, t, rfl, rfl⟩ | ⟨x, t, rfl, rfl⟩
    · exact ⟨j :: ns, .cons j t h1, by rw [List.map_cons, List.map_cons, h2]; rfl⟩
    · cases e
theorem strs_keys : ∀ {vs : List Value}, (∀ v, v ∈ vs → ∃ k, keyIs k v = true) → (∀ k, k ∈ vs.map keyV → ∃ i, k = Sum.inr i) → ∃ ns : List Str, StrsAre vs ns ∧ vs.map keyV = ns.map Sum.inr
  | [], _, _ => ⟨[], .nil, rfl⟩
  | v :: vs, h, g => by
    obtain ⟨ns, h1, h2⟩ := strs_keys (vs := vs) (fun u hu => h u (List.mem_cons_of_mem _ hu)) fun k hk => g k (List.mem_cons_of_mem _ hk)
    obtain ⟨k, hk⟩ := h v (List.mem_cons_self ..)
    obtain ⟨i, e⟩ := g (keyV v) (List.mem_cons_self ..)
    rcases keyIs_shape hk with ⟨j, t, rfl, rfl⟩ | ⟨x, t, rfl, rfl⟩
    · cases e
    · exact ⟨x :: ns, .cons x t h1, by rw [List.map_cons, List.map_cons, h2]; rfl⟩
/-- sorted(a set of ints) -/
def rSortedG (w : World) : List V → Hp → VK → Prop := fun vs H Q => ∃ (a : Addr) (is : List Int), vs = [V.ref a] ∧ H a = some (SetGO w a (is.map Sum.inl)) ∧ is.length < 64 ∧
  ∀ (p : Addr) (ns : List Int), H p = none → ns.Pairwise (· < ·) → (∀ k, k ∈ ns ↔ k ∈ is) → Q (.ref p) (upd H p (.lst (ns.map V.int)))
theorem cr_sortedG (hc : X.calm = true) : CallR X (.builtin "sorted") (rSortedG X.w) := by
  intro pins s σ H xs us Q I r h
  obtain ⟨a, is, rfl, ha, hf, q⟩ := h
  have R : SetG X.w s.heap a (is.map Sum.inl) := (I.hok a _ ha).1
  rw [Vals.ref1 r]
  refine gathered (I.ok.hd hc) (by rw [List.length_map]; exact hf) R fun s' vs k hz g o hvl hk nd hm => ?_
  obtain ⟨ns, hI, em⟩ := ints_keys hk fun k hk => by
    obtain ⟨i, _, e⟩ := List.mem_map.mp ((hm k).mp hk)
    exact ⟨i, e.symm⟩
  have hoL : (s'.heap.push (seqObj "list" vs.toArray 0)).get? s'.heap.objs.size = some (seqObj "list" vs.toArray 0) := Heap.get?_push_size _ rfl
  refine ⟨fun s2 => ∃ (out : Array Value) (ns' : List Int), IntsAre out.toList ns' ∧ ns'.Perm ns ∧ ns'.Pairwise (· ≤ ·) ∧ s2 = { s' with heap := sortedHeap (s'.heap.push (seqObj "list" vs.toArray 0)) s'.heap.objs.size vs out },
    fun A' Rr hR => list_sort_tree hoL hI hvl fun out ns' a1 a2 a3 => hR _ ⟨out, ns', a1, a2, a3, rfl⟩, fun s2 hs2 => ?_⟩
  obtain ⟨out, ns', a1, a2, a3, rfl⟩ := hs2
  obtain ⟨c, hcc⟩ := sortedHeap_at (vs := vs) (out := out) hoL
  have ndn : ns.Nodup := by
    rw [em] at nd
    exact List.Pairwise.of_map _ (fun _ _ hne e => hne (congrArg Sum.inl e)) nd
  have mem : ∀ k, k ∈ ns' ↔ k ∈ is := fun k => by
    rw [a2.mem_iff]
    have q := hm (Sum.inl k)
    rw [em] at q
    constructor
    · intro z
      obtain ⟨j, hj, e⟩ := List.mem_map.mp (q.mp (List.mem_map_of_mem z))
      cases e
      exact hj
    · intro z
      obtain ⟨j, hj, e⟩ := List.mem_map.mp (q.mpr (List.mem_map_of_mem z))
      cases e
      exact hj
  have hlen : (ns'.map V.int).length ≤ sizeLine := by rw [List.length_map, a2.length_eq, ← hI.length, sizeLine_eq]; omega
  refine ⟨.ref s'.heap.objs.size, _, inv_of (o := .lst (ns'.map V.int)) I (fun b u e => ?_) hz g o ⟨hlen, out.toList, c, vals_of_ints a1, hcc⟩, rfl, q _ ns' (I.hok.fresh hz) (lt_of_le_nodup ns' a3 (a2.nodup_iff.mpr ndn)) mem⟩
  have q := k b u e
  have hlt := Heap.lt_size q
  rw [sortedHeap_old (Nat.ne_of_lt hlt) (by rw [size_push']; exact Nat.lt_succ_of_lt hlt)]
  exact Heap.get?_push_of_some _ q
/-- sorted(a set of texts) -/
def rSortedGS (w : World) : List V → Hp → VK → Prop := fun vs H Q => ∃ (a : Addr) (is : List Str), vs = [V.ref a] ∧ H a = some (SetGO w a (is.map Sum.inr)) ∧ is.length < 64 ∧
  ∀ (p : Addr) (ns : List Str), H p = none → sortedS ns = true → ns.Nodup → (∀ k, k ∈ ns ↔ k ∈ is) → Q (.ref p) (upd H p (.lst (ns.map V.str)))
theorem cr_sortedGS (hc : X.calm = true) : CallR X (.builtin "sorted") (rSortedGS X.w) := by
  intro pins s σ H xs us Q I r h
  obtain ⟨a, is, rfl, ha, hf, q⟩ := h
  have R : SetG X.w s.heap a (is.map Sum.inr) := (I.hok a _ ha).1
  rw [Vals.ref1 r]
  refine gathered (I.ok.hd hc) (by rw [List.length_map]; exact hf) R fun s' vs k hz g o hvl hk nd hm => ?_
  obtain ⟨ns, hI, em⟩ := strs_keys hk fun k hk => by
    obtain ⟨i, _, e⟩ := List.mem_map.mp ((hm k).mp hk)
    exact ⟨i, e.symm⟩
  have hoL : (s'.heap.push (seqObj "list" vs.toArray 0)).get? s'.heap.objs.size = some (seqObj "list" vs.toArray 0) := Heap.get?_push_size _ rfl
  refine ⟨fun s2 => ∃ (out : Array Value) (ns' : List Str), StrsAre out.toList ns' ∧ ns'.Perm ns ∧ sortedS ns' = true ∧ s2 = { s' with heap := sortedHeap (s'.heap.push (seqObj "list" vs.toArray 0)) s'.heap.objs.size vs out },
    fun A' Rr hR => list_sort_treeK strKind_oneLt hoL hI.keysOf (fun v₁ v₂ rest e => keyKind_strs (by rw [← e]; exact hI)) hvl fun st' hp hs => ?_, fun s2 hs2 => ?_⟩
  · obtain ⟨ss', h1, h2, h3⟩ := sorted_out_str hI hp hs
    exact hR _ ⟨_, ss', h1, h2, h3, rfl⟩
  obtain ⟨out, ns', a1, a2, a3, rfl⟩ := hs2
  obtain ⟨c, hcc⟩ := sortedHeap_at (vs := vs) (out := out) hoL
  have ndn : ns.Nodup := by
    rw [em] at nd
    exact List.Pairwise.of_map _ (fun _ _ hne e => hne (congrArg Sum.inr e)) nd
  have mem : ∀ k, k ∈ ns' ↔ k ∈ is := fun k => by
    rw [a2.mem_iff]
    have q := hm (Sum.inr k)
    rw [em] at q
    constructor
    · intro z
      obtain ⟨j, hj, e⟩ := List.mem_map.mp (q.mp (List.mem_map_of_mem z))
      cases e
      exact hj
    · intro z
      obtain ⟨j, hj, e⟩ := List.mem_map.mp (q.mpr (List.mem_map_of_mem z))
      cases e
      exact hj
  have hlen : (ns'.map V.str).length ≤ sizeLine := by rw [List.length_map, a2.length_eq, ← hI.length, sizeLine_eq]; omega
  refine ⟨.ref s'.heap.objs.size, _, inv_of (o := .lst (ns'.map V.str)) I (fun b u e => ?_) hz g o ⟨hlen, out.toList, c, vals_of_strs a1, hcc⟩, rfl, q _ ns' (I.hok.fresh hz) a3 (a2.nodup_iff.mpr ndn) mem⟩
  have q := k b u e
  have hlt := Heap.lt_size q
  rw [sortedHeap_old (Nat.ne_of_lt hlt) (by rw [size_push']; exact Nat.lt_succ_of_lt hlt)]
  exact Heap.get?_push_of_some _ q
end
end Ss
set_option Elab.async false
set_option linter.all false
set_option maxRecDepth 100000
/-! Own rules: repr(data), where no repr is going on; defs that are called so. -/
namespace Rp
open PySem PySem.Spec PyProof.Rows L2
/-- the def at f keeps its promise where no guard is up -/
structure FnG (P : Program) (w : World) (K : PySem.W.Frag) (mg : Str → Option Value) (base : Heap) (CX : CXT) (k : Nat) (f : Addr) (fd : FuncData) (ps : List Str) (sp : Sp) : Prop where
  len : ∀ vs H Q E, sp vs H Q E → vs.length = ps.length
  run : ∀ (A : Around) (outer : List Env) (s : Shared) (H : Hp) (args : Args) (us : List Value) (vs : List V) (Q : VK) (E : XK), A.guards = some [] → Room k A → Env0 P w K mg base A outer s H → BindsTo s fd args (ps.zip us) → Vals vs us → sp vs H Q E →
    codeAny (model P w) A (.call (.ref f) args) (CR CX outer P w H s Q E) s
theorem fnG_of {CX : CXT} {P : Program} {w : World} {K : PySem.W.Frag} {mg : Str → Option Value} {base : Heap} {k : Nat} {f : Addr} {name qual : Str} {params : Arguments} {body : List Stmt} {scope : Scope} {dV kV doc pm cdv ct oc : Value} {an od : Option Addr}
    {osl : Array (Option Value)} {N ps : List Str} {sp : Sp} (lk : K.lookup f = some ⟨oc, od, .func (PySem.W.fnOf name qual params body scope dV kV doc pm an cdv ct), osl⟩) (hcd : PySem.W.codeIn K cdv qual = true) (S : FnScope N ps scope)
    (len : ∀ vs H Q E, sp vs H Q E → vs.length = ps.length)
    (hbody : ∀ (A : Around) (outer : List Env) (s : Shared) (H : Hp) (vs : List V) (Q : VK) (E : XK), A.guards = some [] → Room k (A.deeper (envOfC qual scope s.heap.objs.size f cdv)) → sp vs H Q E →
      ∃ t, PSs (cxOf CX P w K mg base N qual scope f cdv A outer s H E) body t ∧ t { nx := fun _ H' => Q .non H', rt := Q } (start N vs) H) :
    FnG P w K mg base CX (k + 1) f (PySem.W.fnOf name qual params body scope dV kV doc pm an cdv ct) ps sp := by
  refine ⟨len, fun A outer s H args us vs Q E hgd hr e0 hb r hsp => ?_⟩
  have hl := len _ _ _ _ hsp
  have KX : K.In s.heap := e0.mod.kin.keeps fun b o e => (e0.bs b o e).1
  have lim : s.heap.NoLimit := e0.mod.nolimit.keeps fun b o e => (e0.bs b o e).1
  have hkind : ∀ y ∈ ps.zip us, scope.names.lookup y.1 = some .local ∨ (scope.names.lookup y.1 = some .cell ∧ ((cellsFrom (s.heap.objs.size + 1) scope.names []).lookup y.1).isSome = true) := fun ⟨n, v⟩ hy => by
    rcases S.par n (List.of_mem_zip hy).1 with q | q
    · exact .inl q
    · exact .inr ⟨q, PySem.W.cellsFrom_some _ _ _ (.inl q)⟩
  refine codeAny_call_function hr.depth (KX _ _ lk) rfl S.co S.gen rfl (PySem.W.codeRec_of KX hcd) (hb _ _ _ _ ?_)
  refine wpAny_newFunctionEnv_cells S.kind hkind fun env he s1 x => ?_
  subst he
  refine ⟨lim.keeps x.toInCall.keep, codeAny_func ?_⟩
  obtain ⟨t, ht, hq⟩ := hbody A outer s H vs Q E hgd (hr.deeper _) hsp
  have I : Inv (cxOf CX P w K mg base N qual scope f cdv A outer s H E) [] (start N vs) H s1 := inv_start S hr.hd e0 hl r x
  refine wpAny_mono (ht.run [] s1 (start N vs) H _ I hq) (fun fl s' hs => ?_) fun e s' hs => hs
  cases fl with
  | ret u =>
    obtain ⟨v, σ', H', J, rv, q⟩ := hs
    exact ⟨v, H', J.os, J.bare, J.base, J.hok, rv, q⟩
  | next =>
    obtain ⟨σ', H', J, q⟩ := hs
    exact ⟨V.non, H', J.os, J.bare, J.base, J.hok, rfl, q⟩
  | brk =>
    obtain ⟨_, _, _, q⟩ := hs
    exact False.elim q
  | cont =>
    obtain ⟨_, _, _, q⟩ := hs
    exact False.elim q
/-- the rule for a def of the text -/
theorem okG {P : Program} {w : World} {K : PySem.W.Frag} {mg : Str → Option Value} {base : Heap} {x qual : Str} {st : Stmt} {f : Addr} {fd : FuncData} {N ps : List Str} {k : Nat} {sp : Sp} (F : Fun K x qual st f fd) (S : FnScope N ps (defScope st)) (len : ∀ vs H Q E, sp vs H Q E → vs.length = ps.length)
    (hbody : ∀ (cdv : Value) (A : Around) (outer : List Env) (s : Shared) (H : Hp) (vs : List V) (Q : VK) (E : XK), A.guards = some [] → Room k (A.deeper (envOfC qual (defScope st) s.heap.objs.size f cdv)) → sp vs H Q E →
      ∃ t, PSs (cxOf CX0 P w K mg base N qual (defScope st) f cdv A outer s H E).nox (defBody st) t ∧ t { nx := fun _ H' => Q .non H', rt := Q } (start N vs) H) : FnG P w K mg base CX0 (k + 1) f fd ps sp := by
  obtain ⟨oc, od, kV, doc, pm, an, cdv, ct, osl, rfl, lk, hcd⟩ := F.ex
  refine fnG_of lk hcd S len fun A outer s H vs Q E hgd hr hsp => ?_
  obtain ⟨t, h, q⟩ := hbody cdv A outer s H vs Q E hgd hr hsp
  exact ⟨t, h.nox, q⟩
section
variable {X : Cx} {k : Nat} {f : Addr} {fd : FuncData} {ps : List Str} {sp : Sp} {x : Str} {p pos : Pos} {e : Expr} {es : List Expr} {t : TA}
theorem pe_callG (F : FnG X.prog X.w X.K X.mg X.base CX0 k f fd ps sp) (hgd : X.A.guards = some []) (hr : Room k X.A) (hg : Gl X x) (hm : X.mg x = some (.ref f)) (hk : PySem.W.keepIn X.K (.ref f) = true) (hb : Binds X.K fd ps [])
    (ha : PA X (e :: es) t) (hdb : (x == ("__debug__" : Str)) = false := by decide) (he : starEach (e :: es) X.env = (false, eval e X.env) :: starEach es X.env := by rfl) (hpl : (backTo pos (starEach es X.env)).any (·.1) = false := by rfl) :
    PE X (.Call (.Name x p) (e :: es) [] pos) (tCall sp [] E0 t) := by
  refine ⟨fun pins s σ H Q I h => ?_⟩
  refine wpAny_Call_Name_kw (ld_glob I hg hm ?_ hdb)
  refine PySem.W.callWith_K (h₀ := X.base) I.ok.mod.kin hk (thn (ha.run pos pins s σ H _ I h) fun us s1 ⟨vs, H1, I1, r, q⟩ => ⟨I1.kIn, ?_⟩) he hpl
  have r2 : Vals (vs ++ []) (us ++ []) := r.append .nil
  have hl : (us ++ []).length = ps.length := by rw [← r2.length]; exact F.len _ _ _ _ q
  refine wpAny_call (codeAny_mono (F.run X.A X.stack s1 H1 ⟨us, []⟩ (us ++ []) (vs ++ []) Q E0 hgd hr I1.env0 (hb s1 us I1.kIn hl) r2 q) fun r s' hq => ?_)
  cases r with
  | error e => exact pass0 pins σ H1 s1 e s' I1 hq
  | ok fl =>
    cases fl with
    | ret u => exact I1.after hq
    | next => exact False.elim hq
    | brk => exact False.elim hq
    | cont => exact False.elim hq
/-- repr(x) -/
def rRepr (K : PySem.W.Frag) : List V → Hp → VK → Prop := fun xs H Q => ∃ a d, xs = [.ref a] ∧ Dp K H (.ref a) d ∧ d.showable = true ∧ d.hasDict = false ∧ d.depth ≤ 50 ∧ d.shown.length ≤ sizeLine ∧ Q (.str d.shown) H
theorem cr_repr (hgd : X.A.guards = some []) (hu : X.A.units + 64 < cLine) : CallR X (.builtin "repr") (rRepr X.K) := by
  intro pins s σ H xs us Q I r h
  obtain ⟨a, d, rfl, hd, hs, hn, hdp, hz, q⟩ := h
  rw [Vals.ref1 r]
  obtain ⟨as, rd⟩ := Dp.reads I d _ _ hd (rfl : RelV (.ref a) (.ref a))
  refine repr_of_reads' rd hs (PyData.noDict_hsm hn) hgd (by omega) (fun b o e => e) (fun h' u tk hk => ?_) hz
  exact ⟨.str d.shown, H, I.kept hk, ⟨_, rfl⟩, q⟩
end
/-- the head: the promise of the law's def, at the heap behind the top, called where no guard is up -/
theorem law_callG {P : Program} {w : World} {K : PySem.W.Frag} {mg mb : Str → Option Value} {k : Nat} {fa a : Addr} {fd : FuncData} {x : Str} {sp : Sp} {s₁ : Shared} {vs : List Value} {ns : List Int}
    (KX : K.In s₁.heap) (hns : s₁.heap.Ns mainGlobals mg) (hb : s₁.heap.Ns builtinsNs mb) (hbb : ∀ x : Str, x ≠ "__name__" → mb x = bootBuiltins x) (hlim : s₁.heap.NoLimit) (hg : s₁.gens = #[])
    (ha : s₁.heap.get? a = some { cls := .type "list", data := .seq vs.toArray }) (hi : IntsAre vs ns) (hl : ns.length ≤ sizeLine) (hr : Room k callerA)
    (F : ∀ base : Heap, K.In base → base.Ns mainGlobals mg → FnG P w K mg base CX0 k fa fd [x] sp) (hbind : ∀ (s : Shared) (u : Value), BindsTo s fd ⟨[u], []⟩ [(x, u)])
    (hsp : ∀ H : Hp, SqL K H a (ns.map V.int) → sp [.ref a] H (fun v _ => v = .bl true) fun _ _ _ => False) :
    codeAny (model P w) callerA (.call (.ref fa) ⟨[.ref a], []⟩) (fun r s' => r = .ok (.ret (.bool true)) ∧ OldK s₁.heap s'.heap ∧ s'.os = s₁.os ∧ AllBare s'.gens) s₁ := by
  have rv := vals_ints hi
  have lenV := hi.length
  have core : ∀ H : Hp, Only H → SqL K H a (ns.map V.int) → HOk P w H s₁.heap → (∀ b, H b ≠ none → b = a) → (H a ≠ none → K.lookup a = none) →
      codeAny (model P w) callerA (.call (.ref fa) ⟨[.ref a], []⟩) (fun r s' => r = .ok (.ret (.bool true)) ∧ OldK s₁.heap s'.heap ∧ s'.os = s₁.os ∧ AllBare s'.gens) s₁ := by
    intro H hO hS hok hA hK
    have only_a : ∀ {b : Addr} {u : HO}, H b = some u → b = a := fun {b u} q => hA b (by rw [q]; simp)
    have base_of : ∀ {b : Addr} {o : Obj}, s₁.heap.get? b = some o → H b = none → (hidT s₁.heap H).get? b = some o := fun e n => hidT_get e n
    have noA : ∀ {b : Addr} {o : Obj} {es : Array DictEntry} {ep : Nat}, s₁.heap.get? b = some o → o.data = .dict es ep → H b = none := fun {b o es ep} e d => by
      cases q : H b with
      | none => rfl
      | some u =>
        have e' := only_a q
        subst e'
        rw [ha] at e; cases e
        have d' : Data.seq vs.toArray _ = Data.dict es ep := d
        cases d'
    have nsK : ∀ {b : Addr} {m : Str → Option Value}, s₁.heap.Ns b m → (hidT s₁.heap H).Ns b m := fun {b m} ⟨o, es, ep, e, d, r⟩ => ⟨o, es, ep, base_of e (noA e d), d, r⟩
    have hKb : K.In (hidT s₁.heap H) := fun b o e => base_of (KX b o e) (by
      cases q : H b with
      | none => rfl
      | some u =>
        have e' := only_a q
        subst e'
        rw [hK (by rw [q]; simp)] at e; cases e)
    have hM : Mod K mg (hidT s₁.heap H) := ⟨hKb, nsK hns, ⟨mb, nsK hb, hbb⟩, let ⟨mc, h1, h2⟩ := hlim; ⟨mc, nsK h1, h2⟩⟩
    have e0 : Env0 P w K mg (hidT s₁.heap H) callerA [] s₁ H := ⟨rfl, hM, fun b o e => of_hidT e, Nat.le_of_eq (hidT_size _ _), trivial, fun b hb => absurd (show b ∈ ([] : List Addr) from hb) (by simp), hok, .of_eq hg⟩
    refine codeAny_mono ((F _ hKb (nsK hns)).run callerA [] s₁ H ⟨[.ref a], []⟩ [.ref a] [.ref a] _ _ rfl hr e0 (hbind s₁ (.ref a)) (.cons rfl .nil) (hsp H hS)) fun r s' h => ?_
    cases r with
    | error e => exact False.elim h
    | ok fl =>
      cases fl with
      | next => exact False.elim h
      | brk => exact False.elim h
      | cont => exact False.elim h
      | ret u =>
        obtain ⟨v, H', os, bare, un, hok', r', q⟩ := h
        have q' : v = .bl true := q
        subst q'
        obtain rfl : u = Value.bool true := r'
        refine ⟨rfl, OldK.of_keep fun b o e => ?_, os, bare⟩
        cases q : H b with
        | none => exact un.keep b o e q (by intro z; exact absurd (show b ∈ ([] : List Addr) from z) (by simp)) (by simp)
        | some u =>
          rcases hO b with z | ⟨ob, xs, z⟩
          · rw [q] at z; cases z
          · have z2 := un.frzs b ob _ z
            obtain ⟨e1, _⟩ := hok b _ z
            obtain ⟨e2, _⟩ := hok' b _ z2
            rw [e] at e1; cases e1
            exact e2
  cases hk : K.lookup a with
  | some o =>
    have e := KX a o hk
    rw [ha] at e
    cases e
    refine core (fun _ => none) (fun _ => .inl rfl) (.inr ⟨_, vs.toArray, _, hk, rfl, rfl, rfl, by rw [List.size_toArray, lenV]; exact hl, by simpa using rv⟩) (fun b u z => by have z' : (none : Option HO) = some u := z; cases z') (fun b z => absurd rfl z) fun z => absurd rfl z
  | none =>
    refine core (fun b => if b = a then some (.frz { cls := .type "list", data := .seq vs.toArray } (.lst (ns.map V.int))) else none) (fun b => ?_) (.inl (.inr ⟨{ cls := .type "list", data := .seq vs.toArray }, if_pos rfl⟩)) (fun b u z => ?_) (fun b z => ?_) fun _ => hk
    · by_cases hb : b = a
      · exact .inr ⟨_, _, if_pos hb⟩
      · exact .inl (if_neg hb)
    · by_cases hb : b = a
      · have z' := (if_pos hb).symm.trans z
        cases z'
        subst hb
        exact ⟨ha, by rw [List.length_map]; exact hl, vs, _, rv, ha⟩
      · have z' := (if_neg hb).symm.trans z
        cases z'
    · by_cases hb : b = a
      · exact hb
      · exact absurd (if_neg hb) z
theorem walk_ofG {l : PySem.W.OpenLaw} {n k : Nat} {q : Program} {loose : List Str} {XP : (Str → Option Value) → Heap → Prop} {YP : World → Heap → Prop} {d : DefRec} {K : Params → PySem.W.Frag} {sp : World → Sp} {x : Str}
    (hn : l.most = some n) (hn2 : n ≤ sizeLine) (hdf : d.params.defaults = []) (hr : Room k callerA)
    (hY : ∀ (w : World) (h : Heap), YP w h → (K w.params).In h)
    (F : ∀ (w : World) (mg : Str → Option Value) (fa : Addr) (h : Heap), (K w.params).In h → h.Ns mainGlobals mg → mg d.name = some (.ref fa) →
      ∃ fd : FuncData, (∀ (s : Shared) (u : Value), BindsTo s fd ⟨[u], []⟩ [(x, u)]) ∧
        ∀ base : Heap, (K w.params).In base → base.Ns mainGlobals mg → FnG l.prog w (K w.params) mg base CX0 k fa fd [x] (sp w))
    (hsp : ∀ (w : World) (H : Hp) (a : Addr) (ns : List Int), ns.length ≤ n → SqL (K w.params) H a (ns.map V.int) → sp w [.ref a] H (fun v _ => v = .bl true) fun _ _ _ => False) :
    PySem.W.WalkO q loose XP YP l.row.toRowW d [] (fun f vs => PySem.call f vs) := by
  refine Att.attach_call hn hdf fun w s₀ s₁ mg mb fa o pm cd doc a vs ns G Y ho hd hcd hmg hobj hints hlen hg => ?_
  have KX := hY w _ Y
  obtain ⟨fd, hb, hF⟩ := F w mg fa _ KX G.T.g hmg
  exact law_callG KX G.T.g G.T.b G.T.builtins G.T.nolimit hg hobj hints (Nat.le_trans hlen hn2) hr hF hb fun H hS => hsp w H a ns hlen hS
end Rp
set_option Elab.async false
set_option linter.all false
set_option maxRecDepth 100000
/-! Own rule: list(text). -/
namespace Ls
open PySem PySem.Spec PyProof.Rows L2
theorem vals_get : ∀ {xs : List V} {us : List Value}, xs.length = us.length → (∀ (i : Nat) (v : Value), us[i]? = some v → ∃ x, xs[i]? = some x ∧ RelV x v) → Vals xs us
  | [], [], _, _ => .nil
  | [], _ :: _, h, _ => by cases h
  | _ :: _, [], h, _ => by cases h
  | x :: xs, u :: us, h, f => by
    obtain ⟨y, hy, r⟩ := f 0 u rfl
    have e : x = y := Option.some.inj hy
    subst e
    exact .cons r (vals_get (Nat.succ.inj h) fun i v hv => f (i + 1) v hv)
def rListStr : List V → Hp → VK → Prop := fun xs H Q => ∃ z : Str, xs = [.str z] ∧ z.length ≤ sizeLine ∧ ∀ p, H p = none → Q (.ref p) (upd H p (.lst (z.cps.toList.map fun c => V.str ⟨#[c]⟩)))
section
variable {X : Cx}
theorem cr_listStr (hc : X.calm = true) : CallR X (.type "list") rListStr := by
  intro pins s σ H xs us Q I r h
  obtain ⟨z, rfl, hz, q⟩ := h
  obtain ⟨u, rfl, t, rfl⟩ := vals1 r
  refine PySem.call_list_str (I.ok.hd hc) z t (fun h' tk acc' c' hk hS hacc => ?_) hz
  refine ⟨.ref s.heap.objs.size, _, I.laid (o := .lst (z.cps.toList.map fun c => V.str ⟨#[c]⟩)) hk (Nat.le_refl _) ⟨?_, acc'.toList, c', vals_get ?_ fun i v hv => ?_, ?_⟩, rfl, q _ (I.hok.fresh (Nat.le_refl _))⟩
  · rw [List.length_map, Array.length_toList]; exact hz
  · rw [List.length_map, Array.length_toList, Array.length_toList, hacc.1]
  · rw [Array.getElem?_toList] at hv
    obtain ⟨c, tk', hc', rfl⟩ := hacc.2 i v hv
    refine ⟨.str ⟨#[c]⟩, by rw [List.getElem?_map, Array.getElem?_toList, hc']; rfl, _, rfl⟩
  · rw [Array.toArray_toList]; exact hS
end
end Ls
set_option Elab.async false
set_option linter.all false
set_option maxRecDepth 100000
/-! The data of the walk: how rules, rows, policies and logs stand in the heap; the facts of the top; short rules. -/
namespace Sk
open PySem PySem.Spec PyProof.Rows L2 Sl Bf Zs Sr Dc2 Nd
abbrev Ru := Sl.Rul Str
abbrev Le := Str × Int
def top (i : Nat) : Stmt := PySem.Challenge.pw_startlog_k54_whole_parted_by_the_first_l.main.body.getD i (.Pass ⟨0, 0, 0, 0⟩)

/-! ### what stays -/
/-- tuples stand -/
def SameT (H H' : Hp) : Prop := ∀ b xs, H b = some (.tup xs) → H' b = some (.tup xs)
theorem SameT.refl (H : Hp) : SameT H H := fun _ _ h => h
theorem SameT.trans {H H1 H2 : Hp} (a : SameT H H1) (b : SameT H1 H2) : SameT H H2 := fun c xs h => b c xs (a c xs h)
theorem tOf {H H' : Hp} (h : Same H H') : SameT H H' := fun b xs e => h b _ e
theorem tNew {H : Hp} {p : Addr} {o : HO} (h : H p = none) : SameT H (upd H p o) := fun b xs e => by
  rw [upd_ne (ne_of_none e h)]; exact e
theorem sNew {H : Hp} {p : Addr} {o : HO} (h : H p = none) : Same H (upd H p o) := fun b u e => by
  rw [upd_ne (ne_of_none e h)]; exact e
/-- a list is changed: tuples stand -/
theorem tLst {H : Hp} {p : Addr} {o : HO} {xs : List V} (h : H p = some (.lst xs)) : SameT H (upd H p o) := fun b ys e => by
  rw [upd_ne (ne_of e h (by intro z; cases z))]; exact e
/-- all but one stay -/
def SameX (a : Addr) (H H' : Hp) : Prop := ∀ b o, H b = some o → b ≠ a → H' b = some o
theorem SameX.refl (a : Addr) (H : Hp) : SameX a H H := fun _ _ h _ => h
theorem SameX.trans {a : Addr} {H H1 H2 : Hp} (x : SameX a H H1) (y : SameX a H1 H2) : SameX a H H2 := fun b o h n => y b o (x b o h n) n
theorem xOf {a : Addr} {H H' : Hp} (h : Same H H') : SameX a H H' := fun b o e _ => h b o e
theorem SameX.t {a : Addr} {H H' : Hp} {xs : List V} (x : SameX a H H') (h : H a = some (.lst xs)) : SameT H H' := fun b ys e =>
  x b _ e (ne_of e h (by intro z; cases z))
theorem xUpd {a : Addr} {H : Hp} {o : HO} : SameX a H (upd H a o) := fun b u e n => by rw [upd_ne n]; exact e

/-! ### pairs of lists -/
theorem paired_at {α β : Type} {F : α → β → Prop} : ∀ {l : List α} {m : List β}, Paired F l m → ∀ {i : Nat} {b : β}, m[i]? = some b → ∃ a, l[i]? = some a ∧ F a b
  | _, _, .nil, i, b, h => by simp at h
  | _, _, .cons (a := a) r t, 0, b, h => by
    have e := Option.some.inj h
    subst e
    exact ⟨_, rfl, r⟩
  | _, _, .cons r t, i + 1, b, h => paired_at t (i := i) h
theorem paired_to {α β : Type} {F : α → β → Prop} : ∀ {l : List α} {m : List β}, Paired F l m → ∀ {i : Nat} {a : α}, l[i]? = some a → ∃ b, m[i]? = some b ∧ F a b
  | _, _, .nil, i, b, h => by simp at h
  | _, _, .cons (a := a) r t, 0, b, h => by
    have e := Option.some.inj h
    subst e
    exact ⟨_, rfl, r⟩
  | _, _, .cons r t, i + 1, b, h => paired_to t (i := i) h
theorem paired_of {α β : Type} {F : α → β → Prop} : ∀ {l : List α} {m : List β}, l.length = m.length → (∀ (i : Nat) (a : α) (b : β), l[i]? = some a → m[i]? = some b → F a b) → Paired F l m
  | [], [], _, _ => .nil
  | [], _ :: _, h, _ => by cases h
  | _ :: _, [], h, _ => by cases h
  | a :: l, b :: m, h, f => .cons (f 0 a b rfl rfl) (paired_of (Nat.succ.inj h) fun i a' b' h1 h2 => f (i + 1) a' b' h1 h2)
theorem paired_app {α β : Type} {F : α → β → Prop} : ∀ {l l' : List α} {m m' : List β}, Paired F l m → Paired F l' m' → Paired F (l ++ l') (m ++ m')
  | _, _, _, _, .nil, q => q
  | _, _, _, _, .cons r t, q => .cons r (paired_app t q)

/-! ### rules, rows, policies -/
def RulV (H : Hp) (r : Ru) (v : V) : Prop := ∃ p, v = .ref p ∧ match r with
  | .must n => H p = some (.tup [.str "must", .str n])
  | .only ns => ∃ t, H p = some (.tup [.str "only", .ref t]) ∧ H t = some (.tup (ns.map V.str))
  | .note n ks => ∃ t, H p = some (.tup [.str "note", .str n, .ref t]) ∧ H t = some (.tup (ks.map V.int))
  | .ahead a b => H p = some (.tup [.str "ahead", .str a, .str b])
  | .never a b => H p = some (.tup [.str "never", .str a, .str b])
  | .most n k => H p = some (.tup [.str "most", .str n, .int (k : Int)])
  | .next a b => H p = some (.tup [.str "next", .str a, .str b])
theorem RulV.same {H H' : Hp} {r : Ru} {v : V} (h : RulV H r v) (s : SameT H H') : RulV H' r v := by
  obtain ⟨p, rfl, h⟩ := h
  refine ⟨p, rfl, ?_⟩
  cases r with
  | must n => exact s _ _ h
  | only ns => obtain ⟨t, h1, h2⟩ := h; exact ⟨t, s _ _ h1, s _ _ h2⟩
  | note n ks => obtain ⟨t, h1, h2⟩ := h; exact ⟨t, s _ _ h1, s _ _ h2⟩
  | ahead a b => exact s _ _ h
  | never a b => exact s _ _ h
  | most n k => exact s _ _ h
  | next a b => exact s _ _ h
def wordR : Ru → Str
  | .must _ => "must" | .only _ => "only" | .note _ _ => "note" | .ahead _ _ => "ahead" | .never _ _ => "never" | .most _ _ => "most" | .next _ _ => "next"
theorem RulV.head {H : Hp} {r : Ru} {v : V} (h : RulV H r v) : ∃ p rest, v = .ref p ∧ H p = some (.tup (.str (wordR r) :: rest)) := by
  obtain ⟨p, rfl, h⟩ := h
  cases r with
  | must n => exact ⟨p, _, rfl, h⟩
  | only ns => obtain ⟨t, h1, h2⟩ := h; exact ⟨p, _, rfl, h1⟩
  | note n ks => obtain ⟨t, h1, h2⟩ := h; exact ⟨p, _, rfl, h1⟩
  | ahead a b => exact ⟨p, _, rfl, h⟩
  | never a b => exact ⟨p, _, rfl, h⟩
  | most n k => exact ⟨p, _, rfl, h⟩
  | next a b => exact ⟨p, _, rfl, h⟩
/-- a row of the log: a letter -/
def RowV (H : Hp) (l : Le) (v : V) : Prop := ∃ p, v = .ref p ∧ H p = some (.tup [.int 0, .str "load", .str l.1, .int l.2])
theorem RowV.same {H H' : Hp} {l : Le} {v : V} (h : RowV H l v) (s : SameT H H') : RowV H' l v := by
  obtain ⟨p, rfl, h⟩ := h
  exact ⟨p, rfl, s _ _ h⟩
theorem stdSame {H H' : Hp} {st : Std} {v : V} (h : StdV H st v) (s : SameT H H') : StdV H' st v := StdV.same h s
theorem prSame {H H' : Hp} {p : Sl.Pr} {v : V} (h : PrV H p v) (s : SameT H H') : PrV H' p v := PrV.same h s
theorem rowsSame {H H' : Hp} {w : List Le} {vs : List V} (h : Paired (RowV H) w vs) (s : SameT H H') : Paired (RowV H') w vs := Paired.mapP h fun _ _ q => q.same s
theorem rulesSame {H H' : Hp} {A : List Ru} {vs : List V} (h : Paired (RulV H) A vs) (s : SameT H H') : Paired (RulV H') A vs := Paired.mapP h fun _ _ q => q.same s
/-- a policy: a list or a tuple of rules -/
def PolV (H : Hp) (b : Bool) (A : List Ru) (a : Addr) : Prop := ∃ vs, H a = some (if b = true then .lst vs else .tup vs) ∧ Paired (RulV H) A vs
theorem PolV.same {H H' : Hp} {b : Bool} {A : List Ru} {a : Addr} (h : PolV H b A a) (s : Same H H') : PolV H' b A a := by
  obtain ⟨vs, h1, h2⟩ := h
  exact ⟨vs, s _ _ h1, rulesSame h2 (tOf s)⟩
theorem sqB_of {K : PySem.W.Frag} {H : Hp} {b : Bool} {a : Addr} {vs : List V} (h : H a = some (if b = true then .lst vs else .tup vs)) : SqB K b H a vs := by
  cases b
  · exact SqT.of h
  · exact SqL.of h
/-- a number or None -/
def numV : Option Nat → V
  | none => .non
  | some n => .int (n : Int)

/-! ### tests -/
theorem lle {a b : Nat} (h : Nat.ble a b = true) : a ≤ b := Nat.le_of_ble_eq_true h
theorem eqT {A B : Prop} {x : V} (h : A) : if decide (x = x) = true then A else B := by
  rw [decide_eq_true rfl]
  exact iteT h
theorem eqF {A B : Prop} {x y : V} (n : x ≠ y) (h : B) : if decide (x = y) = true then A else B := by
  rw [decide_eq_false n]
  exact iteF h
theorem neT {A B : Prop} {x : V} (h : B) : if (!decide (x = x)) = true then A else B := by
  rw [decide_eq_true rfl]
  exact iteF h
theorem neF {A B : Prop} {x y : V} (n : x ≠ y) (h : A) : if (!decide (x = y)) = true then A else B := by
  rw [decide_eq_false n]
  exact iteT h
theorem strNe {a b : Str} (h : ¬ a = b) : V.str a ≠ V.str b := fun e => h (by injection e)
theorem iteD {A B : Prop} {k k' : Bool} (e : k = k') (h : if k' = true then A else B) : if k = true then A else B := by rw [e]; exact h
theorem strD (a b : Str) : decide (V.str a = V.str b) = decide (a = b) := by
  by_cases h : a = b
  · subst h; simp
  · rw [decide_eq_false h, decide_eq_false (strNe h)]
theorem intD (a b : Int) : decide (V.int a = V.int b) = decide (a = b) := by
  by_cases h : a = b
  · subst h; simp
  · rw [decide_eq_false h, decide_eq_false fun e => h (by injection e)]

/-! ### membership -/
theorem flat_strs : ∀ ns : List Str, (ns.map V.str).all flatV = true
  | [] => rfl
  | _ :: r => flat_strs r
theorem flat_ints : ∀ ns : List Int, (ns.map V.int).all flatV = true
  | [] => rfl
  | _ :: r => flat_ints r
theorem flat_nums : ∀ ns : List (Option Nat), (ns.map numV).all flatV = true
  | [] => rfl
  | none :: r => flat_nums r
  | some _ :: r => flat_nums r
theorem inV_cons (x y : V) (r : List V) : inV x (y :: r) = (eqV y x || inV x r) := List.any_cons
theorem in_strs (n : Str) (ns : List Str) : inV (.str n) (ns.map V.str) = decide (n ∈ ns) := by
  induction ns with
  | nil => rw [List.map_nil, decide_eq_false List.not_mem_nil]; rfl
  | cons m r ih =>
    rw [List.map_cons, inV_cons, ih]
    show ((m == n) || decide (n ∈ r)) = _
    rw [Bool.eq_iff_iff, Bool.or_eq_true, beq_iff_eq, decide_eq_true_eq, decide_eq_true_eq, List.mem_cons]
    exact or_congr eq_comm Iff.rfl
theorem in_ints (n : Int) (ns : List Int) : inV (.int n) (ns.map V.int) = decide (n ∈ ns) := by
  induction ns with
  | nil => rw [List.map_nil, decide_eq_false List.not_mem_nil]; rfl
  | cons m r ih =>
    rw [List.map_cons, inV_cons, ih]
    show ((m == n) || decide (n ∈ r)) = _
    rw [Bool.eq_iff_iff, Bool.or_eq_true, beq_iff_eq, decide_eq_true_eq, decide_eq_true_eq, List.mem_cons]
    exact or_congr eq_comm Iff.rfl
theorem in_nums (ns : List (Option Nat)) : inV .non (ns.map numV) = decide (none ∈ ns) := by
  induction ns with
  | nil => rw [List.map_nil, decide_eq_false List.not_mem_nil]; rfl
  | cons m r ih =>
    rw [List.map_cons, inV_cons, ih]
    cases m with
    | none => rw [decide_eq_true (List.mem_cons_self ..)]; rfl
    | some m =>
      show (false || decide (none ∈ r)) = _
      rw [Bool.eq_iff_iff, Bool.or_eq_true, decide_eq_true_eq, decide_eq_true_eq, List.mem_cons]
      exact ⟨fun h => h.elim (fun z => by cases z) .inr, fun h => h.elim (fun z => by cases z) .inr⟩

/-! ### the facts of the top -/
structure Top (K : PySem.W.Frag) (mg : Str → Option Value) : Prop where
  len : mg "len" = none
  abs : mg "abs" = none
  int : mg "int" = none
  list : mg "list" = none
  tuple : mg "tuple" = none
  sorted : mg "sorted" = none
  set : mg "set" = none
  range : mg "range" = none
  zip : mg "zip" = none
  max : mg "max" = none
  min : mg "min" = none
  enumerate : mg "enumerate" = none
  isinstance : mg "isinstance" = none
  all : mg "all" = none
  str : mg "str" = none
  bool : mg "bool" = none
  repr : mg "repr" = none
  gBASE : ∃ t, mg "BASE" = some (.int 27 t)
  gLONGEST : ∃ t, mg "LONGEST" = some (.int 4 t)
  gBOARD : ∃ t, mg "BOARD" = some (.int 0 t)
  gWORD : ∃ t, mg "WORD" = some (.str "load" t)
  gLETTERS : ∃ t, mg "LETTERS" = some (.str "abcdefghijklmnopqrstuvwxyz" t)
  gTWO : ∃ p, mg "TWO" = some (.ref p) ∧ ∀ H, SqT K H p [.str "ahead", .str "never", .str "next"]

/-! ### a def of the text that another calls -/
structure Cal (P : Program) (w : World) (K : PySem.W.Frag) (mg : Str → Option Value) (base : Heap) (n : Nat) (x : Str) (ps : List Str) (sp : Sp) : Prop where
  ex : ∃ f fd, FnOk P w K mg base CX0 n f fd ps sp ∧ mg x = some (.ref f) ∧ PySem.W.keepIn K (.ref f) = true ∧ Binds K fd ps []
section
variable {X : Cx} {n : Nat} {x : Str} {ps : List Str} {sp : Sp} {p pos : Pos} {e : Expr} {es : List Expr} {t : TA}
theorem pe_cal (C : Cal X.prog X.w X.K X.mg X.base n x ps sp) (hr : Room n X.A) (hg : Gl X x) (ha : PA X (e :: es) t) (hdb : (x == ("__debug__" : Str)) = false := by decide)
    (he : starEach (e :: es) X.env = (false, eval e X.env) :: starEach es X.env := by rfl) (hpl : (backTo pos (starEach es X.env)).any (·.1) = false := by rfl) :
    PE X (.Call (.Name x p) (e :: es) [] pos) (tCall sp [] E0 t) := by
  obtain ⟨f, fd, F, hm, hk, hb⟩ := C.ex
  exact pe_call F hr hg hm hk hb .nil pass0 ha hdb he hpl
end
theorem cal_mk {P : Program} {w : World} {K : PySem.W.Frag} {mg : Str → Option Value} {base : Heap} {n : Nat} {x qual : Str} {st : Stmt} {f : Addr} {fd : FuncData} {ps : List Str} {sp : Sp} (F : Fun K x qual st f fd) (hm : mg x = some (.ref f)) (hb : Binds K fd ps []) (ok : FnOk P w K mg base CX0 n f fd ps sp) : Cal P w K mg base n x ps sp :=
  ⟨f, fd, ok, hm, F.kp, hb⟩

/-! ### walks within a comprehension -/
theorem pi_listK {X : Cx} {K : PySem.W.Frag} {tg l : Expr} {tl : TE} (e : X.K = K) (h : PE X l tl) : PI X tg l (iList K tl) := by
  subst e
  exact pi_list h
theorem pi_tupK {X : Cx} {K : PySem.W.Frag} {tg l : Expr} {tl : TE} (e : X.K = K) (h : PE X l tl) : PI X tg l (iTup K tl) := by
  subst e
  exact pi_tup h
theorem it_list {K : PySem.W.Frag} {a : Addr} {xs : List V} {Bd : (Hp → Prop) → V → Hp → Prop} {H0 : Hp} {Qd : Hp → Prop} (Pv : Nat → Hp → Prop) (h0 : Pv 0 H0) (hl : ∀ i H, Pv i H → SqL K H a xs) (hs : ∀ i x H, xs[i]? = some x → Pv i H → Bd (Pv (i + 1)) x H) (hd : ∀ H, Pv xs.length H → Qd H) :
    ∃ W : Nat → Nat → Hp → Prop, (∃ m, W 0 m H0) ∧ ∀ i m H, W i m H → ((Itl K a).stop i H ∧ Qd H) ∨ ((Itl K a).go i H ∧ ∃ Nx : Hp → Prop, (∀ H', Nx H' → ∃ m', m' < m ∧ W (i + 1) m' H') ∧ ∀ x H', (Itl K a).yld i H x H' → Bd Nx x H') := by
  refine ⟨fun i m H => m = xs.length - i ∧ i ≤ xs.length ∧ Pv i H, ⟨xs.length, by simp, Nat.zero_le _, h0⟩, ?_⟩
  rintro i m H ⟨rfl, hi, p⟩
  have q := hl i H p
  by_cases hlt : i < xs.length
  · refine .inr ⟨⟨xs, xs[i], q, by simp [hlt]⟩, Pv (i + 1), fun H' p' => ⟨xs.length - (i + 1), by omega, rfl, hlt, p'⟩, fun x H' y => ?_⟩
    obtain ⟨e, y⟩ := y
    subst e
    exact hs i x _ (y xs q) p
  · have e : i = xs.length := by omega
    subst e
    exact .inl ⟨⟨xs, q, Nat.le_refl _⟩, hd H p⟩
theorem it_tup {K : PySem.W.Frag} {a : Addr} {xs : List V} {Bd : (Hp → Prop) → V → Hp → Prop} {H0 : Hp} {Qd : Hp → Prop} (Pv : Nat → Hp → Prop) (h0 : Pv 0 H0) (hl : ∀ i H, Pv i H → SqT K H a xs) (hs : ∀ i x H, xs[i]? = some x → Pv i H → Bd (Pv (i + 1)) x H) (hd : ∀ H, Pv xs.length H → Qd H) :
    ∃ W : Nat → Nat → Hp → Prop, (∃ m, W 0 m H0) ∧ ∀ i m H, W i m H → ((Itt K a).stop i H ∧ Qd H) ∨ ((Itt K a).go i H ∧ ∃ Nx : Hp → Prop, (∀ H', Nx H' → ∃ m', m' < m ∧ W (i + 1) m' H') ∧ ∀ x H', (Itt K a).yld i H x H' → Bd Nx x H') := by
  refine ⟨fun i m H => m = xs.length - i ∧ i ≤ xs.length ∧ Pv i H, ⟨xs.length, by simp, Nat.zero_le _, h0⟩, ?_⟩
  rintro i m H ⟨rfl, hi, p⟩
  have q := hl i H p
  by_cases hlt : i < xs.length
  · refine .inr ⟨⟨xs, xs[i], q, by simp [hlt]⟩, Pv (i + 1), fun H' p' => ⟨xs.length - (i + 1), by omega, rfl, hlt, p'⟩, fun x H' y => ?_⟩
    obtain ⟨e, y⟩ := y
    subst e
    exact hs i x _ (y xs q) p
  · have e : i = xs.length := by omega
    subst e
    exact .inl ⟨⟨xs, q, Nat.le_refl _⟩, hd H p⟩

/-! ### comprehensions that make one new value an item -/
section
variable {K : PySem.W.Frag} {g : TG} {tt : TT} {te : TE} {vs : List Nat} {σ : L2.St} {H1 : Hp} {D : Addr} {Qd : Hp → Prop}
theorem lc_zipB {la lc : Bool} {a c : Addr} {xs ys : List V} (hl : xs.length = ys.length) (Pv : Nat → Hp → Prop) (h0 : Pv 0 (upd H1 D (.lst []))) (hq : ∀ i H, Pv i H → SqB K la H a xs ∧ SqB K lc H c ys)
    (hs : ∀ i x y T H, xs[i]? = some x → ys[i]? = some y → Pv i H → H T = none → g (.ref T) (wipe σ vs) (upd H T (.tup [x, y])) fun σ2 H2 => wipe σ2 vs = wipe σ vs ∧ tt σ2 H2 fun b H3 =>
      if b = true then te σ2 H3 fun y H4 => ∃ acc, H4 D = some (.lst acc) ∧ acc.length < sizeLine ∧ Pv (i + 1) (upd H4 D (.lst (acc ++ [y]))) else Pv (i + 1) H3) (hd : ∀ H, Pv xs.length H → Qd H) :
    ∃ W : Nat → Nat → Hp → Prop, (∃ m, W 0 m (upd H1 D (.lst []))) ∧ ∀ i m H, W i m H →
      ((Itzb K la lc a c).stop i H ∧ Qd H) ∨ ((Itzb K la lc a c).go i H ∧ ∃ Nx : Hp → Prop, (∀ H', Nx H' → ∃ m', m' < m ∧ W (i + 1) m' H') ∧ ∀ x H', (Itzb K la lc a c).yld i H x H' → g x (wipe σ vs) H' fun σ2 H2 => wipe σ2 vs = wipe σ vs ∧ tt σ2 H2 fun b H3 =>
        if b = true then te σ2 H3 fun y H4 => ∃ acc, H4 D = some (.lst acc) ∧ acc.length < sizeLine ∧ Nx (upd H4 D (.lst (acc ++ [y]))) else Nx H3) := by
  refine ⟨fun i m H => m = xs.length - i ∧ i ≤ xs.length ∧ Pv i H, ⟨xs.length, by simp, Nat.zero_le _, h0⟩, ?_⟩
  rintro i m H ⟨rfl, hi, p⟩
  obtain ⟨qx, qy⟩ := hq i H p
  by_cases hlt : i < xs.length
  · refine .inr ⟨⟨xs, ys, xs[i], ys[i]'(hl ▸ hlt), qx, qy, by simp [hlt], by simp [hl ▸ hlt]⟩, Pv (i + 1), fun H' p' => ⟨xs.length - (i + 1), by omega, rfl, hlt, p'⟩, fun v H' y => ?_⟩
    obtain ⟨T, x, y, e1, e2, e3, h1, h2⟩ := y
    subst e1 e3
    exact hs i x y T H (h1 xs qx) (h2 ys qy) p e2
  · have e : i = xs.length := by omega
    subst e
    exact .inl ⟨⟨xs, ys, qx, qy, rfl, hl.symm⟩, hd H p⟩
/-- what holds behind i items: the old objects as they were, i values made, each as G says -/
def Made (G : Nat → Hp → V → Prop) (H1 : Hp) (D : Addr) (i : Nat) (H : Hp) : Prop := Same H1 H ∧ ∃ acc, H D = some (.lst acc) ∧ acc.length = i ∧ ∀ j v, acc[j]? = some v → G j H v
theorem made0 {G : Nat → Hp → V → Prop} (n : H1 D = none) : Made G H1 D 0 (upd H1 D (.lst [])) := ⟨sNew n, [], upd_same, rfl, fun j v h => by simp at h⟩
theorem made_step {G : Nat → Hp → V → Prop} (hG : ∀ j H H' v, SameT H H' → G j H v → G j H' v) (n : H1 D = none) {i : Nat} {H H4 : Hp} {y : V} (hi : i < sizeLine) (p : Made G H1 D i H) (s : Same H H4) (hy : G i H4 y) :
    ∃ acc, H4 D = some (.lst acc) ∧ acc.length < sizeLine ∧ Made G H1 D (i + 1) (upd H4 D (.lst (acc ++ [y]))) := by
  obtain ⟨s1, acc, e, hl, h⟩ := p
  refine ⟨acc, s _ _ e, by omega, fun b o q => ?_, acc ++ [y], upd_same, by rw [List.length_append, List.length_singleton, hl], fun j v q => ?_⟩
  · rw [upd_ne (ne_of_none q n)]
    exact s _ _ (s1 _ _ q)
  · have st : SameT H4 (upd H4 D (.lst (acc ++ [y]))) := tLst (s _ _ e)
    rcases getElem?_append_one q with q | ⟨q2, e2⟩
    · exact hG _ _ _ _ ((tOf s).trans st) (h j v q)
    · subst e2
      rw [q2, hl]
      exact hG _ _ _ _ st hy
end
end Sk
set_option Elab.async false
set_option linter.all false
set_option maxRecDepth 100000
namespace Sk
open PySem PySem.Spec PyProof.Rows L2 Sl Bf Zs Sr Dc2 Nd
abbrev s_names_of : Stmt := top 10
abbrev N_names_of : List Str := ["rule", "word", "parts"]
theorem sc_names_of : FnScope N_names_of ["rule"] (defScope s_names_of) := ⟨rfl, rfl, rfl, by decide +kernel, rfl, by decide +kernel, by decide +kernel⟩
/-- the names in a rule -/
def namesR : Ru → List Str
  | .must n => [n] | .only ns => ns | .note n _ => [n] | .ahead a b => [a, b] | .never a b => [a, b] | .most n _ => [n] | .next a b => [a, b]
def sp_names_of : Sp := fun vs H Q _ => ∃ (r : Ru) (v : V), vs = [v] ∧ RulV H r v ∧ ∀ H' p, Same H H' → H p = none → H' p = some (.lst ((namesR r).map V.str)) → Q (.ref p) H'
section
variable {P : Program} {w : World} {K : PySem.W.Frag} {mg : Str → Option Value} {base : Heap}
theorem ok_names_of {f : Addr} {fd : FuncData} (F : Fun K "names_of" "names_of" s_names_of f fd) (T : Top K mg) : FnOk P w K mg base CX0 1 f fd ["rule"] sp_names_of := by
  refine F.ok sc_names_of (fun vs H Q E h => ?_) (fun cdv A outer s H vs Q E hr h => ?_)
  · obtain ⟨r, v, rfl, _⟩ := h
    rfl
  · obtain ⟨r, v, rfl, ⟨p, rfl, h⟩, k⟩ := h
    obtain ⟨two, mTwo, qTwo⟩ := T.gTWO
    refine ⟨_, (pss_cons (ps_asg (pv 0) (pg_star (i := 1) rfl (pgs_cons (pg_name (i := 1) sc_names_of.nd rfl (Or.inl rfl)) (pgs_star (pg_name (i := 2) sc_names_of.nd rfl (Or.inl rfl))))))
      (pss_cons (ps_if (pt_cmpR op_eq (pv 1) pe_str (nomark _))
        (pss_one (ps_ret (pe_callTy call_list_of (by rfl) T.list (by decide +kernel) (pa_cons (pe_ix ix_list (pv 2) pe_int (fun _ _ => rfl)) pa_nil))))
        pss_nil)
      (pss_one (ps_ret (pe_ifExp (pt_cmpR op_in_seq (pv 1) (pe_glob (v := .ref two) rfl mTwo rfl) (by rfl)) (pe_callTy call_list_of (by rfl) T.list (by decide +kernel) (pa_cons (pv 2) pa_nil)) (pe_slice sl_list (pv 2) po_none (po_some pe_int))))))), ?_⟩
    cases r with
    | must n =>
      refine ⟨_, rfl, p, _, rfl, SqT.of h, lle rfl, lle rfl, fun D nD => ⟨_, _, rfl, _, _, rfl, rfl, ?_⟩⟩
      refine ⟨_, rfl, rfl, _, rfl, eqF (strNe (by decide +kernel)) ⟨_, rfl, two, _, rfl, .inr (qTwo _), rfl, rfl, _, rfl, iteD (k' := false) (by decide +kernel) (iteF ?_)⟩⟩
      refine ⟨_, rfl, _, rfl, D, _, rfl, SqL.of upd_same, fun l hl => ?_⟩
      exact k _ l (Same.trans (sNew nD) (sNew hl)) ((sNew nD).free hl) upd_same
    | only ns =>
      obtain ⟨t, h, h2⟩ := h
      refine ⟨_, rfl, p, _, rfl, SqT.of h, lle rfl, lle rfl, fun D nD => ⟨_, _, rfl, _, _, rfl, rfl, ?_⟩⟩
      refine ⟨_, rfl, rfl, _, rfl, eqT ⟨_, rfl, D, _, _, _, rfl, rfl, SqL.of upd_same, rfl, t, _, rfl, .inr (SqT.of (tNew nD _ _ h2)), fun l hl => ?_⟩⟩
      exact k _ l (Same.trans (sNew nD) (sNew hl)) ((sNew nD).free hl) upd_same
    | note n ks =>
      obtain ⟨t, h, h2⟩ := h
      refine ⟨_, rfl, p, _, rfl, SqT.of h, lle rfl, lle rfl, fun D nD => ⟨_, _, rfl, _, _, rfl, rfl, ?_⟩⟩
      refine ⟨_, rfl, rfl, _, rfl, eqF (strNe (by decide +kernel)) ⟨_, rfl, two, _, rfl, .inr (qTwo _), rfl, rfl, _, rfl, iteD (k' := false) (by decide +kernel) (iteF ?_)⟩⟩
      refine ⟨_, rfl, _, rfl, D, _, rfl, SqL.of upd_same, fun l hl => ?_⟩
      exact k _ l (Same.trans (sNew nD) (sNew hl)) ((sNew nD).free hl) upd_same
    | ahead a b =>
      refine ⟨_, rfl, p, _, rfl, SqT.of h, lle rfl, lle rfl, fun D nD => ⟨_, _, rfl, _, _, rfl, rfl, ?_⟩⟩
      refine ⟨_, rfl, rfl, _, rfl, eqF (strNe (by decide +kernel)) ⟨_, rfl, two, _, rfl, .inr (qTwo _), rfl, rfl, _, rfl, iteD (k' := true) (by decide +kernel) (iteT ?_)⟩⟩
      refine ⟨_, rfl, D, _, rfl, .inl (SqL.of upd_same), fun l hl => ?_⟩
      exact k _ l (Same.trans (sNew nD) (sNew hl)) ((sNew nD).free hl) upd_same
    | never a b =>
      refine ⟨_, rfl, p, _, rfl, SqT.of h, lle rfl, lle rfl, fun D nD => ⟨_, _, rfl, _, _, rfl, rfl, ?_⟩⟩
      refine ⟨_, rfl, rfl, _, rfl, eqF (strNe (by decide +kernel)) ⟨_, rfl, two, _, rfl, .inr (qTwo _), rfl, rfl, _, rfl, iteD (k' := true) (by decide +kernel) (iteT ?_)⟩⟩
      refine ⟨_, rfl, D, _, rfl, .inl (SqL.of upd_same), fun l hl => ?_⟩
      exact k _ l (Same.trans (sNew nD) (sNew hl)) ((sNew nD).free hl) upd_same
    | most n c =>
      refine ⟨_, rfl, p, _, rfl, SqT.of h, lle rfl, lle rfl, fun D nD => ⟨_, _, rfl, _, _, rfl, rfl, ?_⟩⟩
      refine ⟨_, rfl, rfl, _, rfl, eqF (strNe (by decide +kernel)) ⟨_, rfl, two, _, rfl, .inr (qTwo _), rfl, rfl, _, rfl, iteD (k' := false) (by decide +kernel) (iteF ?_)⟩⟩
      refine ⟨_, rfl, _, rfl, D, _, rfl, SqL.of upd_same, fun l hl => ?_⟩
      exact k _ l (Same.trans (sNew nD) (sNew hl)) ((sNew nD).free hl) upd_same
    | next a b =>
      refine ⟨_, rfl, p, _, rfl, SqT.of h, lle rfl, lle rfl, fun D nD => ⟨_, _, rfl, _, _, rfl, rfl, ?_⟩⟩
      refine ⟨_, rfl, rfl, _, rfl, eqF (strNe (by decide +kernel)) ⟨_, rfl, two, _, rfl, .inr (qTwo _), rfl, rfl, _, rfl, iteD (k' := true) (by decide +kernel) (iteT ?_)⟩⟩
      refine ⟨_, rfl, D, _, rfl, .inl (SqL.of upd_same), fun l hl => ?_⟩
      exact k _ l (Same.trans (sNew nD) (sNew hl)) ((sNew nD).free hl) upd_same
end
end Sk
set_option Elab.async false
set_option linter.all false
set_option maxRecDepth 100000
namespace Sk
open PySem PySem.Spec PyProof.Rows L2 Sl Bf Zs Sr Dc2 Nd
abbrev s_rule_stepped : Stmt := top 13
abbrev N_rule_stepped : List Str := ["rule", "number", "row", "word", "one", "rest", "name", "note", "more"]
theorem sc_rule_stepped : FnScope N_rule_stepped ["rule", "number", "row"] (defScope s_rule_stepped) := ⟨rfl, rfl, rfl, by decide +kernel, rfl, by decide +kernel, by decide +kernel⟩
def sp_rule_stepped : Sp := fun vs H Q _ => ∃ (r : Ru) (n : Nat) (l : Le) (v y : V), vs = [v, .int (n : Int), y] ∧ RulV H r v ∧ RowV H l y ∧ n ≤ capR r ∧ ∀ H', Same H H' → Q (numV (stepR r n l)) H'
theorem max_law (b : Bool) (n : Nat) (hn : n ≤ 1) : (if (if b = true then (1 : Int) else 0) > (n : Int) then (if b = true then (1 : Int) else 0) else (n : Int)) = ((if b = true then 1 else n : Nat) : Int) := by
  cases b
  · simp only [Bool.false_eq_true, if_false]
    split <;> omega
  · simp only [if_true]
    split <;> omega
section
variable {P : Program} {w : World} {K : PySem.W.Frag} {mg : Str → Option Value} {base : Heap}
theorem ok_rule_stepped {f : Addr} {fd : FuncData} (F : Fun K "rule_stepped" "rule_stepped" s_rule_stepped f fd) (T : Top K mg) : FnOk P w K mg base CX0 1 f fd ["rule", "number", "row"] sp_rule_stepped := by
  refine F.ok sc_rule_stepped (fun vs H Q E h => ?_) (fun cdv A outer s H vs Q E hr h => ?_)
  · obtain ⟨r, n, l, v, y, rfl, _⟩ := h
    rfl
  · obtain ⟨r, n, l, v, y, rfl, ⟨p, rfl, h⟩, ⟨q, rfl, hq⟩, hn, k⟩ := h
    have kk : ∀ (H' : Hp) (v : V), Same H H' → v = numV (stepR r n l) → Q v H' := fun H' v s e => e ▸ k H' s
    refine ⟨_, (pss_cons (ps_asg (pv 0) (pg_star (i := 2) rfl (pgs_cons (pg_name (i := 3) sc_rule_stepped.nd rfl (Or.inl rfl)) (pgs_cons (pg_name (i := 4) sc_rule_stepped.nd rfl (Or.inl rfl)) (pgs_star (pg_name (i := 5) sc_rule_stepped.nd rfl (Or.inl rfl)))))))
      (pss_cons (ps_asg (pe_slice sl_tup (pv 2) (po_some pe_int) po_none) (pg_tup rfl (pgs_cons (pg_name (i := 6) sc_rule_stepped.nd rfl (Or.inl rfl)) (pgs_cons (pg_name (i := 7) sc_rule_stepped.nd rfl (Or.inl rfl)) pgs_nil))))
      (pss_cons (ps_if (pt_cmpR op_eq (pv 3) pe_str (nomark _))
        (pss_one (ps_ret (pe_ifExp (pt_cmpR op_in_seq (pv 6) (pv 4) (by rfl)) pe_int pe_non)))
        pss_nil)
      (pss_cons (ps_if (pt_cmpR op_eq (pv 3) pe_str (nomark _))
        (pss_one (ps_ret (pe_ifExp (PW.pt (pw_and (pt_cmpR op_eq (pv 6) (pv 4) (nomark _)) (pw_and1 (pt_cmpR op_notIn_seq (pv 7) (pe_ix ix_list (pv 5) pe_int (fun _ _ => rfl)) (by rfl))))) pe_non pe_int)))
        pss_nil)
      (pss_cons (ps_if (pt_cmpR op_eq (pv 3) pe_str (nomark _))
        (pss_cons (ps_set (i := 8) sc_rule_stepped.nd rfl (Or.inl rfl) (pe_op op_add (pv 1) (pe_callTy call_int1 (by rfl) T.int (by decide +kernel) (pa_cons (pe_cmpR op_eq (pv 6) (pv 4) (nomark _)) pa_nil))))
        (pss_one (ps_ret (pe_ifExp (pt_cmpR op_le (pv 8) (pe_ix ix_list (pv 5) pe_int (fun _ _ => rfl)) (nomark _)) (pv 8) pe_non))))
        pss_nil)
      (pss_cons (ps_if (pt_cmpR op_eq (pv 3) pe_str (nomark _))
        (pss_one (ps_ret (pe_ifExp (PW.pt (pw_and (pt_cmpR op_eq (pv 1) pe_int (nomark _)) (pw_and1 (pt_cmpR op_ne (pv 6) (pe_ix ix_list (pv 5) pe_int (fun _ _ => rfl)) (nomark _))))) pe_non (pe_callTy call_int1 (by rfl) T.int (by decide +kernel) (pa_cons (pe_cmpR op_eq (pv 6) (pv 4) (nomark _)) pa_nil)))))
        pss_nil)
      (pss_cons (ps_if (PW.pt (pw_and (pt_cmpR op_ne (pv 3) pe_str (nomark _)) (pw_and (pt_cmpR op_eq (pv 6) (pe_ix ix_list (pv 5) pe_int (fun _ _ => rfl)) (nomark _)) (pw_and1 (pt_cmpR op_eq (pv 1) (pe_callTy call_int1 (by rfl) T.int (by decide +kernel) (pa_cons (pe_cmpR op_eq (pv 3) pe_str (nomark _)) pa_nil)) (nomark _))))))
        (pss_one (ps_ret pe_non))
        pss_nil)
      (pss_one (ps_ret (pe_callB (call_max2 rfl) (by rfl) T.max (by decide +kernel) (pa_cons (pv 1) (pa_cons (pe_callTy call_int1 (by rfl) T.int (by decide +kernel) (pa_cons (pe_cmpR op_eq (pv 6) (pv 4) (nomark _)) pa_nil)) pa_nil)))))))))))), ?_⟩
    cases r with
    | must m =>
      refine ⟨_, rfl, p, _, rfl, SqT.of h, lle rfl, lle rfl, fun D nD => ⟨_, _, rfl, _, _, rfl, _, _, rfl, rfl, ?_⟩⟩
      refine ⟨_, rfl, _, rfl, q, _, rfl, SqT.of (tNew nD _ _ hq), (fun z => absurd z.1 (show ¬ HT.sIx 4 0 (some 2) = 0 by decide)), fun u nu => ⟨u, _, rfl, SqT.of upd_same, rfl, _, _, rfl, _, _, rfl, rfl, ?_⟩⟩
      have sm : Same H (upd (upd H D (.lst [])) u (.tup [.str l.1, .int l.2])) := Same.trans (sNew nD) (sNew nu)
      have hD : (upd (upd H D (.lst [])) u (.tup [.str l.1, .int l.2])) D = some (.lst []) := sNew nu _ _ upd_same
      refine ⟨_, rfl, rfl, _, rfl, eqF (strNe (by decide +kernel)) ?_⟩
      refine ⟨_, rfl, rfl, _, rfl, eqF (strNe (by decide +kernel)) ?_⟩
      refine ⟨_, rfl, rfl, _, rfl, eqF (strNe (by decide +kernel)) ?_⟩
      refine ⟨_, rfl, rfl, _, rfl, eqF (strNe (by decide +kernel)) ?_⟩
      refine ⟨_, rfl, rfl, _, rfl, neT (iteF ?_)⟩
      refine ⟨_, rfl, _, rfl, _, rfl, rfl, .inr ⟨_, rfl, _, _, rfl, ?_⟩⟩
      exact kk _ _ sm (by rw [strD, max_law _ _ hn]; by_cases e : l.1 = m <;> simp [numV, stepR, e])
    | only ns =>
      obtain ⟨t, h, ht⟩ := h
      refine ⟨_, rfl, p, _, rfl, SqT.of h, lle rfl, lle rfl, fun D nD => ⟨_, _, rfl, _, _, rfl, _, _, rfl, rfl, ?_⟩⟩
      refine ⟨_, rfl, _, rfl, q, _, rfl, SqT.of (tNew nD _ _ hq), (fun z => absurd z.1 (show ¬ HT.sIx 4 0 (some 2) = 0 by decide)), fun u nu => ⟨u, _, rfl, SqT.of upd_same, rfl, _, _, rfl, _, _, rfl, rfl, ?_⟩⟩
      have sm : Same H (upd (upd H D (.lst [])) u (.tup [.str l.1, .int l.2])) := Same.trans (sNew nD) (sNew nu)
      have hD : (upd (upd H D (.lst [])) u (.tup [.str l.1, .int l.2])) D = some (.lst []) := sNew nu _ _ upd_same
      refine ⟨_, rfl, rfl, _, rfl, eqT ?_⟩
      refine ⟨_, rfl, _, rfl, t, _, rfl, .inr (SqT.of (sm _ _ ht)), rfl, flat_strs _, _, rfl, iteD (in_strs _ _) (ite2 (fun c => ?_) (fun c => ?_))⟩
      · exact kk _ _ sm (by have c := of_decide_eq_true c; simp [numV, stepR, c])
      · exact kk _ _ sm (by have c : ¬ l.1 ∈ ns := fun z => c (decide_eq_true z); simp [numV, stepR, c])
    | note m ks =>
      obtain ⟨t, h, ht⟩ := h
      refine ⟨_, rfl, p, _, rfl, SqT.of h, lle rfl, lle rfl, fun D nD => ⟨_, _, rfl, _, _, rfl, _, _, rfl, rfl, ?_⟩⟩
      refine ⟨_, rfl, _, rfl, q, _, rfl, SqT.of (tNew nD _ _ hq), (fun z => absurd z.1 (show ¬ HT.sIx 4 0 (some 2) = 0 by decide)), fun u nu => ⟨u, _, rfl, SqT.of upd_same, rfl, _, _, rfl, _, _, rfl, rfl, ?_⟩⟩
      have sm : Same H (upd (upd H D (.lst [.ref t])) u (.tup [.str l.1, .int l.2])) := Same.trans (sNew nD) (sNew nu)
      have hD : (upd (upd H D (.lst [.ref t])) u (.tup [.str l.1, .int l.2])) D = some (.lst [.ref t]) := sNew nu _ _ upd_same
      refine ⟨_, rfl, rfl, _, rfl, eqF (strNe (by decide +kernel)) ?_⟩
      refine ⟨_, rfl, rfl, _, rfl, eqT ?_⟩
      refine ⟨_, rfl, _, rfl, rfl, _, rfl, iteD (strD _ _) (ite2 (fun c => ?_) (fun c => ?_))⟩
      · have c := of_decide_eq_true c
        refine ⟨_, rfl, _, rfl, D, _, _, _, rfl, rfl, SqL.of hD, rfl, t, _, rfl, .inr (SqT.of (sm _ _ ht)), rfl, flat_ints _, _, rfl, ?_⟩
        refine iteD (congrArg not (in_ints _ _)) (ite2 (fun d => ?_) (fun d => ?_))
        · exact kk _ _ sm (by have d : ¬ l.2 ∈ ks := by simpa using d
                              simp [numV, stepR, c, d])
        · exact kk _ _ sm (by have d : l.2 ∈ ks := by simpa using d
                              simp [numV, stepR, c, d])
      · have c : ¬ l.1 = m := fun z => c (decide_eq_true z)
        refine iteF ?_
        exact kk _ _ sm (by simp [numV, stepR, c])
    | ahead a b =>
      refine ⟨_, rfl, p, _, rfl, SqT.of h, lle rfl, lle rfl, fun D nD => ⟨_, _, rfl, _, _, rfl, _, _, rfl, rfl, ?_⟩⟩
      refine ⟨_, rfl, _, rfl, q, _, rfl, SqT.of (tNew nD _ _ hq), (fun z => absurd z.1 (show ¬ HT.sIx 4 0 (some 2) = 0 by decide)), fun u nu => ⟨u, _, rfl, SqT.of upd_same, rfl, _, _, rfl, _, _, rfl, rfl, ?_⟩⟩
      have sm : Same H (upd (upd H D (.lst [.str b])) u (.tup [.str l.1, .int l.2])) := Same.trans (sNew nD) (sNew nu)
      have hD : (upd (upd H D (.lst [.str b])) u (.tup [.str l.1, .int l.2])) D = some (.lst [.str b]) := sNew nu _ _ upd_same
      refine ⟨_, rfl, rfl, _, rfl, eqF (strNe (by decide +kernel)) ?_⟩
      refine ⟨_, rfl, rfl, _, rfl, eqF (strNe (by decide +kernel)) ?_⟩
      refine ⟨_, rfl, rfl, _, rfl, eqF (strNe (by decide +kernel)) ?_⟩
      refine ⟨_, rfl, rfl, _, rfl, eqF (strNe (by decide +kernel)) ?_⟩
      refine ⟨_, rfl, rfl, _, rfl, neF (strNe (by decide +kernel)) ?_⟩
      refine ⟨_, rfl, _, rfl, D, _, _, _, rfl, rfl, SqL.of hD, rfl, rfl, _, rfl, iteD (strD _ _) (ite2 (fun c => ?_) (fun c => ?_))⟩
      · have c := of_decide_eq_true c
        refine ⟨_, rfl, _, rfl, rfl, .inr ⟨_, rfl, rfl, _, rfl, ?_⟩⟩
        refine iteD (k' := decide ((n : Int) = 0)) ?_ (ite2 (fun d => ?_) (fun d => ?_))
        · rw [intD]
          rfl
        · exact kk _ _ sm (by have d : n = 0 := by have d := of_decide_eq_true d; omega
                              simp [numV, stepR, c, d])
        · have d : ¬ n = 0 := fun z => d (decide_eq_true (by omega))
          refine ⟨_, rfl, _, rfl, _, rfl, rfl, .inr ⟨_, rfl, _, _, rfl, ?_⟩⟩
          exact kk _ _ sm (by rw [strD, max_law _ _ hn]; by_cases e : l.1 = a <;> simp [numV, stepR, e, c, d] <;> simp_all)
      · have c : ¬ l.1 = b := fun z => c (decide_eq_true z)
        refine iteF ?_
        refine ⟨_, rfl, _, rfl, _, rfl, rfl, .inr ⟨_, rfl, _, _, rfl, ?_⟩⟩
        exact kk _ _ sm (by rw [strD, max_law _ _ hn]; by_cases e : l.1 = a <;> simp [numV, stepR, e, c] <;> simp_all)
    | never a b =>
      refine ⟨_, rfl, p, _, rfl, SqT.of h, lle rfl, lle rfl, fun D nD => ⟨_, _, rfl, _, _, rfl, _, _, rfl, rfl, ?_⟩⟩
      refine ⟨_, rfl, _, rfl, q, _, rfl, SqT.of (tNew nD _ _ hq), (fun z => absurd z.1 (show ¬ HT.sIx 4 0 (some 2) = 0 by decide)), fun u nu => ⟨u, _, rfl, SqT.of upd_same, rfl, _, _, rfl, _, _, rfl, rfl, ?_⟩⟩
      have sm : Same H (upd (upd H D (.lst [.str b])) u (.tup [.str l.1, .int l.2])) := Same.trans (sNew nD) (sNew nu)
      have hD : (upd (upd H D (.lst [.str b])) u (.tup [.str l.1, .int l.2])) D = some (.lst [.str b]) := sNew nu _ _ upd_same
      refine ⟨_, rfl, rfl, _, rfl, eqF (strNe (by decide +kernel)) ?_⟩
      refine ⟨_, rfl, rfl, _, rfl, eqF (strNe (by decide +kernel)) ?_⟩
      refine ⟨_, rfl, rfl, _, rfl, eqF (strNe (by decide +kernel)) ?_⟩
      refine ⟨_, rfl, rfl, _, rfl, eqF (strNe (by decide +kernel)) ?_⟩
      refine ⟨_, rfl, rfl, _, rfl, neF (strNe (by decide +kernel)) ?_⟩
      refine ⟨_, rfl, _, rfl, D, _, _, _, rfl, rfl, SqL.of hD, rfl, rfl, _, rfl, iteD (strD _ _) (ite2 (fun c => ?_) (fun c => ?_))⟩
      · have c := of_decide_eq_true c
        refine ⟨_, rfl, _, rfl, rfl, .inr ⟨_, rfl, rfl, _, rfl, ?_⟩⟩
        refine iteD (k' := decide ((n : Int) = 1)) ?_ (ite2 (fun d => ?_) (fun d => ?_))
        · rw [intD]
          rfl
        · exact kk _ _ sm (by have d : n = 1 := by have d := of_decide_eq_true d; omega
                              simp [numV, stepR, c, d])
        · have d : ¬ n = 1 := fun z => d (decide_eq_true (by omega))
          refine ⟨_, rfl, _, rfl, _, rfl, rfl, .inr ⟨_, rfl, _, _, rfl, ?_⟩⟩
          exact kk _ _ sm (by rw [strD, max_law _ _ hn]; by_cases e : l.1 = a <;> simp [numV, stepR, e, c, d] <;> simp_all)
      · have c : ¬ l.1 = b := fun z => c (decide_eq_true z)
        refine iteF ?_
        refine ⟨_, rfl, _, rfl, _, rfl, rfl, .inr ⟨_, rfl, _, _, rfl, ?_⟩⟩
        exact kk _ _ sm (by rw [strD, max_law _ _ hn]; by_cases e : l.1 = a <;> simp [numV, stepR, e, c] <;> simp_all)
    | most m c =>
      refine ⟨_, rfl, p, _, rfl, SqT.of h, lle rfl, lle rfl, fun D nD => ⟨_, _, rfl, _, _, rfl, _, _, rfl, rfl, ?_⟩⟩
      refine ⟨_, rfl, _, rfl, q, _, rfl, SqT.of (tNew nD _ _ hq), (fun z => absurd z.1 (show ¬ HT.sIx 4 0 (some 2) = 0 by decide)), fun u nu => ⟨u, _, rfl, SqT.of upd_same, rfl, _, _, rfl, _, _, rfl, rfl, ?_⟩⟩
      have sm : Same H (upd (upd H D (.lst [.int (c : Int)])) u (.tup [.str l.1, .int l.2])) := Same.trans (sNew nD) (sNew nu)
      have hD : (upd (upd H D (.lst [.int (c : Int)])) u (.tup [.str l.1, .int l.2])) D = some (.lst [.int (c : Int)]) := sNew nu _ _ upd_same
      refine ⟨_, rfl, rfl, _, rfl, eqF (strNe (by decide +kernel)) ?_⟩
      refine ⟨_, rfl, rfl, _, rfl, eqF (strNe (by decide +kernel)) ?_⟩
      refine ⟨_, rfl, rfl, _, rfl, eqT ?_⟩
      refine ⟨_, rfl, _, rfl, _, rfl, rfl, .inr ⟨_, rfl, _, _, rfl, rfl, ?_⟩⟩
      refine ⟨_, rfl, _, rfl, D, _, _, _, rfl, rfl, SqL.of hD, rfl, _, _, rfl, rfl, _, rfl, ?_⟩
      have e : ((n : Int) + (if decide (V.str l.1 = V.str m) = true then 1 else 0)) = ((n + (if l.1 = m then 1 else 0) : Nat) : Int) := by
        rw [strD]
        by_cases e : l.1 = m <;> simp [e]
      refine ite2 (fun d => ?_) (fun d => ?_)
      · have d := of_decide_eq_true d
        refine ⟨_, rfl, kk _ _ sm ?_⟩
        rw [e] at d
        have d : n + (if l.1 = m then 1 else 0) ≤ c := by omega
        have z : stepR (.most m c) n l = some (n + (if l.1 = m then 1 else 0)) := if_pos d
        rw [z]
        exact congrArg V.int e
      · refine kk _ _ sm ?_
        have d : ¬ n + (if l.1 = m then 1 else 0) ≤ c := fun z => d (decide_eq_true (by rw [e]; omega))
        have z : stepR (.most m c) n l = none := if_neg d
        rw [z]
        rfl
    | next a b =>
      refine ⟨_, rfl, p, _, rfl, SqT.of h, lle rfl, lle rfl, fun D nD => ⟨_, _, rfl, _, _, rfl, _, _, rfl, rfl, ?_⟩⟩
      refine ⟨_, rfl, _, rfl, q, _, rfl, SqT.of (tNew nD _ _ hq), (fun z => absurd z.1 (show ¬ HT.sIx 4 0 (some 2) = 0 by decide)), fun u nu => ⟨u, _, rfl, SqT.of upd_same, rfl, _, _, rfl, _, _, rfl, rfl, ?_⟩⟩
      have sm : Same H (upd (upd H D (.lst [.str b])) u (.tup [.str l.1, .int l.2])) := Same.trans (sNew nD) (sNew nu)
      have hD : (upd (upd H D (.lst [.str b])) u (.tup [.str l.1, .int l.2])) D = some (.lst [.str b]) := sNew nu _ _ upd_same
      refine ⟨_, rfl, rfl, _, rfl, eqF (strNe (by decide +kernel)) ?_⟩
      refine ⟨_, rfl, rfl, _, rfl, eqF (strNe (by decide +kernel)) ?_⟩
      refine ⟨_, rfl, rfl, _, rfl, eqF (strNe (by decide +kernel)) ?_⟩
      refine ⟨_, rfl, rfl, _, rfl, eqT ?_⟩
      refine ⟨_, rfl, rfl, _, rfl, iteD (intD _ _) (ite2 (fun c => ?_) (fun c => ?_))⟩
      · have c : n = 1 := by have c := of_decide_eq_true c; omega
        refine ⟨_, rfl, _, rfl, D, _, _, _, rfl, rfl, SqL.of hD, rfl, rfl, _, rfl, iteD (congrArg not (strD _ _)) (ite2 (fun d => ?_) (fun d => ?_))⟩
        · exact kk _ _ sm (by have d : ¬ l.1 = b := by simpa using d
                              simp [numV, stepR, c, d])
        · have d : l.1 = b := by simpa using d
          refine ⟨_, rfl, _, rfl, rfl, .inr ⟨_, rfl, kk _ _ sm ?_⟩⟩
          rw [strD]
          by_cases e : l.1 = a <;> simp [numV, stepR, e, d] <;> simp_all
      · have c : ¬ n = 1 := fun z => c (decide_eq_true (by omega))
        refine iteF ?_
        refine ⟨_, rfl, _, rfl, rfl, .inr ⟨_, rfl, kk _ _ sm ?_⟩⟩
        rw [strD]
        by_cases e : l.1 = a <;> simp [numV, stepR, e, c]
end
end Sk
set_option Elab.async false
set_option linter.all false
set_option maxRecDepth 100000
namespace Sk
open PySem PySem.Spec PyProof.Rows L2 Sl Bf Zs Sr Dc2 Nd
/-! ### numbers of a standing stay within their rules -/
def Caps (A : List Ru) (ss : List Nat) : Prop := ss.length = A.length ∧ ∀ (i : Nat) (r : Ru) (s : Nat), A[i]? = some r → ss[i]? = some s → s ≤ capR r
def CapS (A : List Ru) : Std → Prop
  | none => True
  | some ss => Caps A ss
theorem tolds_length {A : List Ru} {ss : List Nat} (h : ss.length = A.length) (l : Le) : (tolds A ss l).length = A.length := by
  unfold tolds
  rw [List.length_map, List.length_zip, h, Nat.min_self]
theorem tolds_at {A : List Ru} {ss : List Nat} (l : Le) {i : Nat} {r : Ru} {s : Nat} (h1 : A[i]? = some r) (h2 : ss[i]? = some s) : (tolds A ss l)[i]? = some (stepR r s l) := by
  unfold tolds
  have e : (A.zip ss)[i]? = some (r, s) := List.getElem?_zip_eq_some.mpr ⟨h1, h2⟩
  rw [List.getElem?_map, e]
  rfl
theorem nums_of {xs : List (Option Nat)} (h : ¬ none ∈ xs) : xs.map numV = (xs.map fun x => x.getD 0).map fun (n : Nat) => V.int (n : Int) := by
  rw [List.map_map]
  apply List.map_congr_left
  intro x hx
  cases x with
  | none => exact absurd hx h
  | some n => rfl
/-- a list of values that are one by one what some numbers say -/
theorem list_of {xs : List (Option Nat)} {acc : List V} (hl : acc.length = xs.length) (h : ∀ (j : Nat) (v : V), acc[j]? = some v → ∃ o, xs[j]? = some o ∧ v = numV o) : acc = xs.map numV := by
  apply List.ext_getElem?
  intro j
  rw [List.getElem?_map]
  cases e : acc[j]? with
  | none =>
    have : xs[j]? = none := List.getElem?_eq_none (by rw [← hl]; exact List.getElem?_eq_none_iff.mp e)
    rw [this]
    rfl
  | some v =>
    obtain ⟨o, ho, hv⟩ := h j v e
    rw [ho, hv]
    rfl
abbrev s_first_standing : Stmt := top 12
abbrev N_first_standing : List Str := ["policy"]
theorem sc_first_standing : FnScope N_first_standing ["policy"] (defScope s_first_standing) := ⟨rfl, rfl, rfl, by decide +kernel, rfl, by decide +kernel, by decide +kernel⟩
-- slots: 0 policy
def sp_first_standing : Sp := fun vs H Q _ => ∃ (b : Bool) (A : List Ru) (a : Addr), vs = [.ref a] ∧ PolV H b A a ∧ A.length ≤ 1000 ∧ ∀ H' v, Same H H' → StdV H' (firstS A) v → Q v H'
abbrev s_stepped : Stmt := top 14
abbrev N_stepped : List Str := ["policy", "standing", "row", "found", "rule", "number"]
theorem sc_stepped : FnScope N_stepped ["policy", "standing", "row"] (defScope s_stepped) := ⟨rfl, rfl, rfl, by decide +kernel, rfl, by decide +kernel, by decide +kernel⟩
-- slots: 0 policy, 1 standing, 2 row*, 3 found, 4 rule, 5 number
def sp_stepped : Sp := fun vs H Q _ => ∃ (b : Bool) (A : List Ru) (a : Addr) (ss : List Nat) (l : Le) (v y : V), vs = [.ref a, v, y] ∧ PolV H b A a ∧ StdV H (some ss) v ∧ Caps A ss ∧ RowV H l y ∧ ss.length ≤ 1000 ∧
  ∀ H' z, Same H H' → StdV H' (stepP A ss l) z → Q z H'
abbrev s_ends : Stmt := top 15
abbrev N_ends : List Str := ["policy", "standing", "rule", "number"]
theorem sc_ends : FnScope N_ends ["policy", "standing"] (defScope s_ends) := ⟨rfl, rfl, rfl, by decide +kernel, rfl, by decide +kernel, by decide +kernel⟩
-- slots: 0 policy, 1 standing, 2 rule, 3 number
def sp_ends : Sp := fun vs H Q _ => ∃ (b : Bool) (A : List Ru) (a : Addr) (ss : List Nat) (v : V), vs = [.ref a, v] ∧ PolV H b A a ∧ StdV H (some ss) v ∧ Caps A ss ∧ ∀ H', Same H H' → Q (.bl (endP A ss)) H'
section
variable {P : Program} {w : World} {K : PySem.W.Frag} {mg : Str → Option Value} {base : Heap}
theorem sqB_len {H : Hp} {b : Bool} {a : Addr} {vs : List V} (h : H a = some (if b = true then .lst vs else .tup vs)) : SqL K H a vs ∨ SqT K H a vs := by
  cases b
  · exact .inr (SqT.of h)
  · exact .inl (SqL.of h)
theorem ok_first_standing {f : Addr} {fd : FuncData} (F : Fun K "first_standing" "first_standing" s_first_standing f fd) (T : Top K mg) : FnOk P w K mg base CX0 1 f fd ["policy"] sp_first_standing := by
  refine F.ok sc_first_standing (fun vs H Q E h => ?_) (fun cdv A outer s H vs Q E hr h => ?_)
  · obtain ⟨b, A, a, rfl, _⟩ := h
    rfl
  · obtain ⟨b, A, a, rfl, ⟨vs, ha, hp⟩, hz, k⟩ := h
    refine ⟨_, (pss_one (ps_ret (pe_op Tm.op_repV (pe_tup (pa_cons pe_int pa_nil)) (pe_callB call_len_seq (by rfl) T.len (by decide +kernel) (pa_cons (pv 0) pa_nil))))), ?_⟩
    refine ⟨by show 1 ≤ sizeLine; decide, fun t nt => ⟨_, rfl, a, vs, rfl, sqB_len (sNew nt _ _ ha), t, vs.length, _, rfl, rfl, upd_same, by rw [← hp.length]; exact hz, fun p H' s e => ?_⟩⟩
    refine k H' _ ((sNew nt).trans s) ⟨p, rfl, ?_⟩
    rw [e, hp.length]
    congr 2
    rw [List.map_replicate]
    rfl
theorem ok_stepped {f : Addr} {fd : FuncData} (F : Fun K "stepped" "stepped" s_stepped f fd) (T : Top K mg) (C_rule_stepped : Cal P w K mg base 1 "rule_stepped" ["rule", "number", "row"] sp_rule_stepped) : FnOk P w K mg base CX0 2 f fd ["policy", "standing", "row"] sp_stepped := by
  refine F.ok sc_stepped (fun vs H Q E h => ?_) (fun cdv A outer s H vs Q E hr h => ?_)
  · obtain ⟨b, A, a, ss, l, v, y, rfl, _⟩ := h
    rfl
  · obtain ⟨b, R, a, ss, l, v, y, rfl, ⟨vs, ha, hp⟩, ⟨c, rfl, hc⟩, ⟨hcl, hcap⟩, hy, hz, k⟩ := h
    refine ⟨_, (pss_cons (ps_setLc (i := 3) (own := [("rule", 4), ("number", 5)]) (by rfl) sc_stepped.nd rfl rfl (sw_true rfl rfl rfl (by decide +kernel)) (g := gTup K 2 (gCons (gName 4) (gCons (gName 5) gNil))) (pi_zipS b false (by rfl) T.zip (pa_cons (pv 0) (pa_cons (pv 1) pa_nil))) (blkOk_by (own := [("rule", 4), ("number", 5)]) (N := N_stepped) (sc := defScope s_stepped) (by decide +kernel)) (fun _ _ _ _ _ => (pg_tup rfl (pgs_cons (pg_name (i := 4) sc_stepped.nd rfl (Or.inl rfl)) (pgs_cons (pg_name (i := 5) sc_stepped.nd rfl (Or.inl rfl)) pgs_nil)))) (fun _ _ _ _ _ => pts_nil) (fun _ _ _ _ _ => (pe_cal C_rule_stepped (hr.mono (by decide)) rfl (pa_cons (pv 4) (pa_cons (pv 5) (pa_cons (pv 2) pa_nil))))))
      (pss_one (ps_ret (pe_ifExp (pt_cmpR op_in_seq pe_non (pv 3) (by rfl)) pe_non (pe_callTy call_tuple_of (by rfl) T.tuple (by decide +kernel) (pa_cons (pv 3) pa_nil)))))), ?_⟩
    have hlen : vs.length = ss.length := by rw [← hp.length, hcl]
    refine ⟨_, rfl, _, rfl, a, c, vs, _, rfl, sqB_of ha, sqB_of (b := false) hc, fun D nD => lc_zipB (xs := vs) (ys := ss.map fun (n : Nat) => V.int (n : Int)) (by rw [List.length_map, hlen]) (Made (fun j _ v => ∃ o, (tolds R ss l)[j]? = some o ∧ v = numV o) H D) (made0 nD) (fun i H1 p => ⟨sqB_of (p.1 _ _ ha), sqB_of (b := false) (p.1 _ _ hc)⟩) (fun i x y0 U H1 hx hy0 p nU => ?_) (fun H1 p => ?_)⟩
    · obtain ⟨r, hr1, hrv⟩ := paired_at hp hx
      rw [List.getElem?_map] at hy0
      obtain ⟨n, hn1, rfl⟩ := Option.map_eq_some_iff.mp hy0
      have s1 : Same H (upd H1 U (.tup [x, .int (n : Int)])) := p.1.trans (sNew nU)
      refine ⟨U, _, rfl, SqT.of upd_same, rfl, _, _, rfl, _, _, rfl, rfl, rfl, ?_⟩
      refine ⟨_, rfl, _, rfl, _, rfl, r, n, l, x, y, rfl, hrv.same (tOf s1), hy.same (tOf s1), hcap i r n hr1 hn1, fun H2 s2 => ?_⟩
      have hi : i < sizeLine := by
        have h1 : i < vs.length := (List.getElem?_eq_some_iff.mp hx).1
        have h2 : (1000 : Nat) < sizeLine := by decide
        omega
      exact made_step (fun _ _ _ _ _ q => q) nD hi p ((sNew nU).trans s2) ⟨_, tolds_at l hr1 hn1, rfl⟩
    · obtain ⟨s1, acc, hD, hal, hacc⟩ := p
      have e : acc = (tolds R ss l).map numV := list_of (by rw [hal, tolds_length hcl, hp.length]) hacc
      subst e
      refine ⟨_, rfl, D, _, rfl, .inl (SqL.of hD), rfl, flat_nums _, _, rfl, iteD (in_nums _) (ite2 (fun d => ?_) (fun d => ?_))⟩
      · have d := of_decide_eq_true d
        have e : stepP R ss l = none := if_pos d
        exact k H1 _ s1 (by rw [e]; rfl)
      · have d : ¬ none ∈ tolds R ss l := fun z => d (decide_eq_true z)
        have e : stepP R ss l = some ((tolds R ss l).map fun x => x.getD 0) := if_neg d
        refine ⟨_, rfl, D, _, rfl, .inl ⟨SqL.of hD, fun t nt => ?_⟩⟩
        refine k _ _ (s1.trans (sNew nt)) ?_
        rw [e]
        exact ⟨t, rfl, by rw [upd_same, nums_of d]⟩
theorem ok_ends {f : Addr} {fd : FuncData} (F : Fun K "ends" "ends" s_ends f fd) (T : Top K mg) : FnOk P w K mg base CX0 1 f fd ["policy", "standing"] sp_ends := by
  refine F.ok sc_ends (fun vs H Q E h => ?_) (fun cdv A outer s H vs Q E hr h => ?_)
  · obtain ⟨b, A, a, ss, v, rfl, _⟩ := h
    rfl
  · obtain ⟨b, R, a, ss, v, rfl, ⟨vs, ha, hp⟩, ⟨c, rfl, hc⟩, ⟨hcl, hcap⟩, k⟩ := h
    refine ⟨_, (pss_cons (ps_for PassesOwn.never rfl (pi_zipS b false (by rfl) T.zip (pa_cons (pv 0) (pa_cons (pv 1) pa_nil))) (pg_tup rfl (pgs_cons (pg_name (i := 2) sc_ends.nd rfl (Or.inl rfl)) (pgs_cons (pg_name (i := 3) sc_ends.nd rfl (Or.inl rfl)) pgs_nil)))
        (pss_one (ps_if (PW.pt (pw_or (PW.pt (pw_and (pt_cmpR op_eq (pe_ix ix_tup (pv 2) pe_int (fun _ _ => rfl)) pe_str (nomark _)) (pw_and1 (pt_cmpR op_eq (pv 3) pe_int (nomark _))))) (pw_or1 (PW.pt (pw_and (pt_cmpR op_eq (pe_ix ix_tup (pv 2) pe_int (fun _ _ => rfl)) pe_str (nomark _)) (pw_and1 (pt_cmpR op_eq (pv 3) pe_int (nomark _))))))))
          (pss_one (ps_ret pe_bl))
          pss_nil)))
      (pss_one (ps_ret pe_bl))), ?_⟩
    have hlen : vs.length = ss.length := by rw [← hp.length, hcl]
    refine ⟨_, rfl, _, rfl, a, c, vs, _, rfl, sqB_of ha, sqB_of (b := false) hc, for_zipB (xs := vs) (ys := ss.map fun (n : Nat) => V.int (n : Int)) (by rw [List.length_map, hlen])
      (fun i σ H1 => Same H H1 ∧ (∃ x y, σ = [some (.ref a), some (.ref c), x, y]) ∧ ∀ (j : Nat) (r : Ru) (n : Nat), j < i → R[j]? = some r → ss[j]? = some n → endR r n = true) ⟨Same.refl H, ⟨_, _, rfl⟩, fun j r n hj => absurd hj (Nat.not_lt_zero _)⟩
      (fun i σ H1 p => ⟨sqB_of (p.1 _ _ ha), sqB_of (b := false) (p.1 _ _ hc)⟩) (fun i x y0 U σ H1 hx hy0 p nU => ?_) (fun σ H1 p => ?_)⟩
    · obtain ⟨s1, ⟨x0, x1, rfl⟩, hj⟩ := p
      obtain ⟨r, hr1, hrv⟩ := paired_at hp hx
      rw [List.getElem?_map] at hy0
      obtain ⟨n, hn1, rfl⟩ := Option.map_eq_some_iff.mp hy0
      have s2 : Same H (upd H1 U (.tup [x, .int (n : Int)])) := s1.trans (sNew nU)
      obtain ⟨p, rest, rfl, hh⟩ := (hrv.same (tOf s2)).head
      have bad : endR r n = false → endP R ss = false := fun e => by
        unfold endP
        rw [List.all_eq_false]
        refine ⟨(r, n), ?_, by rw [e]; exact Bool.false_ne_true⟩
        exact List.mem_of_getElem? (List.getElem?_zip_eq_some.mpr ⟨hr1, hn1⟩)
      have good : endR r n = true → ∀ (j : Nat) (r' : Ru) (n' : Nat), j < i + 1 → R[j]? = some r' → ss[j]? = some n' → endR r' n' = true := fun e j r' n' h1 h2 h3 => by
        by_cases q : j < i
        · exact hj j r' n' q h2 h3
        · have q : j = i := by omega
          subst q
          rw [hr1] at h2
          rw [hn1] at h3
          cases h2
          cases h3
          exact e
      refine ⟨U, _, rfl, SqT.of upd_same, rfl, _, _, rfl, _, _, rfl, rfl, ?_⟩
      refine ⟨_, rfl, p, _, ((0 : Nat) : Int), _, rfl, rfl, SqT.of hh, atI_nat (j := 0) rfl, rfl, _, rfl, ?_⟩
      cases r with
      | must m =>
        refine eqT ⟨_, rfl, rfl, _, rfl, iteD (intD _ _) (ite2 (fun d => ?_) (fun d => ?_))⟩
        · have d : n = 0 := by have d := of_decide_eq_true d; omega
          have e := k _ s2
          rw [bad (by simp [endR, d])] at e
          exact e
        · have d : ¬ n = 0 := fun z => d (decide_eq_true (by omega))
          refine ⟨_, rfl, p, _, ((0 : Nat) : Int), _, rfl, rfl, SqT.of hh, atI_nat (j := 0) rfl, rfl, _, rfl, eqF (strNe (by dsimp only [wordR]; decide +kernel)) ?_⟩
          exact ⟨s2, ⟨_, _, rfl⟩, good (by simp [endR, d])⟩
      | next m m2 =>
        refine eqF (strNe (by dsimp only [wordR]; decide +kernel)) (iteF ⟨_, rfl, p, _, ((0 : Nat) : Int), _, rfl, rfl, SqT.of hh, atI_nat (j := 0) rfl, rfl, _, rfl, eqT ⟨_, rfl, rfl, _, rfl, iteD (intD _ _) (ite2 (fun d => ?_) (fun d => ?_))⟩⟩)
        · have d : n = 1 := by have d := of_decide_eq_true d; omega
          have e := k _ s2
          rw [bad (by simp [endR, d])] at e
          exact e
        · have d : ¬ n = 1 := fun z => d (decide_eq_true (by omega))
          exact ⟨s2, ⟨_, _, rfl⟩, good (by simp [endR, d])⟩
      | _ =>
        refine eqF (strNe (by dsimp only [wordR]; decide +kernel)) (iteF ⟨_, rfl, p, _, ((0 : Nat) : Int), _, rfl, rfl, SqT.of hh, atI_nat (j := 0) rfl, rfl, _, rfl, eqF (strNe (by dsimp only [wordR]; decide +kernel)) (iteF ?_)⟩)
        exact ⟨s2, ⟨_, _, rfl⟩, good rfl⟩
    · obtain ⟨s1, _, hj⟩ := p
      have e : endP R ss = true := by
        unfold endP
        rw [List.all_eq_true]
        rintro ⟨r, n⟩ hm
        obtain ⟨j, hj1⟩ := List.getElem?_of_mem hm
        obtain ⟨h1, h2⟩ := List.getElem?_zip_eq_some.mp hj1
        exact hj j r n (by rw [hp.length.symm]; exact (List.getElem?_eq_some_iff.mp h1).1) h1 h2
      have q := k H1 s1
      rw [e] at q
      exact q
abbrev s_one_ends : Stmt := top 22
abbrev N_one_ends : List Str := ["policy", "standing"]
theorem sc_one_ends : FnScope N_one_ends ["policy", "standing"] (defScope s_one_ends) := ⟨rfl, rfl, rfl, by decide +kernel, rfl, by decide +kernel, by decide +kernel⟩
-- slots: 0 policy, 1 standing
def sp_one_ends : Sp := fun vs H Q _ => ∃ (b : Bool) (A : List Ru) (a : Addr) (st : Std) (v : V), vs = [.ref a, v] ∧ PolV H b A a ∧ StdV H st v ∧ CapS A st ∧ ∀ H', Same H H' → Q (.bl (endS A st)) H'
abbrev s_one_stepped : Stmt := top 23
abbrev N_one_stepped : List Str := ["policy", "standing", "row"]
theorem sc_one_stepped : FnScope N_one_stepped ["policy", "standing", "row"] (defScope s_one_stepped) := ⟨rfl, rfl, rfl, by decide +kernel, rfl, by decide +kernel, by decide +kernel⟩
-- slots: 0 policy, 1 standing, 2 row
def sp_one_stepped : Sp := fun vs H Q _ => ∃ (b : Bool) (A : List Ru) (a : Addr) (st : Std) (l : Le) (v y : V), vs = [.ref a, v, y] ∧ PolV H b A a ∧ StdV H st v ∧ CapS A st ∧ RowV H l y ∧ A.length ≤ 1000 ∧
  ∀ H' z, Same H H' → StdV H' (stepS A st l) z → Q z H'
theorem ok_one_ends {f : Addr} {fd : FuncData} (F : Fun K "one_ends" "one_ends" s_one_ends f fd) (T : Top K mg) (C_ends : Cal P w K mg base 1 "ends" ["policy", "standing"] sp_ends) : FnOk P w K mg base CX0 2 f fd ["policy", "standing"] sp_one_ends := by
  refine F.ok sc_one_ends (fun vs H Q E h => ?_) (fun cdv A outer s H vs Q E hr h => ?_)
  · obtain ⟨b, A, a, st, v, rfl, _⟩ := h
    rfl
  · obtain ⟨b, R, a, st, v, rfl, hA, hv, hc, k⟩ := h
    refine ⟨_, (pss_one (ps_ret (pe_and (pe_cmpR op_notN (pv 1) pe_non (nomark _)) (pe_one (pe_cal C_ends (hr.mono (by decide)) rfl (pa_cons (pv 0) (pa_cons (pv 1) pa_nil))))))), ?_⟩
    cases st with
    | none =>
      have hv : v = .non := hv
      subst hv
      exact ⟨_, rfl, rfl, _, rfl, neT (k H (Same.refl H))⟩
    | some ss =>
      have hv' := hv
      obtain ⟨c, rfl, hcc⟩ := hv
      refine ⟨_, rfl, rfl, _, rfl, neF (fun z => by cases z) ?_⟩
      exact ⟨_, rfl, _, rfl, b, R, a, ss, _, rfl, hA, hv', hc, fun H' s => k H' s⟩
theorem ok_one_stepped {f : Addr} {fd : FuncData} (F : Fun K "one_stepped" "one_stepped" s_one_stepped f fd) (T : Top K mg) (C_stepped : Cal P w K mg base 2 "stepped" ["policy", "standing", "row"] sp_stepped) : FnOk P w K mg base CX0 3 f fd ["policy", "standing", "row"] sp_one_stepped := by
  refine F.ok sc_one_stepped (fun vs H Q E h => ?_) (fun cdv A outer s H vs Q E hr h => ?_)
  · obtain ⟨b, A, a, st, l, v, y, rfl, _⟩ := h
    rfl
  · obtain ⟨b, R, a, st, l, v, y, rfl, hA, hv, hc, hy, hz, k⟩ := h
    refine ⟨_, (pss_one (ps_ret (pe_ifExp (pt_cmpR op_isN (pv 1) pe_non (nomark _)) pe_non (pe_cal C_stepped (hr.mono (by decide)) rfl (pa_cons (pv 0) (pa_cons (pv 1) (pa_cons (pv 2) pa_nil))))))), ?_⟩
    cases st with
    | none =>
      have hv : v = .non := hv
      subst hv
      exact ⟨_, rfl, rfl, _, rfl, eqT (k H _ (Same.refl H) rfl)⟩
    | some ss =>
      have hv' := hv
      obtain ⟨c, rfl, hcc⟩ := hv
      refine ⟨_, rfl, rfl, _, rfl, eqF (fun z => by cases z) ?_⟩
      exact ⟨_, rfl, _, rfl, _, rfl, b, R, a, ss, l, _, y, rfl, hA, hv', hc, hy, by rw [hc.1]; exact hz, fun H' z s q => k H' z s q⟩
end
end Sk
set_option Elab.async false
set_option linter.all false
set_option maxRecDepth 100000
namespace Sk
open PySem PySem.Spec PyProof.Rows L2 Sl Bf Zs Sr Dc2 Nd
/-! ### the law's box of numbers -/
theorem bit64 (b : Bool) : -(2 ^ 64) < (if b = true then (1 : Int) else 0) ∧ (if b = true then (1 : Int) else 0) < 2 ^ 64 := by cases b <;> decide
def BoxAt (H : Hp) (a : Addr) (n : Nat) : Prop := ∃ x y z : Int, H a = some (.lst [.int x, .int y, .int z]) ∧ 0 ≤ x ∧ 0 ≤ y ∧ y < 2 ^ 33 ∧ 0 ≤ z ∧ z ≤ n
theorem BoxAt.mono {H : Hp} {a : Addr} {m n : Nat} (h : BoxAt H a m) (l : m ≤ n) : BoxAt H a n := by
  obtain ⟨x, y, z, e, h1, h2, h3, h4, h5⟩ := h
  exact ⟨x, y, z, e, h1, h2, h3, h4, by omega⟩
theorem BoxAt.same {H H' : Hp} {a : Addr} {n : Nat} (h : BoxAt H a n) (s : Same H H') : BoxAt H' a n := by
  obtain ⟨x, y, z, e, r⟩ := h
  exact ⟨x, y, z, s _ _ e, r⟩
theorem BoxAt.t {H H' : Hp} {a : Addr} {n : Nat} (h : BoxAt H a n) (s : SameX a H H') : SameT H H' := by
  obtain ⟨x, y, z, e, r⟩ := h
  exact s.t e
theorem BoxAt.ne {H : Hp} {a p : Addr} {n : Nat} (h : BoxAt H a n) (q : H p = none) : a ≠ p := by
  obtain ⟨x, y, z, e, r⟩ := h
  exact ne_of_none e q
theorem SameX.free {H H' : Hp} {a p : Addr} {n : Nat} (x : SameX a H H') (hB : BoxAt H' a n) (h : H' p = none) : H p = none := by
  cases q : H p with
  | none => rfl
  | some o =>
    by_cases e : p = a
    · subst e
      obtain ⟨_, _, _, e6, _⟩ := hB
      rw [e6] at h
      cases h
    · rw [x _ _ q e] at h
      cases h
abbrev s_law_box : Stmt := top 27
abbrev N_law_box : List Str := ["_law_script", "_law_k", "_law_cell"]
theorem sc_law_box : FnScope N_law_box ["_law_script", "_law_k"] (defScope s_law_box) := ⟨rfl, rfl, rfl, by decide +kernel, rfl, by decide +kernel, by decide +kernel⟩
-- slots: 0 _law_script, 1 _law_k, 2 _law_cell
def sp_law_box (K : PySem.W.Frag) : Sp := fun vs H Q _ => ∃ (a : Addr) (ns : List Int) (k : Nat), vs = [.ref a, .int (k : Int)] ∧ SqL K H a (ns.map V.int) ∧ k ≤ 1000 ∧ ∀ H' p, Same H H' → H p = none → BoxAt H' p 0 → Q (.ref p) H'
abbrev s_law_take : Stmt := top 28
abbrev N_law_take : List Str := ["_law_box_here", "_law_size", "_law_found", "_law_once"]
theorem sc_law_take : FnScope N_law_take ["_law_box_here", "_law_size"] (defScope s_law_take) := ⟨rfl, rfl, rfl, by decide +kernel, rfl, by decide +kernel, by decide +kernel⟩
-- slots: 0 _law_box_here, 1 _law_size, 2 _law_found, 3 _law_once
def sp_law_take : Sp := fun vs H Q _ => ∃ (a : Addr) (n : Nat) (m : Int), vs = [.ref a, .int m] ∧ BoxAt H a n ∧ n ≤ 2 ^ 40 ∧ 0 < m ∧ m < 1000000 ∧ ∀ H' r, SameX a H H' → BoxAt H' a (n + 1) → 0 ≤ r → r < m → Q (.int r) H'
abbrev s_law_pick : Stmt := top 29
abbrev N_law_pick : List Str := ["_law_box_here", "_law_things"]
theorem sc_law_pick : FnScope N_law_pick ["_law_box_here", "_law_things"] (defScope s_law_pick) := ⟨rfl, rfl, rfl, by decide +kernel, rfl, by decide +kernel, by decide +kernel⟩
-- slots: 0 _law_box_here, 1 _law_things
def sp_law_pick : Sp := fun vs H Q _ => ∃ (a t : Addr) (n : Nat) (xs : List V), vs = [.ref a, .ref t] ∧ BoxAt H a n ∧ n ≤ 2 ^ 40 ∧ H t = some (.lst xs) ∧ t ≠ a ∧ 0 < xs.length ∧ xs.length < 1000 ∧ ∀ H' v, SameX a H H' → BoxAt H' a (n + 1) → v ∈ xs → Q v H'
abbrev s_law_note : Stmt := top 32
abbrev N_law_note : List Str := ["_law_box_here"]
theorem sc_law_note : FnScope N_law_note ["_law_box_here"] (defScope s_law_note) := ⟨rfl, rfl, rfl, by decide +kernel, rfl, by decide +kernel, by decide +kernel⟩
-- slots: 0 _law_box_here
def sp_law_note : Sp := fun vs H Q _ => ∃ (a : Addr) (n : Nat), vs = [.ref a] ∧ BoxAt H a n ∧ n ≤ 2 ^ 39 + 1000 ∧ ∀ H' r, SameX a H H' → BoxAt H' a (n + 2) → 0 ≤ r → r < 10000 → Q (.int r) H'
section
variable {P : Program} {w : World} {K : PySem.W.Frag} {mg : Str → Option Value} {base : Heap}
theorem ok_law_box {f : Addr} {fd : FuncData} (F : Fun K "_law_box" "_law_box" s_law_box f fd) (T : Top K mg) : FnOk P w K mg base CX0 1 f fd ["_law_script", "_law_k"] (sp_law_box K) := by
  refine F.ok sc_law_box (fun vs H Q E h => ?_) (fun cdv A outer s H vs Q E hr h => ?_)
  · obtain ⟨a, ns, k, rfl, _⟩ := h
    rfl
  · obtain ⟨a, ns, k, rfl, hS, hk, q⟩ := h
    refine ⟨_, (pss_cons (ps_set (i := 2) sc_law_box.nd rfl (Or.inl rfl) pe_int)
      (pss_cons (ps_if (pt_cmpR op_lt (pv 1) (pe_callB call_len_seq (by rfl) T.len (by decide +kernel) (pa_cons (pv 0) pa_nil)) (nomark _))
        (pss_one (ps_set (i := 2) sc_law_box.nd rfl (Or.inl rfl) (pe_ix ix_list (pv 0) (pv 1) (fun _ _ => rfl))))
        pss_nil)
      (pss_one (ps_ret (pe_lst (pa_cons (pe_op op_mul (pe_callB call_abs (by rfl) T.abs (by decide +kernel) (pa_cons (pv 2) pa_nil)) (pe_callTy call_int1 (by rfl) T.int (by decide +kernel) (pa_cons (pe_cmpR op_ge (pe_callB call_abs (by rfl) T.abs (by decide +kernel) (pa_cons (pv 2) pa_nil)) (pe_op op_pow pe_int pe_int) (nomark _)) pa_nil))) (pa_cons (pe_op op_add (pe_op op_add (pe_op op_mod (pv 2) pe_int) (pe_op op_mul pe_int (pv 1))) pe_int) (pa_cons pe_int pa_nil)))))))), ?_⟩
    -- the rest, for any cell
    have rest : ∀ c : Int, ∀ p, H p = none → Q (.ref p) (upd H p (.lst [.int ((if c < 0 then -c else c) * (if decide (((10 : Int) ^ (18 : Int).toNat) ≤ (if c < 0 then -c else c)) = true then 1 else 0)), .int (c % 2147483629 + 7919 * (k : Int) + 11), .int 0])) := fun c p np => by
      refine q _ p (sNew np) np ⟨_, _, _, upd_same, ?_, ?_, ?_, Int.le_refl _, Int.le_refl _⟩
      · refine Int.mul_nonneg ?_ ?_ <;> split <;> omega
      · have := Int.emod_nonneg c (by decide : (2147483629 : Int) ≠ 0)
        omega
      · have := Int.emod_lt_of_pos c (by decide : (0 : Int) < 2147483629)
        omega
    refine ⟨_, rfl, _, rfl, a, _, rfl, .inl hS, _, _, rfl, rfl, _, rfl, ite2 (fun c => ?_) (fun c => ?_)⟩
    · have hk2 : k < (ns.map V.int).length := by have c := of_decide_eq_true c; omega
      have hk3 : k < ns.length := by rw [List.length_map] at hk2; exact hk2
      refine ⟨_, rfl, _, rfl, a, _, (k : Int), .int ns[k], rfl, rfl, hS, atI_nat (by rw [List.getElem?_map, List.getElem?_eq_getElem hk3]; rfl), ?_⟩
      refine ⟨_, rfl, _, rfl, _, rfl, _, rfl, _, _, rfl, rfl, ⟨by decide, by decide, by decide⟩, _, _, rfl, rfl, .inr ⟨_, rfl, _, _, rfl, rfl, .inr ?_, ?_⟩⟩
      · exact bit64 _
      · refine ⟨_, rfl, _, _, rfl, rfl, (by show (0 : Int) < 2147483629; decide), _, rfl, _, _, rfl, rfl, .inl ⟨by decide, by decide⟩, _, _, rfl, rfl, _, _, rfl, rfl, (by show 3 ≤ sizeLine; decide), fun p np => rest _ p np⟩
    · refine ⟨_, rfl, _, rfl, _, rfl, _, rfl, _, _, rfl, rfl, ⟨by decide, by decide, by decide⟩, _, _, rfl, rfl, .inr ⟨_, rfl, _, _, rfl, rfl, .inr ?_, ?_⟩⟩
      · exact bit64 _
      · refine ⟨_, rfl, _, _, rfl, rfl, (by show (0 : Int) < 2147483629; decide), _, rfl, _, _, rfl, rfl, .inl ⟨by decide, by decide⟩, _, _, rfl, rfl, _, _, rfl, rfl, (by show 3 ≤ sizeLine; decide), fun p np => rest _ p np⟩
theorem ok_law_take {f : Addr} {fd : FuncData} (F : Fun K "_law_take" "_law_take" s_law_take f fd) (T : Top K mg) : FnOk P w K mg base CX0 1 f fd ["_law_box_here", "_law_size"] sp_law_take := by
  refine F.ok sc_law_take (fun vs H Q E h => ?_) (fun cdv A outer s H vs Q E hr h => ?_)
  · obtain ⟨a, n, m, rfl, _⟩ := h
    rfl
  · obtain ⟨a, n, m, rfl, ⟨x, y, z, e, h1, h2, h3, h4, h5⟩, hn, hm, hm2, k⟩ := h
    refine ⟨_, (pss_cons (ps_if (pt_cmpR op_gt (pe_ix ix_list (pv 0) pe_int (fun _ _ => rfl)) pe_int (nomark _))
        (pss_cons (ps_set (i := 2) sc_law_take.nd rfl (Or.inl rfl) (pe_op op_mod (pe_ix ix_list (pv 0) pe_int (fun _ _ => rfl)) (pv 1)))
        (pss_cons (ps_asg (pe_op op_fdiv (pe_ix ix_list (pv 0) pe_int (fun _ _ => rfl)) (pv 1)) (pg_sub (pv 0) pe_int set_list))
        (pss_one (ps_ret (pv 2)))))
        pss_nil)
      (pss_cons (ps_asg (pe_op op_add (pe_ix ix_list (pv 0) pe_int (fun _ _ => rfl)) pe_int) (pg_sub (pv 0) pe_int set_list))
      (pss_cons (ps_set (i := 3) sc_law_take.nd rfl (Or.inl rfl) (pe_op op_mod (pe_op op_pow (pe_op op_add (pe_ix ix_list (pv 0) pe_int (fun _ _ => rfl)) (pe_op op_mul pe_int (pe_ix ix_list (pv 0) pe_int (fun _ _ => rfl)))) pe_int) pe_int))
      (pss_one (ps_ret (pe_op op_mod (pe_op op_fdiv (pe_op op_mod (pe_op op_add (pe_op op_mul (pv 3) (pe_op op_add (pe_op op_mod (pv 3) pe_int) pe_int)) (pe_op op_mul (pe_ix ix_list (pv 0) pe_int (fun _ _ => rfl)) pe_int)) pe_int) pe_int) (pv 1))))))), ?_⟩
    refine ⟨_, rfl, a, _, _, _, rfl, rfl, SqL.of e, rfl, _, _, rfl, rfl, _, rfl, ite2 (fun c => ?_) (fun c => ?_)⟩
    · refine ⟨_, rfl, a, _, _, _, rfl, rfl, SqL.of e, rfl, _, rfl, _, _, rfl, rfl, hm, ?_⟩
      refine ⟨_, rfl, a, _, _, _, rfl, rfl, SqL.of e, rfl, _, rfl, _, _, rfl, rfl, ⟨hm, by omega⟩, ?_⟩
      refine ⟨_, rfl, a, _, _, _, rfl, rfl, e, rfl, _, rfl, ?_⟩
      refine k _ _ xUpd ⟨_, y, z, upd_same, Int.ediv_nonneg h1 (by omega), h2, h3, h4, by omega⟩ (Int.emod_nonneg _ (by omega)) (Int.emod_lt_of_pos _ hm)
    · refine ⟨_, rfl, a, _, _, _, rfl, rfl, SqL.of e, rfl, _, _, rfl, rfl, _, rfl, a, _, _, _, rfl, rfl, e, rfl, ?_⟩
      have e2 : ∀ o, upd H a o a = some o := fun o => upd_same
      have hb : BoxAt (upd H a (.lst [.int x, .int y, .int (z + 1)])) a (n + 1) := ⟨x, y, z + 1, upd_same, h1, h2, h3, by omega, by omega⟩
      refine ⟨_, rfl, a, _, _, _, rfl, rfl, SqL.of upd_same, rfl, _, rfl, a, _, _, _, rfl, rfl, SqL.of upd_same, rfl, _, _, rfl, rfl, .inl ⟨by decide, by decide⟩, _, _, rfl, rfl, _, _, rfl, rfl, ⟨by decide, by decide, ?_⟩, _, _, rfl, rfl, (by show (0 : Int) < 2147483647; decide), ?_⟩
      · show (y + 39373 * (z + 1)).natAbs < 2 ^ 64
        omega
      have o1 := Int.emod_nonneg ((y + 39373 * (z + 1)) ^ (5 : Int).toNat) (by decide : (2147483647 : Int) ≠ 0)
      have o2 := Int.emod_lt_of_pos ((y + 39373 * (z + 1)) ^ (5 : Int).toNat) (by decide : (0 : Int) < 2147483647)
      refine ⟨_, rfl, _, rfl, _, _, rfl, rfl, (by show (0 : Int) < 40009; decide), _, _, rfl, rfl, _, _, rfl, rfl, .inl ⟨?_, ?_⟩, ?_⟩
      · omega
      · omega
      refine ⟨_, rfl, a, _, _, _, rfl, rfl, SqL.of upd_same, rfl, _, _, rfl, rfl, .inr ⟨by decide, by decide⟩, _, _, rfl, rfl, _, _, rfl, rfl, (by show (0 : Int) < 2147483629; decide), _, _, rfl, rfl, ⟨by decide, by decide⟩, _, rfl, _, _, rfl, rfl, hm, ?_⟩
      exact k _ _ xUpd hb (Int.emod_nonneg _ (by omega)) (Int.emod_lt_of_pos _ hm)
theorem ok_law_pick {f : Addr} {fd : FuncData} (F : Fun K "_law_pick" "_law_pick" s_law_pick f fd) (T : Top K mg) (C_law_take : Cal P w K mg base 1 "_law_take" ["_law_box_here", "_law_size"] sp_law_take) : FnOk P w K mg base CX0 2 f fd ["_law_box_here", "_law_things"] sp_law_pick := by
  refine F.ok sc_law_pick (fun vs H Q E h => ?_) (fun cdv A outer s H vs Q E hr h => ?_)
  · obtain ⟨a, t, n, xs, rfl, _⟩ := h
    rfl
  · obtain ⟨a, t, n, xs, rfl, hB, hn, ht, hne, hl, hl2, k⟩ := h
    refine ⟨_, (pss_one (ps_ret (pe_ix ix_list (pv 1) (pe_cal C_law_take (hr.mono (by decide)) rfl (pa_cons (pv 0) (pa_cons (pe_callB call_len_seq (by rfl) T.len (by decide +kernel) (pa_cons (pv 1) pa_nil)) pa_nil))) (fun _ _ => rfl)))), ?_⟩
    refine ⟨_, rfl, _, rfl, _, rfl, t, _, rfl, .inl (SqL.of ht), a, n, _, rfl, hB, hn, by omega, by omega, fun H' r s1 hB1 r1 r2 => ?_⟩
    obtain ⟨j, rfl⟩ : ∃ j : Nat, r = (j : Int) := ⟨r.toNat, by omega⟩
    have hj : j < xs.length := by omega
    refine ⟨t, xs, _, xs[j], rfl, rfl, SqL.of (s1 _ _ ht hne), atI_nat (List.getElem?_eq_getElem hj), ?_⟩
    exact k _ _ s1 hB1 (List.getElem_mem hj)
theorem ok_law_note {f : Addr} {fd : FuncData} (F : Fun K "_law_note" "_law_note" s_law_note f fd) (T : Top K mg) (C_law_take : Cal P w K mg base 1 "_law_take" ["_law_box_here", "_law_size"] sp_law_take) : FnOk P w K mg base CX0 2 f fd ["_law_box_here"] sp_law_note := by
  refine F.ok sc_law_note (fun vs H Q E h => ?_) (fun cdv A outer s H vs Q E hr h => ?_)
  · obtain ⟨a, n, rfl, _⟩ := h
    rfl
  · obtain ⟨a, n, rfl, hB, hn, k⟩ := h
    refine ⟨_, (pss_one (ps_ret (pe_cal C_law_take (hr.mono (by decide)) rfl (pa_cons (pv 0) (pa_cons (pe_ix ix_list (pe_lst (pa_cons pe_int (pa_cons pe_int (pa_cons pe_int pa_nil)))) (pe_cal C_law_take (hr.mono (by decide)) rfl (pa_cons (pv 0) (pa_cons pe_int pa_nil))) (fun _ _ => rfl)) pa_nil))))), ?_⟩
    refine ⟨_, rfl, (by show 3 ≤ sizeLine; decide), fun p np => ⟨_, rfl, a, n, 3, rfl, hB.same (sNew np), by omega, by decide, by decide, fun H1 r s1 hB1 r1 r2 => ?_⟩⟩
    have hp : H1 p = some (.lst [.int 3, .int 12, .int 9973]) := s1 _ _ upd_same (hB.ne np).symm
    have s0 : SameX a H H1 := SameX.trans (xOf (sNew np)) s1
    have go : ∀ m : Int, 0 < m → m < 10000 → sp_law_take [.ref a, .int m] H1 Q E0 := fun m m1 m2 => ⟨a, n + 1, m, rfl, hB1, by omega, m1, by omega, fun H2 r s2 hB2 r1 r2 => k _ _ (s0.trans s2) hB2 r1 (by omega)⟩
    obtain ⟨j, rfl⟩ : ∃ j : Nat, r = (j : Int) := ⟨r.toNat, by omega⟩
    have hj : j = 0 ∨ j = 1 ∨ j = 2 := by omega
    rcases hj with rfl | rfl | rfl
    · exact ⟨p, _, _, _, rfl, rfl, SqL.of hp, rfl, go 3 (by decide) (by decide)⟩
    · exact ⟨p, _, _, _, rfl, rfl, SqL.of hp, rfl, go 12 (by decide) (by decide)⟩
    · exact ⟨p, _, _, _, rfl, rfl, SqL.of hp, rfl, go 9973 (by decide) (by decide)⟩
end
end Sk
set_option Elab.async false
set_option linter.all false
set_option maxRecDepth 100000
namespace Sk
open PySem PySem.Spec PyProof.Rows L2 Sl Bf Zs Sr Dc2 Nd
/-! ### names -/
/-- a short text of small signs -/
def NameOk (x : Str) : Prop := x.length ≤ 10 ∧ ∀ c, c ∈ x.cps.toList → c < 256
/-- some values made, the box drawn from -/
def BMade (G : V → Prop) (H1 : Hp) (a D : Addr) (n0 c i : Nat) (H : Hp) : Prop := SameX a H1 H ∧ BoxAt H a (n0 + c * i) ∧ ∃ acc, H D = some (.lst acc) ∧ acc.length = i ∧ ∀ v, v ∈ acc → G v
theorem bmade0 {G : V → Prop} {H1 : Hp} {a D : Addr} {n0 c : Nat} (hB : BoxAt H1 a n0) (n : H1 D = none) : BMade G H1 a D n0 c 0 (upd H1 D (.lst [])) :=
  ⟨xOf (sNew n), hB.same (sNew n), [], upd_same, rfl, fun v h => by cases h⟩
theorem bmade_step {G : V → Prop} {H1 H H4 : Hp} {a D : Addr} {n0 c i : Nat} {y : V} (hB : BoxAt H1 a n0) (n : H1 D = none) (hi : i < sizeLine) (p : BMade G H1 a D n0 c i H) (s : SameX a H H4) (h4 : BoxAt H4 a (n0 + c * (i + 1))) (hy : G y) :
    ∃ acc, H4 D = some (.lst acc) ∧ acc.length < sizeLine ∧ BMade G H1 a D n0 c (i + 1) (upd H4 D (.lst (acc ++ [y]))) := by
  obtain ⟨s1, _, acc, e, hl, h⟩ := p
  have hne : D ≠ a := (hB.ne n).symm
  refine ⟨acc, s _ _ e hne, by omega, fun b o q nb => ?_, ?_, acc ++ [y], upd_same, by rw [List.length_append, List.length_singleton, hl], fun v q => ?_⟩
  · rw [upd_ne (ne_of_none q n)]
    exact s _ _ (s1 _ _ q nb) nb
  · obtain ⟨x, y, z, e, r⟩ := h4
    exact ⟨x, y, z, by rw [upd_ne hne.symm]; exact e, r⟩
  · rcases List.mem_append.mp q with q | q
    · exact h v q
    · rw [List.mem_singleton.mp q]; exact hy
theorem sign_len (c : Nat) : (⟨#[c]⟩ : Str).length = 1 := rfl
theorem join_ok : ∀ {ys : List Str}, (∀ y, y ∈ ys → ∃ c, c < 256 ∧ y = ⟨#[c]⟩) → (Txt.join "" ys).length = ys.length ∧ ∀ c, c ∈ (Txt.join "" ys).cps.toList → c < 256 := by
  intro ys h
  have e : Txt.join "" ys = Str.join ⟨#[]⟩ ys := StrLaws.glued_eq_join _ _
  rw [e]
  induction ys with
  | nil => exact ⟨rfl, fun c hc => by cases hc⟩
  | cons y ys ih =>
    obtain ⟨h1, h2⟩ := ih (fun z hz => h z (List.mem_cons_of_mem _ hz)) (StrLaws.glued_eq_join _ _)
    obtain ⟨c, hc, rfl⟩ := h y (List.mem_cons_self ..)
    rw [PyProof.Rows.join_nil_cons]
    refine ⟨by rw [Str.length_append, h1, sign_len, List.length_cons]; omega, fun d hd => ?_⟩
    rw [Str.cps_append, Array.toList_append] at hd
    rcases List.mem_append.mp hd with q | q
    · have q : d ∈ [c] := q
      rw [List.mem_singleton.mp q]
      exact hc
    · exact h2 d q
theorem sum_ok {ys : List Str} (h : ∀ y, y ∈ ys → ∃ c, c < 256 ∧ y = ⟨#[c]⟩) (hl : ys.length ≤ 100) : (ys.map (·.length)).sum + ys.length * (Str.ofString "").length ≤ 16777216 := by
  have e : (Str.ofString "").length = 0 := by decide +kernel
  have q : ∀ {zs : List Str}, (∀ y, y ∈ zs → ∃ c, c < 256 ∧ y = (⟨#[c]⟩ : Str)) → (zs.map (·.length)).sum = zs.length := fun {zs} => by
    induction zs with
    | nil => intro _; rfl
    | cons y zs ih =>
      intro h
      obtain ⟨c, _, rfl⟩ := h y (List.mem_cons_self ..)
      rw [List.map_cons, List.sum_cons, ih fun z hz => h z (List.mem_cons_of_mem _ hz), List.length_cons, sign_len]
      omega
  rw [e, q h]
  omega
theorem cut_ok (z : Str) (lo hi : Option Int) : (cutS z lo hi).length ≤ z.length ∧ ∀ c, c ∈ (cutS z lo hi).cps.toList → c ∈ z.cps.toList := by
  constructor
  · show (cutS z lo hi).cps.size ≤ z.cps.size
    unfold cutS
    simp only [List.size_toArray, List.length_take, List.length_drop, Array.length_toList]
    omega
  · intro c hc
    unfold cutS at hc
    simp only [List.toList_toArray] at hc
    exact List.mem_of_mem_drop (List.mem_of_mem_take hc)
theorem abc_len : (Str.ofString "abcdefghijklmnopqrstuvwxyz").cps.toList.length = 26 := by decide +kernel
theorem abc_small : ∀ c, c ∈ (Str.ofString "abcdefghijklmnopqrstuvwxyz").cps.toList → c < 256 := by decide +kernel
theorem abc_at {r : Int} (h0 : 0 ≤ r) (h1 : r < 26) : ∃ c, c < 256 ∧ atI (Str.ofString "abcdefghijklmnopqrstuvwxyz").cps.toList r = some c := by
  obtain ⟨j, rfl⟩ : ∃ j : Nat, r = (j : Int) := ⟨r.toNat, by omega⟩
  have hj : j < (Str.ofString "abcdefghijklmnopqrstuvwxyz").cps.toList.length := by rw [abc_len]; omega
  exact ⟨_, abc_small _ (List.getElem_mem hj), atI_nat (List.getElem?_eq_getElem hj)⟩
theorem strs_of {G : Str → Prop} : ∀ {acc : List V}, (∀ v, v ∈ acc → ∃ x, v = .str x ∧ G x) → ∃ ys : List Str, acc = ys.map V.str ∧ ∀ y, y ∈ ys → G y
  | [], _ => ⟨[], rfl, fun y h => by cases h⟩
  | v :: acc, h => by
    obtain ⟨ys, e, g⟩ := strs_of (acc := acc) fun u hu => h u (List.mem_cons_of_mem _ hu)
    obtain ⟨x, rfl, hx⟩ := h v (List.mem_cons_self ..)
    exact ⟨x :: ys, by rw [e]; rfl, fun y hy => by
      rcases List.mem_cons.mp hy with rfl | hy
      · exact hx
      · exact g y hy⟩
abbrev s_law_names : Stmt := top 30
abbrev N_law_names : List Str := ["_law_box_here", "_law_size", "_law_letters_here", "_law_begun", "_law_by", "_law_tail", "_law_at", "_law_k"]
theorem sc_law_names : FnScope N_law_names ["_law_box_here", "_law_size"] (defScope s_law_names) := ⟨rfl, rfl, rfl, by decide +kernel, rfl, by decide +kernel, by decide +kernel⟩
-- slots: 0 _law_box_here*, 1 _law_size, 2 _law_letters_here*, 3 _law_begun*, 4 _law_by*, 5 _law_tail*, 6 _law_at*, 7 _law_k
def sp_law_names : Sp := fun vs H Q _ => ∃ (a : Addr) (n m : Nat), vs = [.ref a, .int (m : Int)] ∧ BoxAt H a n ∧ n ≤ 2 ^ 39 ∧ m ≤ 10 ∧ ∀ H' p (ns : List Str), SameX a H H' → BoxAt H' a (n + 10) → H p = none → H' p = some (.lst (ns.map V.str)) → ns.length = m → (∀ x, x ∈ ns → NameOk x) → Q (.ref p) H'
section
variable {P : Program} {w : World} {K : PySem.W.Frag} {mg : Str → Option Value} {base : Heap}
theorem ok_law_names {f : Addr} {fd : FuncData} (F : Fun K "_law_names" "_law_names" s_law_names f fd) (T : Top K mg) (C_law_take : Cal P w K mg base 1 "_law_take" ["_law_box_here", "_law_size"] sp_law_take) : FnOk P w K mg base CX0 2 f fd ["_law_box_here", "_law_size"] sp_law_names := by
  refine F.ok sc_law_names (fun vs H Q E h => ?_) (fun cdv A outer s H vs Q E hr h => ?_)
  · obtain ⟨a, n, m, rfl, _⟩ := h
    rfl
  · obtain ⟨a, n, m, rfl, hB, hn, hm, k⟩ := h
    refine ⟨_, (pss_cons (ps_asg (pe_tup (pa_cons pe_str (pa_cons (pe_cal C_law_take (hr.mono (by decide)) rfl (pa_cons (pv 0) (pa_cons pe_int pa_nil))) (pa_cons (pe_ix ix_list (pe_lst (pa_cons pe_int (pa_cons pe_int (pa_cons pe_int (pa_cons pe_int pa_nil))))) (pe_cal C_law_take (hr.mono (by decide)) rfl (pa_cons (pv 0) (pa_cons pe_int pa_nil))) (fun _ _ => rfl)) pa_nil)))) (pg_tup rfl (pgs_cons (pg_name (i := 2) sc_law_names.nd rfl (Or.inr rfl)) (pgs_cons (pg_name (i := 3) sc_law_names.nd rfl (Or.inr rfl)) (pgs_cons (pg_name (i := 4) sc_law_names.nd rfl (Or.inr rfl)) pgs_nil)))))
      (pss_cons (ps_set (i := 5) sc_law_names.nd rfl (Or.inr rfl) (pe_join pe_str (pe_lc (own := [("_law_k", 7)]) (by rfl) sc_law_names.nd (pi_range1 (by rfl) T.range (pa_cons (pe_cal C_law_take (hr.mono (by decide)) rfl (pa_cons (pv 0) (pa_cons pe_int pa_nil))) pa_nil)) (blkOk_by (own := [("_law_k", 7)]) (N := N_law_names) (sc := defScope s_law_names) (by decide +kernel)) (fun _ _ _ _ _ => (pg_name (i := 7) sc_law_names.nd rfl (Or.inl rfl))) (fun _ _ _ _ _ => pts_nil) (fun _ _ _ _ _ => (pe_ix ix_str (pv 2) (pe_cal C_law_take (hr.mono (by decide)) rfl (pa_cons (pv 0) (pa_cons pe_int pa_nil))) (fun _ _ => rfl))))))
      (pss_cons (ps_set (i := 6) sc_law_names.nd rfl (Or.inr rfl) (pe_cal C_law_take (hr.mono (by decide)) rfl (pa_cons (pv 0) (pa_cons (pe_op op_add (pe_callB call_len (by rfl) T.len (by decide +kernel) (pa_cons (pv 5) pa_nil)) pe_int) pa_nil))))
      (pss_one (ps_ret (pe_lc (own := [("_law_k", 7)]) (by rfl) sc_law_names.nd (pi_range1 (by rfl) T.range (pa_cons (pv 1) pa_nil)) (blkOk_by (own := [("_law_k", 7)]) (N := N_law_names) (sc := defScope s_law_names) (by decide +kernel)) (fun _ _ _ _ _ => (pg_name (i := 7) sc_law_names.nd rfl (Or.inl rfl))) (fun _ _ _ _ _ => pts_nil) (fun _ _ _ _ _ => (pe_op op_add_str (pe_op op_add_str (pe_slice sl_str (pv 5) po_none (po_some (pv 6))) (pe_ix ix_str (pv 2) (pe_op op_mod (pe_op op_add (pv 3) (pe_op op_mul (pv 4) (pv 7))) pe_int) (fun _ _ => rfl))) (pe_slice sl_str (pv 5) (po_some (pv 6)) po_none))))))))), ?_⟩
    refine ⟨_, rfl, a, n, 26, rfl, hB, by omega, by decide, by decide, fun H1 begun s1 hB1 r1 r2 => ?_⟩
    refine ⟨(by show 4 ≤ sizeLine; decide), fun p np => ⟨_, rfl, a, n + 1, 4, rfl, hB1.same (sNew np), by omega, by decide, by decide, fun H2 r s2 hB2 r3 r4 => ?_⟩⟩
    have hp : H2 p = some (.lst [.int 1, .int 3, .int 7, .int 25]) := s2 _ _ upd_same (hB1.ne np).symm
    have s02 : SameX a H H2 := SameX.trans s1 (SameX.trans (xOf (sNew np)) s2)
    obtain ⟨by_, hby, hb1, hb2⟩ : ∃ b : Int, atI [V.int 1, .int 3, .int 7, .int 25] r = some (.int b) ∧ 0 ≤ b ∧ b ≤ 25 := by
      obtain ⟨j, rfl⟩ : ∃ j : Nat, r = (j : Int) := ⟨r.toNat, by omega⟩
      have hj : j = 0 ∨ j = 1 ∨ j = 2 ∨ j = 3 := by omega
      rcases hj with rfl | rfl | rfl | rfl
      · exact ⟨1, rfl, by decide, by decide⟩
      · exact ⟨3, rfl, by decide, by decide⟩
      · exact ⟨7, rfl, by decide, by decide⟩
      · exact ⟨25, rfl, by decide, by decide⟩
    refine ⟨p, _, _, _, rfl, rfl, SqL.of hp, hby, (by show 3 ≤ sizeLine; decide), fun t nt => ⟨t, _, rfl, SqT.of upd_same, rfl, _, _, rfl, _, _, rfl, _, _, rfl, rfl, ?_⟩⟩
    have hB3 := hB2.same (sNew (o := .tup [.str "abcdefghijklmnopqrstuvwxyz", .int begun, .int by_]) nt)
    have s03 := SameX.trans s02 (xOf (sNew (o := .tup [.str "abcdefghijklmnopqrstuvwxyz", .int begun, .int by_]) nt))
    refine ⟨⟨_, rfl⟩, _, rfl, a, n + 2, 4, rfl, hB3, by omega, by decide, by decide, fun H4 len s4 hB4 l1 l2 => ⟨_, rfl, by omega, by omega, fun D nD => ?_⟩⟩
    have s04 := SameX.trans s03 s4
    refine lc_range (lo := 0) (n := len.toNat) (BMade (fun v => ∃ x : Str, v = .str x ∧ ∃ c, c < 256 ∧ x = ⟨#[c]⟩) H4 a D (n + 3) 1) (bmade0 hB4 nD) (fun i H5 hi p5 => ⟨rfl, ?_⟩) (fun H5 p5 => ?_)
    · refine ⟨_, rfl, _, rfl, a, n + 3 + 1 * i, 26, rfl, p5.2.1, by omega, by decide, by decide, fun H6 r s6 hB6 q1 q2 => ?_⟩
      obtain ⟨c, hc, hat⟩ := abc_at q1 q2
      refine ⟨_, _, c, rfl, rfl, by decide +kernel, hat, ?_⟩
      exact bmade_step hB4 nD (Nat.lt_of_lt_of_le (m := 4) (by omega) (by decide)) p5 s6 (by rw [Nat.mul_add]; exact hB6) ⟨_, rfl, c, hc, rfl⟩
    · obtain ⟨s5, hB5, acc, hD, hl5, g5⟩ := p5
      obtain ⟨ys, rfl, gy⟩ := strs_of g5
      obtain ⟨j1, j2⟩ := join_ok gy
      rw [List.length_map] at hl5
      refine ⟨_, D, ys, rfl, rfl, .inl (SqL.of hD), ?_, ?_⟩
      · exact sum_ok gy (by omega)
      generalize Txt.join "" ys = tail at j1 j2
      have htl : tail.length ≤ 3 := by omega
      refine ⟨_, rfl, _, rfl, _, _, rfl, ⟨Nat.le_trans htl (by decide), rfl⟩, _, _, rfl, rfl, a, n + 3 + 1 * len.toNat, _, rfl, hB5, by omega, by omega, by omega, fun H6 at_ s6 hB6 l3 l4 => ?_⟩
      have s06 := SameX.trans s04 (SameX.trans s5 s6)
      refine ⟨_, rfl, _, rfl, by omega, by omega, fun D2 nD2 => ?_⟩
      have hline : (100 : Nat) ≤ sizeLine := by decide
      have htz : tail.length ≤ sizeLine := by omega
      obtain ⟨c1, c2⟩ := cut_ok tail none (some at_)
      obtain ⟨c3, c4⟩ := cut_ok tail (some at_) none
      refine lc_range (lo := 0) (n := (m : Int).toNat) (BMade (fun v => ∃ x : Str, v = .str x ∧ NameOk x) H6 a D2 (n + 4 + len.toNat) 0) (bmade0 (hB6.mono (by omega)) nD2) (fun i H7 hi p7 => ⟨rfl, ?_⟩) (fun H7 p7 => ?_)
      · obtain ⟨c, hc, hat⟩ := abc_at (r := (begun + by_ * (0 + (i : Int))) % 26) (Int.emod_nonneg _ (by decide)) (Int.emod_lt_of_pos _ (by decide))
        refine ⟨_, rfl, _, rfl, _, rfl, _, rfl, htz, _, rfl, _, rfl, _, rfl, _, rfl, _, _, rfl, rfl, .inl ⟨by omega, by omega⟩, _, _, rfl, rfl, _, _, rfl, rfl, (by show (0 : Int) < 26; decide), _, _, c, rfl, rfl, by decide +kernel, hat, _, _, rfl, rfl, ?_, ?_⟩
        · rw [sign_len]; omega
        refine ⟨_, rfl, _, rfl, _, rfl, _, rfl, htz, _, _, rfl, rfl, ?_, ?_⟩
        · rw [Str.length_append, sign_len]; omega
        refine bmade_step (hB6.mono (by omega)) nD2 (Nat.lt_of_lt_of_le (m := 100) (by omega) hline) p7 (SameX.refl a H7) (p7.2.1.mono (by omega)) ⟨_, rfl, ?_, fun d hd => ?_⟩
        · rw [Str.length_append, Str.length_append, sign_len]; omega
        · rw [Str.cps_append, Str.cps_append, Array.toList_append, Array.toList_append] at hd
          rcases List.mem_append.mp hd with hd | hd
          · rcases List.mem_append.mp hd with hd | hd
            · exact j2 d (c2 d hd)
            · have hd : d ∈ [c] := hd
              rw [List.mem_singleton.mp hd]
              exact hc
          · exact j2 d (c4 d hd)
      · obtain ⟨s7, hB7, acc, hD2, hl7, g7⟩ := p7
        obtain ⟨ns, rfl, gn⟩ := strs_of g7
        rw [List.length_map] at hl7
        exact k H7 D2 ns (s06.trans s7) (hB7.mono (by omega)) (by
          cases q : H D2 with
          | none => rfl
          | some o =>
            by_cases e : D2 = a
            · rw [e] at nD2
              obtain ⟨_, _, _, e6, _⟩ := hB6
              rw [e6] at nD2
              cases nD2
            · rw [s06 _ _ q e] at nD2
              cases nD2) hD2 (by omega) gn
end
end Sk
set_option Elab.async false
set_option linter.all false
set_option maxRecDepth 100000
namespace Sk
open PySem PySem.Spec PyProof.Rows L2 Sl Bf Zs Sr Dc2 Nd
/-! ### a rule as the law draws it -/
def RuleOk : Ru → Prop
  | .must n => NameOk n
  | .only ns => ns.length ≤ 4 ∧ ∀ x, x ∈ ns → NameOk x
  | .note n ks => NameOk n ∧ ks.length ≤ 4 ∧ ∀ k, k ∈ ks → 0 ≤ k ∧ k < 10000
  | .ahead a b => NameOk a ∧ NameOk b
  | .never a b => NameOk a ∧ NameOk b
  | .most n k => NameOk n ∧ k ≤ 3
  | .next a b => NameOk a ∧ NameOk b
theorem ruleSmall {r : Ru} (h : RuleOk r) : Sl.Small r := by
  cases r with
  | must n => exact Nat.le_of_ble_eq_true rfl
  | only ns => exact Nat.le_of_ble_eq_true rfl
  | note n ks => exact Nat.le_of_ble_eq_true rfl
  | ahead a b => exact Nat.le_of_ble_eq_true rfl
  | never a b => exact Nat.le_of_ble_eq_true rfl
  | most n k => exact h.2
  | next a b => exact Nat.le_of_ble_eq_true rfl
/-- ns[2:] -/
def cutL (ns : List Str) : List Str := (ns.drop (HT.sIx ns.length 0 (some 2))).take (HT.sIx ns.length ns.length none - HT.sIx ns.length 0 (some 2))
theorem cutV_strs (ns : List Str) : cutV (ns.map V.str) (some 2) none = (cutL ns).map V.str := by
  unfold cutV cutL
  rw [List.length_map, List.map_take, List.map_drop]
theorem cutL_le (ns : List Str) : (cutL ns).length ≤ ns.length := by
  unfold cutL
  rw [List.length_take, List.length_drop]
  omega
theorem cutL_mem {ns : List Str} {x : Str} (h : x ∈ cutL ns) : x ∈ ns := List.mem_of_mem_drop (List.mem_of_mem_take h)
theorem ints_of_acc {G : Int → Prop} : ∀ {acc : List V}, (∀ v, v ∈ acc → ∃ x, v = .int x ∧ G x) → ∃ ys : List Int, acc = ys.map V.int ∧ ∀ y, y ∈ ys → G y
  | [], _ => ⟨[], rfl, fun y h => by cases h⟩
  | v :: acc, h => by
    obtain ⟨ys, e, g⟩ := ints_of_acc (acc := acc) fun u hu => h u (List.mem_cons_of_mem _ hu)
    obtain ⟨x, rfl, hx⟩ := h v (List.mem_cons_self ..)
    exact ⟨x :: ys, by rw [e]; rfl, fun y hy => by
      rcases List.mem_cons.mp hy with rfl | hy
      · exact hx
      · exact g y hy⟩
theorem ok_a : NameOk "a" := by refine ⟨by decide +kernel, by decide +kernel⟩
theorem ok_b : NameOk "b" := by refine ⟨by decide +kernel, by decide +kernel⟩
theorem ok_c : NameOk "c" := by refine ⟨by decide +kernel, by decide +kernel⟩
abbrev s_law_first_names : Stmt := top 47
abbrev N_law_first_names : List Str := ["_law_box_here", "_law_names_here", "_law_way", "_law_some", "_law_name"]
theorem sc_law_first_names : FnScope N_law_first_names ["_law_box_here", "_law_names_here"] (defScope s_law_first_names) := ⟨rfl, rfl, rfl, by decide +kernel, rfl, by decide +kernel, by decide +kernel⟩
-- slots: 0 _law_box_here, 1 _law_names_here, 2 _law_way, 3 _law_some*, 4 _law_name
def sp_law_first_names : Sp := fun vs H Q _ => ∃ (a t : Addr) (n : Nat) (ns : List Str), vs = [.ref a, .ref t] ∧ BoxAt H a n ∧ n ≤ 2 ^ 39 ∧ H t = some (.lst (ns.map V.str)) ∧ t ≠ a ∧ 1 ≤ ns.length ∧ ns.length ≤ 10 ∧ (∀ x, x ∈ ns → NameOk x) ∧
  ∀ H' p (ms : List Str), SameX a H H' → BoxAt H' a (n + 1) → p ≠ a → H' p = some (.lst (ms.map V.str)) → 1 ≤ ms.length → ms.length ≤ 12 → (∀ x, x ∈ ms → NameOk x) → Q (.ref p) H'
abbrev s_law_rule : Stmt := top 35
abbrev N_law_rule : List Str := ["_law_box_here", "_law_names_here", "_law_word", "_law_one", "_law_two", "_law_k"]
theorem sc_law_rule : FnScope N_law_rule ["_law_box_here", "_law_names_here"] (defScope s_law_rule) := ⟨rfl, rfl, rfl, by decide +kernel, rfl, by decide +kernel, by decide +kernel⟩
-- slots: 0 _law_box_here*, 1 _law_names_here*, 2 _law_word, 3 _law_one, 4 _law_two, 5 _law_k
def sp_law_rule : Sp := fun vs H Q _ => ∃ (a t : Addr) (n : Nat) (ns : List Str), vs = [.ref a, .ref t] ∧ BoxAt H a n ∧ n ≤ 2 ^ 39 ∧ H t = some (.lst (ns.map V.str)) ∧ t ≠ a ∧ 1 ≤ ns.length ∧ ns.length ≤ 12 ∧ (∀ x, x ∈ ns → NameOk x) ∧
  ∀ H' v (r : Ru), SameX a H H' → BoxAt H' a (n + 12) → RulV H' r v → RuleOk r → Q v H'
section
variable {P : Program} {w : World} {K : PySem.W.Frag} {mg : Str → Option Value} {base : Heap}
theorem ok_law_first_names {f : Addr} {fd : FuncData} (F : Fun K "_law_first_names" "_law_first_names" s_law_first_names f fd) (T : Top K mg) (C_law_take : Cal P w K mg base 1 "_law_take" ["_law_box_here", "_law_size"] sp_law_take) : FnOk P w K mg base CX0 2 f fd ["_law_box_here", "_law_names_here"] sp_law_first_names := by
  refine F.ok sc_law_first_names (fun vs H Q E h => ?_) (fun cdv A outer s H vs Q E hr h => ?_)
  · obtain ⟨a, t, n, ns, rfl, _⟩ := h
    rfl
  · obtain ⟨a, t, n, ns, rfl, hB, hn, ht, hne, hl, hl2, hok, k⟩ := h
    refine ⟨_, (pss_cons (ps_set (i := 2) sc_law_first_names.nd rfl (Or.inl rfl) (pe_cal C_law_take (hr.mono (by decide)) rfl (pa_cons (pv 0) (pa_cons pe_int pa_nil))))
      (pss_cons (ps_if (pt_cmpR op_gt (pv 2) pe_int (nomark _))
        (pss_one (ps_ret (pv 1)))
        pss_nil)
      (pss_cons (ps_set (i := 3) sc_law_first_names.nd rfl (Or.inr rfl) (pe_ix ix_list (pe_lst (pa_cons (pe_lst (pa_cons pe_str (pa_cons pe_str pa_nil))) (pa_cons (pe_lst (pa_cons pe_str (pa_cons pe_str pa_nil))) pa_nil))) (pv 2) (fun _ _ => rfl)))
      (pss_one (ps_ret (pe_op op_cat (pv 3) (pe_lc (own := [("_law_name", 4)]) (by rfl) sc_law_first_names.nd (pi_list (pe_slice sl_list (pv 1) (po_some pe_int) po_none)) (blkOk_by (own := [("_law_name", 4)]) (N := N_law_first_names) (sc := defScope s_law_first_names) (by decide +kernel)) (fun _ _ _ _ _ => (pg_name (i := 4) sc_law_first_names.nd rfl (Or.inl rfl))) (fun _ _ _ _ _ => (pts_one (pt_cmpR (r := rIn K true) op_notIn_seq (pv 4) (pv 3) (by rfl)))) (fun _ _ _ _ _ => (pv 4))))))))), ?_⟩
    refine ⟨_, rfl, a, n, 4, rfl, hB, by omega, by decide, by decide, fun H1 r s1 hB1 r1 r2 => ?_⟩
    have ht1 := s1 _ _ ht hne
    refine ⟨_, rfl, _, _, rfl, rfl, _, rfl, ite2 (fun c => ?_) (fun c => ?_)⟩
    · exact ⟨_, rfl, k H1 t ns s1 hB1 hne ht1 hl (by omega) hok⟩
    have c : ¬ r > 1 := fun z => c (decide_eq_true z)
    refine ⟨(by show 2 ≤ sizeLine; decide), fun p np => ⟨(by show 2 ≤ sizeLine; decide), fun q nq => ⟨(by show 2 ≤ sizeLine; decide), fun u nu => ⟨_, rfl, ?_⟩⟩⟩⟩
    -- the two lists
    have hp : (upd (upd (upd H1 p (.lst [.str "a", .str "b"])) q (.lst [.str "a", .str "c"])) u (.lst [.ref p, .ref q])) p = some (.lst [.str "a", .str "b"]) := sNew nu _ _ (sNew nq _ _ upd_same)
    have hq : (upd (upd (upd H1 p (.lst [.str "a", .str "b"])) q (.lst [.str "a", .str "c"])) u (.lst [.ref p, .ref q])) q = some (.lst [.str "a", .str "c"]) := sNew nu _ _ upd_same
    have s14 : Same H1 (upd (upd (upd H1 p (.lst [.str "a", .str "b"])) q (.lst [.str "a", .str "c"])) u (.lst [.ref p, .ref q])) := ((sNew np).trans (sNew nq)).trans (sNew nu)
    have hu : (upd (upd (upd H1 p (.lst [.str "a", .str "b"])) q (.lst [.str "a", .str "c"])) u (.lst [.ref p, .ref q])) u = some (.lst [.ref p, .ref q]) := upd_same
    revert hp hq s14 hu
    generalize (upd (upd (upd H1 p (.lst [.str "a", .str "b"])) q (.lst [.str "a", .str "c"])) u (.lst [.ref p, .ref q])) = H2
    intro hp hq s12 hu
    have hpick : ∃ some_ ms, atI [V.ref p, V.ref q] r = some (.ref some_) ∧ H2 some_ = some (.lst (List.map V.str ms)) ∧ ms.length = 2 ∧ ∀ x, x ∈ ms → NameOk x := by
      obtain ⟨j, rfl⟩ : ∃ j : Nat, r = (j : Int) := ⟨r.toNat, by omega⟩
      have hj : j = 0 ∨ j = 1 := by omega
      rcases hj with rfl | rfl
      · refine ⟨p, ["a", "b"], rfl, hp, rfl, fun x hx => ?_⟩
        rcases List.mem_cons.mp hx with rfl | hx
        · exact ok_a
        · rw [List.mem_singleton.mp hx]; exact ok_b
      · refine ⟨q, ["a", "c"], rfl, hq, rfl, fun x hx => ?_⟩
        rcases List.mem_cons.mp hx with rfl | hx
        · exact ok_a
        · rw [List.mem_singleton.mp hx]; exact ok_c
    obtain ⟨z, ms, hz, hzH, hms, gms⟩ := hpick
    refine ⟨u, _, _, _, rfl, rfl, SqL.of hu, hz, ?_⟩
    have hB2 := hB1.same s12
    have ht2 := s12 _ _ ht1
    refine ⟨_, rfl, _, rfl, _, rfl, t, _, rfl, SqL.of ht2, fun c nc => ⟨c, rfl, ⟨_, SqL.of upd_same⟩, fun D nD => ?_⟩⟩
    have s23 : Same H2 (upd H2 c (.lst (cutV (ns.map V.str) (some 2) none))) := sNew nc
    have hcut : cutV (ns.map V.str) (some 2) none = (cutL ns).map V.str := cutV_strs ns
    have hcl : (cutL ns).length ≤ ns.length := cutL_le ns
    have hcm : ∀ x, x ∈ cutL ns → NameOk x := fun x hx => hok x (cutL_mem hx)
    have hc3 : (upd H2 c (.lst (cutV (ns.map V.str) (some 2) none))) c = some (.lst ((cutL ns).map V.str)) := by rw [upd_same, hcut]
    revert s23 hc3 nD
    generalize upd H2 c (.lst (cutV (ns.map V.str) (some 2) none)) = H3
    intro nD s23 hc3
    refine lc_list (K := K) (a := c) (xs := (cutL ns).map V.str) (fun i H => Same H3 H ∧ ∃ ys : List Str, H D = some (.lst (ys.map V.str)) ∧ ys.length ≤ i ∧ ∀ x, x ∈ ys → NameOk x) ⟨sNew nD, [], upd_same, Nat.le_refl _, fun x hx => by cases hx⟩ (fun i H _ p => SqL.of (p.1 _ _ hc3)) (fun i x H hx p => ⟨rfl, ?_⟩) (fun H p => ?_)
    · obtain ⟨s3, ys, hD, hyl, gy⟩ := p
      rw [List.getElem?_map] at hx
      obtain ⟨y, hy, rfl⟩ := Option.map_eq_some_iff.mp hx
      refine ⟨_, rfl, _, rfl, z, _, rfl, .inl (SqL.of (s3 _ _ (s23 _ _ hzH))), rfl, flat_strs _, _, rfl, ite2 (fun d => ?_) (fun d => ?_)⟩
      · have hi : i < (cutL ns).length := (List.getElem?_eq_some_iff.mp hy).1
        have h100 : (100 : Nat) ≤ sizeLine := by decide
        refine ⟨_, rfl, _, hD, by rw [List.length_map]; omega, fun b o e => ?_, ys ++ [y], by rw [upd_same, List.map_append]; rfl, by rw [List.length_append, List.length_singleton]; omega, fun x hx => ?_⟩
        · rw [upd_ne (ne_of_none e nD)]
          exact s3 _ _ e
        · rcases List.mem_append.mp hx with hx | hx
          · exact gy x hx
          · rw [List.mem_singleton.mp hx]; exact hcm y (List.mem_of_getElem? hy)
      · exact ⟨s3, ys, hD, by omega, gy⟩
    · obtain ⟨s3, ys, hD, hyl, gy⟩ := p
      rw [List.length_map] at hyl
      have h100 : (100 : Nat) ≤ sizeLine := by decide
      refine ⟨z, D, _, _, rfl, rfl, s3 _ _ (s23 _ _ hzH), hD, by rw [List.length_map, List.length_map]; omega, fun v nv => ?_⟩
      have sAll : Same H2 (upd H v (.lst (ms.map V.str ++ ys.map V.str))) := (s23.trans s3).trans (sNew nv)
      refine k _ v (ms ++ ys) (s1.trans (xOf (s12.trans sAll))) (hB2.same sAll) ((hB2.same (s23.trans s3)).ne nv).symm (by rw [upd_same, List.map_append]) (by rw [List.length_append]; omega) (by rw [List.length_append]; omega) fun x hx => ?_
      rcases List.mem_append.mp hx with hx | hx
      · exact gms x hx
      · exact gy x hx
theorem ok_law_rule {f : Addr} {fd : FuncData} (F : Fun K "_law_rule" "_law_rule" s_law_rule f fd) (T : Top K mg) (C_law_take : Cal P w K mg base 1 "_law_take" ["_law_box_here", "_law_size"] sp_law_take) (C_law_pick : Cal P w K mg base 2 "_law_pick" ["_law_box_here", "_law_things"] sp_law_pick)
    (C_law_note : Cal P w K mg base 2 "_law_note" ["_law_box_here"] sp_law_note) : FnOk P w K mg base CX0 3 f fd ["_law_box_here", "_law_names_here"] sp_law_rule := by
  refine F.ok sc_law_rule (fun vs H Q E h => ?_) (fun cdv A outer s H vs Q E hr h => ?_)
  · obtain ⟨a, t, n, ns, rfl, _⟩ := h
    rfl
  · obtain ⟨a, t, n, ns, rfl, hB, hn, ht, hne, hl, hl2, hok, k⟩ := h
    refine ⟨_, (pss_cons (ps_set (i := 2) sc_law_rule.nd rfl (Or.inl rfl) (pe_cal C_law_pick (hr.mono (by decide)) rfl (pa_cons (pv 0) (pa_cons (pe_lst (pa_cons pe_str (pa_cons pe_str (pa_cons pe_str (pa_cons pe_str (pa_cons pe_str (pa_cons pe_str (pa_cons pe_str (pa_cons pe_str pa_nil))))))))) pa_nil))))
      (pss_cons (ps_par (i := 3) (j := 4) (by rfl) sc_law_rule.nd rfl rfl (by decide) rfl rfl (pa_cons (pe_cal C_law_pick (hr.mono (by decide)) rfl (pa_cons (pv 0) (pa_cons (pv 1) pa_nil))) (pa_cons (pe_cal C_law_pick (hr.mono (by decide)) rfl (pa_cons (pv 0) (pa_cons (pv 1) pa_nil))) pa_nil)) (by rfl))
      (pss_cons (ps_if (pt_cmpR op_eq (pv 2) pe_str (nomark _))
        (pss_one (ps_ret (pe_tup (pa_cons (pv 2) (pa_cons (pv 3) pa_nil)))))
        pss_nil)
      (pss_cons (ps_if (pt_cmpR op_eq (pv 2) pe_str (nomark _))
        (pss_one (ps_ret (pe_tup (pa_cons (pv 2) (pa_cons (pe_callTy call_tuple_of (by rfl) T.tuple (by decide +kernel) (pa_cons (pe_callB (Ss.cr_sortedGS rfl) (by rfl) T.sorted (by decide +kernel) (pa_cons (pe_callTy (Ss.cr_setG rfl) (by rfl) T.set (by decide +kernel) (pa_cons (pe_lc (own := [("_law_k", 5)]) (by rfl) sc_law_rule.nd (pi_range1 (by rfl) T.range (pa_cons (pe_op op_add pe_int (pe_cal C_law_take (hr.mono (by decide)) rfl (pa_cons (pv 0) (pa_cons pe_int pa_nil)))) pa_nil)) (blkOk_by (own := [("_law_k", 5)]) (N := N_law_rule) (sc := defScope s_law_rule) (by decide +kernel)) (fun _ _ _ _ _ => (pg_name (i := 5) sc_law_rule.nd rfl (Or.inl rfl))) (fun _ _ _ _ _ => pts_nil) (fun _ _ _ _ _ => (pe_cal C_law_pick (hr.mono (by decide)) rfl (pa_cons (pv 0) (pa_cons (pv 1) pa_nil))))) pa_nil)) pa_nil)) pa_nil)) pa_nil)))))
        pss_nil)
      (pss_cons (ps_if (pt_cmpR op_eq (pv 2) pe_str (nomark _))
        (pss_one (ps_ret (pe_tup (pa_cons (pv 2) (pa_cons (pv 3) (pa_cons (pe_callTy call_tuple_of (by rfl) T.tuple (by decide +kernel) (pa_cons (pe_callB (Ss.cr_sortedG rfl) (by rfl) T.sorted (by decide +kernel) (pa_cons (pe_callTy (Ss.cr_setG rfl) (by rfl) T.set (by decide +kernel) (pa_cons (pe_lc (own := [("_law_k", 5)]) (by rfl) sc_law_rule.nd (pi_range1 (by rfl) T.range (pa_cons (pe_op op_add pe_int (pe_cal C_law_take (hr.mono (by decide)) rfl (pa_cons (pv 0) (pa_cons pe_int pa_nil)))) pa_nil)) (blkOk_by (own := [("_law_k", 5)]) (N := N_law_rule) (sc := defScope s_law_rule) (by decide +kernel)) (fun _ _ _ _ _ => (pg_name (i := 5) sc_law_rule.nd rfl (Or.inl rfl))) (fun _ _ _ _ _ => pts_nil) (fun _ _ _ _ _ => (pe_cal C_law_note (hr.mono (by decide)) rfl (pa_cons (pv 0) pa_nil)))) pa_nil)) pa_nil)) pa_nil)) pa_nil))))))
        pss_nil)
      (pss_one (ps_ret (pe_ifExp (pt_cmpR op_eq (pv 2) pe_str (nomark _)) (pe_tup (pa_cons (pv 2) (pa_cons (pv 3) (pa_cons (pe_cal C_law_take (hr.mono (by decide)) rfl (pa_cons (pv 0) (pa_cons pe_int pa_nil))) pa_nil)))) (pe_tup (pa_cons (pv 2) (pa_cons (pv 3) (pa_cons (pv 4) pa_nil)))))))))))), ?_⟩
    have h100 : (100 : Nat) ≤ sizeLine := by decide
    refine ⟨_, rfl, (by show 8 ≤ sizeLine; decide), fun p np => ⟨a, p, n, _, rfl, hB.same (sNew np), by omega, upd_same, (hB.ne np).symm, (by show 0 < 8; decide), (by show 8 < 1000; decide), fun H1 v s1 hB1 hv => ?_⟩⟩
    have s01 : SameX a H H1 := SameX.trans (xOf (sNew np)) s1
    have ht1 := s01 _ _ ht hne
    refine ⟨_, rfl, _, rfl, a, t, n + 1, _, rfl, hB1, by omega, ht1, hne, by rw [List.length_map]; omega, by rw [List.length_map]; omega, fun H2 v1 s2 hB2 hv1 => ?_⟩
    have ht2 := s2 _ _ ht1 hne
    refine ⟨_, rfl, _, rfl, a, t, n + 1 + 1, _, rfl, hB2, by omega, ht2, hne, by rw [List.length_map]; omega, by rw [List.length_map]; omega, fun H3 v2 s3 hB3 hv2 => ?_⟩
    have ht3 := s3 _ _ ht2 hne
    have s03 : SameX a H H3 := s01.trans (s2.trans s3)
    obtain ⟨x1, hx1, rfl⟩ := List.mem_map.mp hv1
    obtain ⟨x2, hx2, rfl⟩ := List.mem_map.mp hv2
    have o1 := hok x1 hx1
    have o2 := hok x2 hx2
    refine ⟨_, _, rfl, ?_⟩
    have hw : v = .str "must" ∨ v = .str "only" ∨ v = .str "note" ∨ v = .str "ahead" ∨ v = .str "never" ∨ v = .str "most" ∨ v = .str "next" := by
      simp only [List.mem_cons, List.not_mem_nil, or_false] at hv
      rcases hv with h | h | h | h | h | h | h | h
      · exact .inl h
      · exact .inr (.inl h)
      · exact .inr (.inr (.inl h))
      · exact .inr (.inr (.inr (.inl h)))
      · exact .inr (.inr (.inr (.inr (.inl h))))
      · exact .inr (.inr (.inr (.inr (.inr (.inl h)))))
      · exact .inr (.inr (.inr (.inr (.inr (.inr h)))))
      · exact .inr (.inr (.inr (.inl h)))
    have three : ∀ (z : Str) (r : Ru), RuleOk r → (∀ H' u, H' u = some (.tup [.str z, .str x1, .str x2]) → RulV H' r (.ref u)) → ∀ u, H3 u = none → Q (.ref u) (upd H3 u (.tup [.str z, .str x1, .str x2])) := fun z r ro rv u nu =>
      k _ _ r (s03.trans (xOf (sNew nu))) ((hB3.same (sNew nu)).mono (by omega)) (rv _ u upd_same) ro
    rcases hw with rfl | rfl | rfl | rfl | rfl | rfl | rfl
    · refine ⟨_, rfl, rfl, _, rfl, eqT ⟨_, rfl, _, rfl, (by show 2 ≤ sizeLine; decide), fun u nu => ?_⟩⟩
      exact k _ _ (.must x1) (s03.trans (xOf (sNew nu))) ((hB3.same (sNew nu)).mono (by omega)) ⟨u, rfl, upd_same⟩ o1
    · refine ⟨_, rfl, rfl, _, rfl, eqF (strNe (by decide +kernel)) ⟨_, rfl, rfl, _, rfl, eqT ⟨_, rfl, ?_⟩⟩⟩
      refine ⟨_, rfl, a, n + 1 + 1 + 1, 4, rfl, hB3, by omega, by decide, by decide, fun H4 r s4 hB4 r1 r2 => ⟨_, _, rfl, rfl, _, rfl, by omega, by omega, fun D nD => ?_⟩⟩
      have ht4 := s4 _ _ ht3 hne
      have s04 := s03.trans s4
      refine lc_range (lo := 0) (n := (1 + r).toNat) (BMade (fun v => ∃ x : Str, v = .str x ∧ NameOk x) H4 a D (n + 1 + 1 + 1 + 1) 1) (bmade0 hB4 nD) (fun i H5 hi p5 => ⟨rfl, ?_⟩) (fun H5 p5 => ?_)
      · refine ⟨_, rfl, _, rfl, a, t, _, _, rfl, p5.2.1, by omega, p5.1 _ _ ht4 hne, hne, by rw [List.length_map]; omega, by rw [List.length_map]; omega, fun H6 v s6 hB6 hv => ?_⟩
        obtain ⟨x, hx, rfl⟩ := List.mem_map.mp hv
        exact bmade_step hB4 nD (by omega) p5 s6 (by rw [Nat.mul_add]; exact hB6) ⟨x, rfl, hok x hx⟩
      · obtain ⟨s5, hB5, acc, hD, hl5, g5⟩ := p5
        obtain ⟨ys, rfl, gy⟩ := strs_of g5
        rw [List.length_map] at hl5
        refine ⟨D, ys.map Sum.inr, rfl, SqL.of (by rw [hD, List.map_map]; rfl), by rw [List.length_map]; omega, fun p1 n1 => ?_⟩
        refine ⟨p1, ys, rfl, upd_same, by omega, fun p2 zs n2 so nd mem => ?_⟩
        refine ⟨p2, _, rfl, .inl ⟨SqL.of upd_same, fun p3 n3 => ⟨(by show 2 ≤ sizeLine; decide), fun p4 n4 => ?_⟩⟩⟩
        have sA := ((sNew (o := Ss.SetGO w p1 (ys.map Sum.inr)) n1).trans (sNew (o := .lst (zs.map V.str)) n2)).trans ((sNew (o := .tup (zs.map V.str)) n3).trans (sNew (o := .tup [.str "only", .ref p3]) n4))
        refine k _ _ (.only zs) ((s04.trans s5).trans (xOf sA)) ((hB5.same sA).mono (by omega)) ⟨p4, rfl, p3, upd_same, sNew n4 _ _ upd_same⟩ ⟨?_, fun x hx => gy x ((mem x).mp hx)⟩
        have := Bf.length_le_of_nodup nd fun x hx => (mem x).mp hx
        omega
    · refine ⟨_, rfl, rfl, _, rfl, eqF (strNe (by decide +kernel)) ⟨_, rfl, rfl, _, rfl, eqF (strNe (by decide +kernel)) ⟨_, rfl, rfl, _, rfl, eqT ⟨_, rfl, _, rfl, ?_⟩⟩⟩⟩
      refine ⟨_, rfl, a, n + 1 + 1 + 1, 4, rfl, hB3, by omega, by decide, by decide, fun H4 r s4 hB4 r1 r2 => ⟨_, _, rfl, rfl, _, rfl, by omega, by omega, fun D nD => ?_⟩⟩
      have s04 := s03.trans s4
      refine lc_range (lo := 0) (n := (1 + r).toNat) (BMade (fun v => ∃ x : Int, v = .int x ∧ 0 ≤ x ∧ x < 10000) H4 a D (n + 1 + 1 + 1 + 1) 2) (bmade0 hB4 nD) (fun i H5 hi p5 => ⟨rfl, ?_⟩) (fun H5 p5 => ?_)
      · refine ⟨_, rfl, a, _, rfl, p5.2.1, by omega, fun H6 v s6 hB6 v1 v2 => ?_⟩
        exact bmade_step hB4 nD (by omega) p5 s6 (by rw [Nat.mul_add]; exact hB6) ⟨v, rfl, v1, v2⟩
      · obtain ⟨s5, hB5, acc, hD, hl5, g5⟩ := p5
        obtain ⟨ys, rfl, gy⟩ := ints_of_acc g5
        rw [List.length_map] at hl5
        refine ⟨D, ys.map Sum.inl, rfl, SqL.of (by rw [hD, List.map_map]; rfl), by rw [List.length_map]; omega, fun p1 n1 => ?_⟩
        refine ⟨p1, ys, rfl, upd_same, by omega, fun p2 zs n2 so mem => ?_⟩
        refine ⟨p2, _, rfl, .inl ⟨SqL.of upd_same, fun p3 n3 => ⟨(by show 3 ≤ sizeLine; decide), fun p4 n4 => ?_⟩⟩⟩
        have sA := ((sNew (o := Ss.SetGO w p1 (ys.map Sum.inl)) n1).trans (sNew (o := .lst (zs.map V.int)) n2)).trans ((sNew (o := .tup (zs.map V.int)) n3).trans (sNew (o := .tup [.str "note", .str x1, .ref p3]) n4))
        refine k _ _ (.note x1 zs) ((s04.trans s5).trans (xOf sA)) ((hB5.same sA).mono (by omega)) ⟨p4, rfl, p3, upd_same, sNew n4 _ _ upd_same⟩ ⟨o1, ?_, fun x hx => gy x ((mem x).mp hx)⟩
        have nd : zs.Nodup := so.imp fun h => Int.ne_of_lt h
        have := Bf.length_le_of_nodup nd fun x hx => (mem x).mp hx
        omega
    · refine ⟨_, rfl, rfl, _, rfl, eqF (strNe (by decide +kernel)) ⟨_, rfl, rfl, _, rfl, eqF (strNe (by decide +kernel)) ⟨_, rfl, rfl, _, rfl, eqF (strNe (by decide +kernel)) ⟨_, rfl, rfl, _, rfl, eqF (strNe (by decide +kernel)) ⟨_, rfl, _, rfl, _, rfl, (by show 3 ≤ sizeLine; decide), three _ (.ahead x1 x2) ⟨o1, o2⟩ fun _ u e => ⟨u, rfl, e⟩⟩⟩⟩⟩⟩
    · refine ⟨_, rfl, rfl, _, rfl, eqF (strNe (by decide +kernel)) ⟨_, rfl, rfl, _, rfl, eqF (strNe (by decide +kernel)) ⟨_, rfl, rfl, _, rfl, eqF (strNe (by decide +kernel)) ⟨_, rfl, rfl, _, rfl, eqF (strNe (by decide +kernel)) ⟨_, rfl, _, rfl, _, rfl, (by show 3 ≤ sizeLine; decide), three _ (.never x1 x2) ⟨o1, o2⟩ fun _ u e => ⟨u, rfl, e⟩⟩⟩⟩⟩⟩
    · refine ⟨_, rfl, rfl, _, rfl, eqF (strNe (by decide +kernel)) ⟨_, rfl, rfl, _, rfl, eqF (strNe (by decide +kernel)) ⟨_, rfl, rfl, _, rfl, eqF (strNe (by decide +kernel)) ⟨_, rfl, rfl, _, rfl, eqT ⟨_, rfl, _, rfl, ?_⟩⟩⟩⟩⟩
      refine ⟨_, rfl, a, n + 1 + 1 + 1, 4, rfl, hB3, by omega, by decide, by decide, fun H4 r s4 hB4 r1 r2 => ⟨(by show 3 ≤ sizeLine; decide), fun u nu => ?_⟩⟩
      obtain ⟨c, rfl⟩ : ∃ c : Nat, r = (c : Int) := ⟨r.toNat, by omega⟩
      exact k _ _ (.most x1 c) ((s03.trans s4).trans (xOf (sNew nu))) ((hB4.same (sNew nu)).mono (by omega)) ⟨u, rfl, upd_same⟩ ⟨o1, by omega⟩
    · refine ⟨_, rfl, rfl, _, rfl, eqF (strNe (by decide +kernel)) ⟨_, rfl, rfl, _, rfl, eqF (strNe (by decide +kernel)) ⟨_, rfl, rfl, _, rfl, eqF (strNe (by decide +kernel)) ⟨_, rfl, rfl, _, rfl, eqF (strNe (by decide +kernel)) ⟨_, rfl, _, rfl, _, rfl, (by show 3 ≤ sizeLine; decide), three _ (.next x1 x2) ⟨o1, o2⟩ fun _ u e => ⟨u, rfl, e⟩⟩⟩⟩⟩⟩
end
end Sk
set_option Elab.async false
set_option linter.all false
set_option maxRecDepth 100000
namespace Sk
open PySem PySem.Spec PyProof.Rows L2 Sl Bf Zs Sr Dc2 Nd
abbrev s_law_few_rules : Stmt := top 42
abbrev N_law_few_rules : List Str := ["_law_box_here", "_law_names_here", "_law_count", "_law_cap", "_law_found", "_law_turn", "_law_rule_here"]
theorem sc_law_few_rules : FnScope N_law_few_rules ["_law_box_here", "_law_names_here", "_law_count", "_law_cap"] (defScope s_law_few_rules) := ⟨rfl, rfl, rfl, by decide +kernel, rfl, by decide +kernel, by decide +kernel⟩
-- slots: 0 _law_box_here, 1 _law_names_here, 2 _law_count, 3 _law_cap, 4 _law_found, 5 _law_turn, 6 _law_rule_here
/-- rules of the law's kind, in a list of one's own -/
def RulesAt (H : Hp) (p : Addr) (A : List Ru) : Prop := ∃ vs, H p = some (.lst vs) ∧ Paired (RulV H) A vs
theorem RulesAt.pol {H : Hp} {p : Addr} {A : List Ru} (h : RulesAt H p A) : PolV H true A p := h
def sp_law_few_rules : Sp := fun vs H Q _ => ∃ (a t : Addr) (n c m : Nat) (ns : List Str), vs = [.ref a, .ref t, .int (c : Int), .int (m : Int)] ∧ BoxAt H a n ∧ n ≤ 2 ^ 38 ∧ H t = some (.lst (ns.map V.str)) ∧ t ≠ a ∧ 1 ≤ ns.length ∧ ns.length ≤ 12 ∧ (∀ x, x ∈ ns → NameOk x) ∧ c ≤ 3 ∧ m ≤ 3 ∧
  ∀ H' p (A : List Ru), SameX a H H' → BoxAt H' a (n + 50) → H p = none → RulesAt H' p A → A.length ≤ c → (∀ r, r ∈ A → RuleOk r) → Q (.ref p) H'
section
variable {P : Program} {w : World} {K : PySem.W.Frag} {mg : Str → Option Value} {base : Heap}
theorem ok_law_few_rules {f : Addr} {fd : FuncData} (F : Fun K "_law_few_rules" "_law_few_rules" s_law_few_rules f fd) (T : Top K mg) (C_law_take : Cal P w K mg base 1 "_law_take" ["_law_box_here", "_law_size"] sp_law_take)
    (C_law_rule : Cal P w K mg base 3 "_law_rule" ["_law_box_here", "_law_names_here"] sp_law_rule) : FnOk P w K mg base CX0 4 f fd ["_law_box_here", "_law_names_here", "_law_count", "_law_cap"] sp_law_few_rules := by
  refine F.ok sc_law_few_rules (fun vs H Q E h => ?_) (fun cdv A outer s H vs Q E hr h => ?_)
  · obtain ⟨a, t, n, c, m, ns, rfl, _⟩ := h
    rfl
  · obtain ⟨a, t, n, c, m, ns, rfl, hB, hn, ht, hne, hl, hl2, hok, hc, hm, k⟩ := h
    refine ⟨_, (pss_cons (ps_set (i := 4) sc_law_few_rules.nd rfl (Or.inl rfl) (pe_lst pa_nil))
      (pss_cons (ps_for PassesOwn.never rfl (pi_range1 (by rfl) T.range (pa_cons (pe_cal C_law_take (hr.mono (by decide)) rfl (pa_cons (pv 0) (pa_cons (pe_op op_add (pv 2) pe_int) pa_nil))) pa_nil)) (pg_name (i := 5) sc_law_few_rules.nd rfl (Or.inl rfl))
        (pss_cons (ps_set (i := 6) sc_law_few_rules.nd rfl (Or.inl rfl) (pe_cal C_law_rule (hr.mono (by decide)) rfl (pa_cons (pv 0) (pa_cons (pv 1) pa_nil))))
        (pss_one (ps_expr (pe_bm PySem.F.plainAttrs_list PySem.F.slot_list_append PySem.F.type_list_append mt_append (pv 4) (pa_cons (pe_ifExp (pt_cmpR op_eq (pe_ix ix_tup (pv 6) pe_int (fun _ _ => rfl)) pe_str (nomark _)) (pe_tup (pa_cons (pe_ix ix_tup (pv 6) pe_int (fun _ _ => rfl)) (pa_cons (pe_ix ix_tup (pv 6) pe_int (fun _ _ => rfl)) (pa_cons (pe_op op_mod (pe_ix ix_tup (pv 6) pe_int (fun _ _ => rfl)) (pe_op op_add (pv 3) pe_int)) pa_nil)))) (pv 6)) pa_nil))))))
      (pss_one (ps_ret (pv 4))))), ?_⟩
    have h100 : (100 : Nat) ≤ sizeLine := by decide
    refine ⟨Nat.zero_le _, fun p np => ?_⟩
    have hB1 := hB.same (sNew (o := .lst []) np)
    refine ⟨_, rfl, _, rfl, _, _, rfl, rfl, a, n, (c : Int) + 1, rfl, hB1, by omega, by omega, by omega, fun H1 r s1 hB2 r1 r2 => ⟨_, rfl, by omega, by omega, ?_⟩⟩
    have s01 : SameX a H H1 := SameX.trans (xOf (sNew np)) s1
    have hp1 : H1 p = some (.lst []) := s1 _ _ upd_same (hB.ne np).symm
    refine for_range (lo := 0) (n := r.toNat) (fun i σ H2 => ∃ x5 x6, σ = [some (.ref a), some (.ref t), some (.int (c : Int)), some (.int (m : Int)), some (.ref p), x5, x6] ∧ SameX a H H2 ∧ BoxAt H2 a (n + 1 + 12 * i) ∧ ∃ (B : List Ru) (vs : List V), H2 p = some (.lst vs) ∧ Paired (RulV H2) B vs ∧ B.length = i ∧ ∀ r, r ∈ B → RuleOk r)
      ⟨_, _, rfl, s01, hB2, [], [], hp1, .nil, rfl, fun r h => by cases h⟩ (fun i σ H2 hi p2 => ?_) (fun σ H2 p2 => ?_)
    · obtain ⟨x5, x6, rfl, s2, hB3, B, vs, hp2, hpr, hbl, hbo⟩ := p2
      refine ⟨_, rfl, _, rfl, a, t, n + 1 + 12 * i, ns, rfl, hB3, by omega, s2 _ _ ht hne, hne, hl, hl2, hok, fun H3 v q s3 hB4 hv hq => ?_⟩
      have hpa : p ≠ a := (hB.ne np).symm
      have hp3 := s3 _ _ hp2 hpa
      have hlen : vs.length < sizeLine := by rw [← hpr.length, hbl]; omega
      have hpr3 := rulesSame hpr (hB3.t s3)
      -- what an appended rule gives
      have done : ∀ (H4 : Hp) (q' : Ru) (u : V), Same H3 H4 → RulV H4 q' u → RuleOk q' → ∀ (x5 x6 : Option V), (fun σ H2 => ∃ x5 x6, σ = [some (.ref a), some (.ref t), some (.int (c : Int)), some (.int (m : Int)), some (.ref p), x5, x6] ∧ SameX a H H2 ∧ BoxAt H2 a (n + 1 + 12 * (i + 1)) ∧ ∃ (B : List Ru) (vs : List V), H2 p = some (.lst vs) ∧ Paired (RulV H2) B vs ∧ B.length = i + 1 ∧ ∀ r, r ∈ B → RuleOk r)
          [some (.ref a), some (.ref t), some (.int (c : Int)), some (.int (m : Int)), some (.ref p), x5, x6] (upd H4 p (.lst (vs ++ [u]))) := fun H4 q' u s4 hu hq' x5 x6 => by
        have st : SameT H4 (upd H4 p (.lst (vs ++ [u]))) := tLst (s4 _ _ hp3)
        refine ⟨x5, x6, rfl, fun b o e nb => ?_, ?_, B ++ [q'], vs ++ [u], upd_same, paired_app (rulesSame hpr3 ((tOf s4).trans st)) (.cons (hu.same st) .nil), by rw [List.length_append, List.length_singleton, hbl], fun r h => ?_⟩
        · rw [upd_ne (ne_of_none e np)]
          exact s4 _ _ (s3 _ _ (s2 _ _ e nb) nb)
        · obtain ⟨x, y, z, e, r⟩ := (hB4.same s4).mono (show n + 1 + 12 * i + 12 ≤ n + 1 + 12 * (i + 1) by omega)
          exact ⟨x, y, z, by rw [upd_ne hpa.symm]; exact e, r⟩
        · rcases List.mem_append.mp h with h | h
          · exact hbo r h
          · rw [List.mem_singleton.mp h]; exact hq'
      have hv0 := hv
      obtain ⟨z, rest, rfl, hz⟩ := hv.head
      refine ⟨_, rfl, .inl ⟨rfl, _, SqL.of hp3⟩, ?_⟩
      refine ⟨_, rfl, z, _, ((0 : Nat) : Int), _, rfl, rfl, SqT.of hz, atI_nat (j := 0) rfl, rfl, _, rfl, ?_⟩
      by_cases hmost : ∃ x j, q = .most x j
      · obtain ⟨x, j, rfl⟩ := hmost
        obtain ⟨z', ez, hzz⟩ := hv0
        cases ez
        refine eqT ⟨_, rfl, z, _, _, _, rfl, rfl, SqT.of hzz, rfl, _, rfl, z, _, _, _, rfl, rfl, SqT.of hzz, rfl, _, rfl, z, _, _, _, rfl, rfl, SqT.of hzz, rfl, _, rfl, _, _, rfl, rfl, _, _, rfl, rfl, (by show (0 : Int) < (m : Int) + 1; omega), (by show 3 ≤ sizeLine; decide), fun u nu => ?_⟩
        refine ⟨p, vs, _, rfl, rfl, sNew nu _ _ hp3, hlen, ?_⟩
        have e : ((j : Int) % ((m : Int) + 1)) = ((j % (m + 1) : Nat) : Int) := by rw [Int.natCast_emod]; rfl
        refine done _ (.most x (j % (m + 1))) (.ref u) (sNew nu) ⟨u, rfl, ?_⟩ ⟨hq.1, Nat.le_trans (Nat.mod_le _ _) hq.2⟩ _ _
        rw [upd_same]
        show some (HO.tup [V.str "most", V.str x, V.int ((j : Int) % ((m : Int) + 1))]) = _
        rw [e]
      · refine eqF (strNe ?_) ⟨_, rfl, p, vs, _, rfl, rfl, hp3, hlen, done _ q _ (Same.refl _) hv0 hq _ _⟩
        cases q with
        | most x j => exact absurd ⟨x, j, rfl⟩ hmost
        | _ => dsimp only [wordR]; decide +kernel
    · obtain ⟨x5, x6, rfl, s2, hB3, B, vs, hp2, hpr, hbl, hbo⟩ := p2
      exact ⟨_, rfl, k H2 p B s2 (hB3.mono (by omega)) np ⟨vs, hp2, hpr⟩ (by omega) hbo⟩
end
end Sk
set_option Elab.async false
set_option linter.all false
set_option maxRecDepth 100000
namespace Sk
open PySem PySem.Spec PyProof.Rows L2 Sl Bf Zs Sr Dc2 Nd
/-! ### rules and rows as data -/
def datR : Ru → PyData
  | .must n => .tuple [.str "must", .str n]
  | .only ns => .tuple [.str "only", .tuple (ns.map PyData.str)]
  | .note n ks => .tuple [.str "note", .str n, .tuple (ks.map PyData.int)]
  | .ahead a b => .tuple [.str "ahead", .str a, .str b]
  | .never a b => .tuple [.str "never", .str a, .str b]
  | .most n k => .tuple [.str "most", .str n, .int (k : Int)]
  | .next a b => .tuple [.str "next", .str a, .str b]
def datL (l : Le) : PyData := .tuple [.int 0, .str "load", .str l.1, .int l.2]
section
variable {K : PySem.W.Frag} {H : Hp}
theorem dp_strs : ∀ ns : List Str, DpAll K H (ns.map V.str) (ns.map PyData.str)
  | [] => .nil
  | n :: ns => .cons (.str n) (dp_strs ns)
theorem dp_ints : ∀ ns : List Int, DpAll K H (ns.map V.int) (ns.map PyData.int)
  | [] => .nil
  | n :: ns => .cons (.int n) (dp_ints ns)
theorem RulV.dp {r : Ru} {v : V} (h : RulV H r v) : Dp K H v (datR r) := by
  obtain ⟨p, rfl, h⟩ := h
  cases r with
  | must n => exact .tup (SqT.of h) (.cons (.str _) (.cons (.str _) .nil))
  | only ns => obtain ⟨t, h1, h2⟩ := h; exact .tup (SqT.of h1) (.cons (.str _) (.cons (.tup (SqT.of h2) (dp_strs ns)) .nil))
  | note n ks => obtain ⟨t, h1, h2⟩ := h; exact .tup (SqT.of h1) (.cons (.str _) (.cons (.str _) (.cons (.tup (SqT.of h2) (dp_ints ks)) .nil)))
  | ahead a b => exact .tup (SqT.of h) (.cons (.str _) (.cons (.str _) (.cons (.str _) .nil)))
  | never a b => exact .tup (SqT.of h) (.cons (.str _) (.cons (.str _) (.cons (.str _) .nil)))
  | most n k => exact .tup (SqT.of h) (.cons (.str _) (.cons (.str _) (.cons (.int _) .nil)))
  | next a b => exact .tup (SqT.of h) (.cons (.str _) (.cons (.str _) (.cons (.str _) .nil)))
theorem RowV.dp {l : Le} {v : V} (h : RowV H l v) : Dp K H v (datL l) := by
  obtain ⟨p, rfl, h⟩ := h
  exact .tup (SqT.of h) (.cons (.int _) (.cons (.str _) (.cons (.str _) (.cons (.int _) .nil))))
theorem dp_rules : ∀ {A : List Ru} {vs : List V}, Paired (RulV H) A vs → DpAll K H vs (A.map datR)
  | _, _, .nil => .nil
  | _, _, .cons r t => .cons r.dp (dp_rules t)
theorem dp_rows : ∀ {A : List Le} {vs : List V}, Paired (RowV H) A vs → DpAll K H vs (A.map datL)
  | _, _, .nil => .nil
  | _, _, .cons r t => .cons r.dp (dp_rows t)
end
theorem canAll : ∀ {ds : List PyData}, (∀ d, d ∈ ds → d.canLay0 = true) → PyData.canLayAll0 ds = true
  | [], _ => by simp only [PyData.canLayAll0]
  | d :: ds, h => by
    rw [PyData.canLayAll0, h d (List.mem_cons_self ..), canAll fun e he => h e (List.mem_cons_of_mem _ he)]
    rfl
theorem depAll {n : Nat} : ∀ {ds : List PyData}, (∀ d, d ∈ ds → d.depth ≤ n) → PyData.depthAll ds ≤ n
  | [], _ => by simp only [PyData.depthAll]; exact Nat.zero_le _
  | d :: ds, h => by
    rw [PyData.depthAll]
    exact Nat.max_le.mpr ⟨h d (List.mem_cons_self ..), depAll fun e he => h e (List.mem_cons_of_mem _ he)⟩
theorem shoAll : ∀ {ds : List PyData}, (∀ d, d ∈ ds → d.showable = true) → PyData.showableAll ds = true
  | [], _ => by simp only [PyData.showableAll]
  | d :: ds, h => by
    rw [PyData.showableAll, h d (List.mem_cons_self ..), shoAll fun e he => h e (List.mem_cons_of_mem _ he)]
    rfl
theorem lenAll {b : Nat} : ∀ {ds : List PyData}, (∀ d, d ∈ ds → d.shown.length ≤ b) → ((PyData.shownAll ds).map (·.length)).sum + 2 * (PyData.shownAll ds).length ≤ ds.length * (b + 2)
  | [], _ => by simp only [PyData.shownAll]; exact Nat.zero_le _
  | d :: ds, h => by
    have h1 := h d (List.mem_cons_self ..)
    have h2 := lenAll fun e he => h e (List.mem_cons_of_mem _ he)
    have e : (d :: ds).length * (b + 2) = ds.length * (b + 2) + (b + 2) := by rw [List.length_cons, Nat.succ_mul]
    rw [PyData.shownAll, List.map_cons, List.sum_cons, List.length_cons, e]
    omega
/-- a part of a rule: what is asked of it -/
structure DOk (n b : Nat) (d : PyData) : Prop where
  can : d.canLay0 = true
  dep : d.depth ≤ n
  sho : d.showable = true
  len : d.shown.length ≤ b
theorem DOk.mono {n b m c : Nat} {d : PyData} (h : DOk n b d) (h1 : n ≤ m) (h2 : b ≤ c) : DOk m c d := ⟨h.can, Nat.le_trans h.dep h1, h.sho, Nat.le_trans h.len h2⟩
theorem dok_tup {n b k : Nat} {ds : List PyData} (h : ∀ d, d ∈ ds → DOk n b d) (hk : ds.length ≤ k) : DOk (n + 1) (k * (b + 2) + 3) (.tuple ds) := by
  refine ⟨?_, ?_, ?_, ?_⟩
  · simp only [PyData.canLay0]; exact canAll fun d hd => (h d hd).can
  · simp only [PyData.depth]; exact Nat.succ_le_succ (depAll fun d hd => (h d hd).dep)
  · simp only [PyData.showable]; exact shoAll fun d hd => (h d hd).sho
  · simp only [PyData.shown]
    have h1 := tupleText_len_le (PyData.shownAll ds)
    have h2 := lenAll fun d hd => (h d hd).len
    have h3 : ds.length * (b + 2) ≤ k * (b + 2) := Nat.mul_le_mul_right _ hk
    omega
theorem dok_lst {n b k : Nat} {ds : List PyData} (h : ∀ d, d ∈ ds → DOk n b d) (hk : ds.length ≤ k) : DOk (n + 1) (k * (b + 2) + 3) (.list ds) := by
  refine ⟨?_, ?_, ?_, ?_⟩
  · simp only [PyData.canLay0]; exact canAll fun d hd => (h d hd).can
  · simp only [PyData.depth]; exact Nat.succ_le_succ (depAll fun d hd => (h d hd).dep)
  · simp only [PyData.showable]; exact shoAll fun d hd => (h d hd).sho
  · simp only [PyData.shown]
    have h1 := listText_len_le (PyData.shownAll ds)
    have h2 := lenAll fun d hd => (h d hd).len
    have h3 : ds.length * (b + 2) ≤ k * (b + 2) := Nat.mul_le_mul_right _ hk
    omega
theorem dok_str {x : Str} (h : NameOk x) : DOk 0 102 (.str x) := by
  refine ⟨?_, ?_, ?_, ?_⟩
  · simp only [PyData.canLay0]
    show x.cps.all (· < 0x110000) = true
    rw [Array.all_eq_true']
    intro c hc
    have := h.2 c (by simpa using hc)
    exact decide_eq_true (by omega)
  · simp only [PyData.depth]; exact Nat.le_refl _
  · simp only [PyData.showable]
  · simp only [PyData.shown]
    have h1 := StrLaws.reprText_len x fun c hc => Nat.lt_trans (h.2 c hc) (by decide)
    have h2 := h.1
    omega
theorem dok_int {i : Int} (h0 : 0 ≤ i) (h1 : i < 10000) : DOk 0 102 (.int i) := by
  refine ⟨?_, ?_, ?_, ?_⟩
  · simp only [PyData.canLay0]
  · simp only [PyData.depth]; exact Nat.le_refl _
  · simp only [PyData.showable]
    refine decide_eq_true ?_
    have h2 : i.natAbs < 2 ^ 1920 := Nat.lt_of_lt_of_le (show i.natAbs < 2 ^ 14 by omega) (Nat.pow_le_pow_right (by decide) (by decide))
    by_cases z : i.natAbs = 0
    · rw [z]; decide
    · exact (Nat.log2_lt z).mpr h2
  · simp only [PyData.shown]
    exact Nat.le_trans (PyProof.Rows.toString_length_le (k := 4) h0 (by decide) (by omega)) (by decide)
theorem word_ok {x : Str} (h : x.length ≤ 10 ∧ ∀ c, c ∈ x.cps.toList → c < 256) : DOk 1 419 (.str x) := (dok_str h).mono (by decide) (by decide)
theorem dok_rule {r : Ru} (h : RuleOk r) : DOk 2 1266 (datR r) := by
  have s : ∀ {x : Str}, NameOk x → DOk 1 419 (.str x) := fun h => word_ok h
  have two : ∀ {w a b : Str}, NameOk w → NameOk a → NameOk b → DOk 2 1266 (.tuple [.str w, .str a, .str b]) := fun {w a b} h1 h2 h3 => by
    refine dok_tup (k := 3) (n := 1) (b := 419) (fun d hd => ?_) (Nat.le_refl _)
    simp only [List.mem_cons, List.not_mem_nil, or_false] at hd
    rcases hd with rfl | rfl | rfl
    · exact s h1
    · exact s h2
    · exact s h3
  cases r with
  | must n =>
    refine (dok_tup (k := 3) (n := 1) (b := 419) (ds := [.str "must", .str n]) (fun d hd => ?_) (lle rfl))
    simp only [List.mem_cons, List.not_mem_nil, or_false] at hd
    rcases hd with rfl | rfl
    · exact s ⟨by decide +kernel, by decide +kernel⟩
    · exact s h
  | only ns =>
    refine (dok_tup (k := 3) (n := 1) (b := 419) (ds := [.str "only", .tuple (ns.map PyData.str)]) (fun d hd => ?_) (lle rfl))
    simp only [List.mem_cons, List.not_mem_nil, or_false] at hd
    rcases hd with rfl | rfl
    · exact s ⟨by decide +kernel, by decide +kernel⟩
    · refine dok_tup (k := 4) (n := 0) (b := 102) (fun d hd => ?_) (by rw [List.length_map]; exact h.1)
      obtain ⟨x, hx, rfl⟩ := List.mem_map.mp hd
      exact dok_str (h.2 x hx)
  | note n ks =>
    refine (dok_tup (k := 3) (n := 1) (b := 419) (ds := [.str "note", .str n, .tuple (ks.map PyData.int)]) (fun d hd => ?_) (lle rfl))
    simp only [List.mem_cons, List.not_mem_nil, or_false] at hd
    rcases hd with rfl | rfl | rfl
    · exact s ⟨by decide +kernel, by decide +kernel⟩
    · exact s h.1
    · refine dok_tup (k := 4) (n := 0) (b := 102) (fun d hd => ?_) (by rw [List.length_map]; exact h.2.1)
      obtain ⟨x, hx, rfl⟩ := List.mem_map.mp hd
      exact dok_int (h.2.2 x hx).1 (h.2.2 x hx).2
  | ahead a b => exact two ⟨by decide +kernel, by decide +kernel⟩ h.1 h.2
  | never a b => exact two ⟨by decide +kernel, by decide +kernel⟩ h.1 h.2
  | most n k =>
    refine (dok_tup (k := 3) (n := 1) (b := 419) (ds := [.str "most", .str n, .int (k : Int)]) (fun d hd => ?_) (lle rfl))
    simp only [List.mem_cons, List.not_mem_nil, or_false] at hd
    rcases hd with rfl | rfl | rfl
    · exact s ⟨by decide +kernel, by decide +kernel⟩
    · exact s h.1
    · have := h.2
      exact (dok_int (by omega) (by omega)).mono (by decide) (by decide)
  | next a b => exact two ⟨by decide +kernel, by decide +kernel⟩ h.1 h.2
theorem dok_rules {A : List Ru} (h : ∀ r, r ∈ A → RuleOk r) (hl : A.length ≤ 3) : DOk 3 3807 (.list (A.map datR)) :=
  dok_lst (k := 3) (n := 2) (b := 1266) (fun d hd => by
    obtain ⟨r, hr, rfl⟩ := List.mem_map.mp hd
    exact dok_rule (h r hr)) (by rw [List.length_map]; exact hl)
theorem DOk.shaped {n b : Nat} {d : PyData} (h : DOk n b d) (hn : n ≤ 64) : SeqAt.shaped d = true := by
  show (d.canLay0 && decide (d.depth ≤ 64)) = true
  rw [h.can, decide_eq_true (Nat.le_trans h.dep hn)]
  rfl
end Sk
set_option Elab.async false
set_option linter.all false
set_option maxRecDepth 100000
namespace Sk
open PySem PySem.Spec PyProof.Rows L2 Sl Bf Zs Sr Dc2 Nd
theorem RulesAt.same {H H' : Hp} {p : Addr} {A : List Ru} (h : RulesAt H p A) (s : Same H H') : RulesAt H' p A := by
  obtain ⟨vs, h1, h2⟩ := h
  exact ⟨vs, s _ _ h1, rulesSame h2 (tOf s)⟩
theorem RulesAt.sameX {H H' : Hp} {a p : Addr} {n : Nat} {A : List Ru} (h : RulesAt H p A) (s : SameX a H H') (hB : BoxAt H a n) (hp : p ≠ a) : RulesAt H' p A := by
  obtain ⟨vs, h1, h2⟩ := h
  exact ⟨vs, s _ _ h1 hp, rulesSame h2 (hB.t s)⟩
theorem BoxAt.neL {H : Hp} {a p : Addr} {n : Nat} {A : List Ru} (h : BoxAt H a n) (q : RulesAt H p A) : a ≠ p := by
  obtain ⟨x, y, z, e, _⟩ := h
  obtain ⟨vs, e2, hp⟩ := q
  intro c
  subst c
  rw [e] at e2
  injection e2 with e2
  injection e2 with e2
  subst e2
  cases hp with
  | cons r t =>
    obtain ⟨q, e3, _⟩ := r
    cases e3
theorem ixN_nat {n i : Nat} (h : i < n) : ixN n (i : Int) = some i := by
  unfold ixN
  rw [if_pos (by omega), if_pos (by omega), Int.toNat_natCast]
/-- xs[:3] -/
def cut3 {α : Type} (xs : List α) : List α := (xs.drop (HT.sIx xs.length 0 none)).take (HT.sIx xs.length xs.length (some 3) - HT.sIx xs.length 0 none)
theorem cut3_le {α : Type} (xs : List α) : (cut3 xs).length ≤ 3 := by
  unfold cut3
  rw [List.length_take]
  have e : HT.sIx xs.length xs.length (some 3) = min 3 xs.length := HT.sIx_nat _ _ 3
  rw [e]
  have : min 3 xs.length ≤ 3 := Nat.min_le_left _ _
  omega
theorem cut3_mem {α : Type} {xs : List α} {x : α} (h : x ∈ cut3 xs) : x ∈ xs := List.mem_of_mem_drop (List.mem_of_mem_take h)
theorem paired_drop {α β : Type} {F : α → β → Prop} : ∀ {l : List α} {m : List β}, Paired F l m → ∀ n, Paired F (l.drop n) (m.drop n)
  | _, _, .nil, n => by simp only [List.drop_nil]; exact .nil
  | _, _, .cons r t, 0 => .cons r t
  | _, _, .cons r t, n + 1 => paired_drop t n
theorem paired_take {α β : Type} {F : α → β → Prop} : ∀ {l : List α} {m : List β}, Paired F l m → ∀ n, Paired F (l.take n) (m.take n)
  | _, _, .nil, n => by simp only [List.take_nil]; exact .nil
  | _, _, .cons r t, 0 => .nil
  | _, _, .cons r t, n + 1 => .cons r (paired_take t n)
theorem paired_set {α β : Type} {F : α → β → Prop} {a : α} {b : β} (q : F a b) : ∀ {l : List α} {m : List β}, Paired F l m → ∀ n, Paired F (l.set n a) (m.set n b)
  | _, _, .nil, n => .nil
  | _, _, .cons r t, 0 => .cons q t
  | _, _, .cons r t, n + 1 => .cons r (paired_set q t n)
theorem paired_cut3 {F : Ru → V → Prop} {l : List Ru} {m : List V} (h : Paired F l m) : Paired F (cut3 l) (cutV m none (some 3)) := by
  unfold cut3 cutV
  rw [h.length]
  exact paired_take (paired_drop h _) _
/-- [v] + found, cut -/
theorem front {H : Hp} {v : V} {l c d p : Addr} {vs : List V} {B : List Ru} {r0 : Ru} (hv : RulV H r0 v) (hp : H p = some (.lst vs)) (hpr : Paired (RulV H) B vs) (nl : H l = none) (nc : upd H l (.lst [v]) c = none)
    (nd : upd (upd H l (.lst [v])) c (.lst ([v] ++ vs)) d = none) : Same H (upd (upd (upd H l (.lst [v])) c (.lst ([v] ++ vs))) d (.lst (cutV ([v] ++ vs) none (some 3)))) ∧ RulesAt (upd (upd (upd H l (.lst [v])) c (.lst ([v] ++ vs))) d (.lst (cutV ([v] ++ vs) none (some 3)))) d (cut3 (r0 :: B)) := by
  have s : Same H (upd (upd (upd H l (.lst [v])) c (.lst ([v] ++ vs))) d (.lst (cutV ([v] ++ vs) none (some 3)))) := ((sNew nl).trans (sNew nc)).trans (sNew nd)
  refine ⟨s, _, upd_same, ?_⟩
  exact rulesSame (paired_cut3 (.cons hv hpr)) (tOf s)
abbrev s_law_like : Stmt := top 43
abbrev N_law_like : List Str := ["_law_box_here", "_law_rules", "_law_names_here", "_law_found", "_law_way", "_law_rule_here", "_law_one", "_law_other"]
theorem sc_law_like : FnScope N_law_like ["_law_box_here", "_law_rules", "_law_names_here"] (defScope s_law_like) := ⟨rfl, rfl, rfl, by decide +kernel, rfl, by decide +kernel, by decide +kernel⟩
-- slots: 0 _law_box_here, 1 _law_rules, 2 _law_names_here, 3 _law_found, 4 _law_way, 5 _law_rule_here, 6 _law_one, 7 _law_other
def sp_law_like : Sp := fun vs H Q _ => ∃ (a q t : Addr) (n : Nat) (A : List Ru) (ns : List Str), vs = [.ref a, .ref q, .ref t] ∧ BoxAt H a n ∧ n ≤ 2 ^ 38 ∧ H t = some (.lst (ns.map V.str)) ∧ t ≠ a ∧ 1 ≤ ns.length ∧ ns.length ≤ 12 ∧ (∀ x, x ∈ ns → NameOk x) ∧
  RulesAt H q A ∧ q ≠ a ∧ A.length ≤ 3 ∧ (∀ r, r ∈ A → RuleOk r) ∧
  ∀ H' u p1 p2 (A1 A2 : List Ru), SameX a H H' → BoxAt H' a (n + 50) → H' u = some (.lst [.ref p1, .ref p2]) → RulesAt H' p1 A1 → RulesAt H' p2 A2 → A1.length ≤ 3 → A2.length ≤ 3 → (∀ r, r ∈ A1 → RuleOk r) → (∀ r, r ∈ A2 → RuleOk r) → p1 ≠ a → p2 ≠ a → Q (.ref u) H'
section
variable {P : Program} {w : World} {K : PySem.W.Frag} {mg : Str → Option Value} {base : Heap}
theorem ok_law_like {f : Addr} {fd : FuncData} (F : Fun K "_law_like" "_law_like" s_law_like f fd) (T : Top K mg) (C_law_take : Cal P w K mg base 1 "_law_take" ["_law_box_here", "_law_size"] sp_law_take)
    (C_law_pick : Cal P w K mg base 2 "_law_pick" ["_law_box_here", "_law_things"] sp_law_pick) (C_law_rule : Cal P w K mg base 3 "_law_rule" ["_law_box_here", "_law_names_here"] sp_law_rule) : FnOk P w K mg base CX0 4 f fd ["_law_box_here", "_law_rules", "_law_names_here"] sp_law_like := by
  refine F.ok sc_law_like (fun vs H Q E h => ?_) (fun cdv A outer s H vs Q E hr h => ?_)
  · obtain ⟨a, q, t, n, A, ns, rfl, _⟩ := h
    rfl
  · obtain ⟨a, q, t, n, R, ns, rfl, hB, hn, ht, hne, hl, hl2, hok, hq, hqa, hR, hRo, k⟩ := h
    refine ⟨_, (pss_cons (ps_par (i := 3) (j := 4) (by rfl) sc_law_like.nd rfl rfl (by decide) rfl rfl (pa_cons (pe_lst pa_nil) (pa_cons (pe_cal C_law_take (hr.mono (by decide)) rfl (pa_cons (pv 0) (pa_cons pe_int pa_nil))) pa_nil)) (by rfl))
      (pss_cons (ps_for PassesOwn.never rfl (pi_list (pv 1)) (pg_name (i := 5) sc_law_like.nd rfl (Or.inl rfl))
        (pss_one (ps_expr (pe_bm PySem.F.plainAttrs_list PySem.F.slot_list_insert PySem.F.type_list_insert mt_insert (pv 3) (pa_cons (pe_cal C_law_take (hr.mono (by decide)) rfl (pa_cons (pv 0) (pa_cons (pe_op op_add (pe_callB call_len_seq (by rfl) T.len (by decide +kernel) (pa_cons (pv 3) pa_nil)) pe_int) pa_nil))) (pa_cons (pv 5) pa_nil))))))
      (pss_cons (ps_set (i := 6) sc_law_like.nd rfl (Or.inl rfl) (pe_cal C_law_pick (hr.mono (by decide)) rfl (pa_cons (pv 0) (pa_cons (pv 2) pa_nil))))
      (pss_cons (ps_if (PW.pt (pw_and (pt_cmpR op_eq (pv 4) pe_int (nomark _)) (pw_and (pt_cmpR (op_neD hr.units) (pv 3) (pe_lst pa_nil) (nomark _)) (pw_and1 (pt_cmpR op_lt (pe_callB call_len_seq (by rfl) T.len (by decide +kernel) (pa_cons (pv 3) pa_nil)) pe_int (nomark _))))))
        (pss_one (ps_expr (pe_bm PySem.F.plainAttrs_list PySem.F.slot_list_append PySem.F.type_list_append mt_append (pv 3) (pa_cons (pe_cal C_law_pick (hr.mono (by decide)) rfl (pa_cons (pv 0) (pa_cons (pv 3) pa_nil))) pa_nil))))
        pss_nil)
      (pss_cons (ps_if (pt_cmpR op_eq (pv 4) pe_int (nomark _))
        (pss_one (ps_ret (pe_lst (pa_cons (pe_slice sl_list (pe_op op_cat (pe_lst (pa_cons (pe_tup (pa_cons pe_str (pa_cons (pv 6) (pa_cons (pv 6) pa_nil)))) pa_nil)) (pv 3)) po_none (po_some pe_int)) (pa_cons (pe_slice sl_list (pe_op op_cat (pe_lst (pa_cons (pe_tup (pa_cons pe_str (pa_cons (pv 6) (pa_cons pe_int pa_nil)))) pa_nil)) (pv 3)) po_none (po_some pe_int)) pa_nil)))))
        pss_nil)
      (pss_cons (ps_if (pt_cmpR op_eq (pv 4) pe_int (nomark _))
        (pss_cons (ps_set (i := 7) sc_law_like.nd rfl (Or.inl rfl) (pe_cal C_law_pick (hr.mono (by decide)) rfl (pa_cons (pv 0) (pa_cons (pe_lst (pa_cons (pe_tup (pa_cons pe_str (pa_cons (pv 6) (pa_cons (pv 6) pa_nil)))) (pa_cons (pe_tup (pa_cons pe_str (pa_cons (pv 6) (pa_cons pe_int pa_nil)))) pa_nil))) pa_nil))))
        (pss_one (ps_ret (pe_lst (pa_cons (pe_slice sl_list (pe_op op_cat (pe_lst (pa_cons (pe_tup (pa_cons pe_str (pa_cons (pv 6) (pa_cons (pv 6) pa_nil)))) pa_nil)) (pv 3)) po_none (po_some pe_int)) (pa_cons (pe_slice sl_list (pe_op op_cat (pe_lst (pa_cons (pv 7) pa_nil)) (pv 3)) po_none (po_some pe_int)) pa_nil))))))
        pss_nil)
      (pss_cons (ps_if (PW.pt (pw_and (pt_cmpR op_eq (pv 4) pe_int (nomark _)) (pw_and1 (pt_cmpR (op_neD hr.units) (pv 3) (pe_lst pa_nil) (nomark _)))))
        (pss_one (ps_asg (pe_cal C_law_rule (hr.mono (by decide)) rfl (pa_cons (pv 0) (pa_cons (pv 2) pa_nil))) (pg_sub (pv 3) (pe_cal C_law_take (hr.mono (by decide)) rfl (pa_cons (pv 0) (pa_cons (pe_callB call_len_seq (by rfl) T.len (by decide +kernel) (pa_cons (pv 3) pa_nil)) pa_nil))) set_list)))
        pss_nil)
      (pss_one (ps_ret (pe_lst (pa_cons (pv 1) (pa_cons (pv 3) pa_nil)))))))))))), ?_⟩
    have h100 : (100 : Nat) ≤ sizeLine := by decide
    refine ⟨Nat.zero_le _, fun p np => ⟨_, rfl, a, n, 5, rfl, hB.same (sNew np), by omega, by decide, by decide, fun H1 r s1 hB1 r1 r2 => ⟨_, _, rfl, ?_⟩⟩⟩
    have hpa : p ≠ a := (hB.ne np).symm
    have s01 : SameX a H H1 := SameX.trans (xOf (sNew np)) s1
    have hp1 : H1 p = some (.lst []) := s1 _ _ upd_same hpa
    obtain ⟨qs, hqH, hqp⟩ := hq
    have hqp' : q ≠ p := ne_of_none hqH np
    refine ⟨_, rfl, q, rfl, ⟨qs, SqL.of (s01 _ _ hqH hqa)⟩, for_list (K := K) (a := q) (xs := qs) (fun i σ H2 => ∃ x5, σ = [some (.ref a), some (.ref q), some (.ref t), some (.ref p), some (.int r), x5, none, none] ∧ SameX a H H2 ∧ BoxAt H2 a (n + 1 + i) ∧ ∃ B : List Ru, RulesAt H2 p B ∧ B.length = i ∧ ∀ r, r ∈ B → RuleOk r)
      ⟨_, rfl, s01, hB1, [], ⟨[], hp1, .nil⟩, rfl, fun r h => by cases h⟩ (fun i σ H2 _ p2 => ?_) (fun i x σ H2 hx p2 => ?_) (fun σ H2 p2 => ?_)⟩
    · obtain ⟨x5, rfl, s2, _⟩ := p2
      exact SqL.of (s2 _ _ hqH hqa)
    · obtain ⟨x5, rfl, s2, hB2, B, ⟨vs, hp2, hpr⟩, hbl, hbo⟩ := p2
      obtain ⟨r0, hr0, hv0⟩ := paired_at hqp hx
      have hi : i < qs.length := (List.getElem?_eq_some_iff.mp hx).1
      have hi3 : i < 3 := by rw [← hqp.length] at hi; omega
      have hvl : vs.length = i := by rw [← hpr.length, hbl]
      refine ⟨_, rfl, .inl ⟨rfl, _, SqL.of hp2⟩, _, rfl, _, rfl, p, _, rfl, .inl (SqL.of hp2), _, _, rfl, rfl, a, n + 1 + i, _, rfl, hB2, by omega, by omega, by omega, fun H3 j s3 hB3 j1 j2 => ?_⟩
      have hp3 := s3 _ _ hp2 hpa
      refine ⟨_, rfl, p, vs, j, x, rfl, rfl, hp3, by omega, j1, by omega, ?_⟩
      have st : SameT H3 (upd H3 p (.lst (vs.take j.toNat ++ [x] ++ vs.drop j.toNat))) := tLst hp3
      have hv3 : RulV H3 r0 x := hv0.same ((hB.t s2).trans (hB2.t s3))
      have hpr3 := rulesSame hpr (hB2.t s3)
      refine ⟨_, rfl, fun b o e nb => ?_, ?_, B.take j.toNat ++ [r0] ++ B.drop j.toNat, ⟨_, upd_same, rulesSame (paired_app (paired_app (paired_take hpr3 _) (.cons hv3 .nil)) (paired_drop hpr3 _)) st⟩, ?_, fun r h => ?_⟩
      · rw [upd_ne (ne_of_none e np)]
        exact s3 _ _ (s2 _ _ e nb) nb
      · obtain ⟨x, y, z, e, r⟩ := hB3
        exact ⟨x, y, z, by rw [upd_ne hpa.symm]; exact e, r⟩
      · rw [List.length_append, List.length_append, List.length_take, List.length_drop, List.length_singleton]
        omega
      · rcases List.mem_append.mp h with h | h
        · rcases List.mem_append.mp h with h | h
          · exact hbo r (List.mem_of_mem_take h)
          · rw [List.mem_singleton.mp h]; exact hRo r0 (List.mem_of_getElem? hr0)
        · exact hbo r (List.mem_of_mem_drop h)
    · obtain ⟨x5, rfl, s2, hB2, B, ⟨vs, hp2, hpr⟩, hbl, hbo⟩ := p2
      have hql : qs.length ≤ 3 := by rw [← hqp.length]; exact hR
      refine ⟨_, rfl, _, rfl, a, t, _, _, rfl, hB2, by omega, s2 _ _ ht hne, hne, by rw [List.length_map]; omega, by rw [List.length_map]; omega, fun H3 v s3 hB3 hv => ?_⟩
      obtain ⟨x, hx, rfl⟩ := List.mem_map.mp hv
      have ox := hok x hx
      have s03 := s2.trans s3
      have hB4 := hB3.mono (show n + 1 + qs.length + 1 ≤ n + 5 by omega)
      have hp3 := s3 _ _ hp2 hpa
      have hpr3 := rulesSame hpr (hB2.t s3)
      have hq3 : RulesAt H3 q R := RulesAt.sameX ⟨qs, hqH, hqp⟩ s03 hB hqa
      have hbl3 : B.length ≤ 3 := by omega
      have hvl : vs.length ≤ 3 := by rw [← hpr.length]; omega
      clear hB3 s2 hB2 hp2 hpr hbl
      have hr5 : r = 0 ∨ r = 1 ∨ r = 2 ∨ r = 3 ∨ r = 4 := by omega
      have nn : ∀ {i j : Int}, ¬ i = j → V.int i ≠ V.int j := fun h e => h (by injection e)
      rcases hr5 with rfl | rfl | rfl | rfl | rfl
      · -- way 0
        have last : ∀ (H4 : Hp) (B' : List Ru), SameX a H H4 → BoxAt H4 a (n + 10) → RulesAt H4 q R → RulesAt H4 p B' → B'.length ≤ 3 → (∀ r, r ∈ B' → RuleOk r) → ∀ u, H4 u = none → Q (.ref u) (upd H4 u (.lst [.ref q, .ref p])) := fun H4 B' s4 h4 h5 h6 h7 h8 u nu =>
          k _ u q p R B' (s4.trans (xOf (sNew nu))) ((h4.same (sNew nu)).mono (by omega)) upd_same (h5.same (sNew nu)) (h6.same (sNew nu)) hR h7 hRo h8 hqa hpa
        refine ⟨_, rfl, rfl, _, rfl, eqT ⟨_, rfl, Nat.zero_le _, fun e0 ne0 => ⟨_, _, .lst (SqL.of (sNew ne0 _ _ hp3)) (dp_rules (rulesSame hpr3 (tNew ne0))), .lst (SqL.of upd_same) .nil, (dok_rules hbo hbl3).shaped (by decide), (dok_rules (A := []) (fun r h => by cases h) (Nat.zero_le _)).shaped (by decide), _, rfl, ?_⟩⟩⟩
        cases hpr3 with
        | nil =>
          refine ⟨_, rfl, rfl, _, rfl, eqF (nn (by decide)) ⟨_, rfl, rfl, _, rfl, eqF (nn (by decide)) ⟨_, rfl, rfl, _, rfl, eqF (nn (by decide)) ⟨_, rfl, _, rfl, (by show 2 ≤ sizeLine; decide), fun u nu => ?_⟩⟩⟩⟩
          exact last _ [] (s03.trans (xOf (sNew ne0))) ((hB4.same (sNew ne0)).mono (by omega)) (hq3.same (sNew ne0)) ⟨[], sNew ne0 _ _ hp3, .nil⟩ hbl3 hbo u nu
        | @cons b0 v0 B1 vs1 h1 h2 =>
          have hp4 := sNew (o := .lst []) ne0 _ _ hp3
          refine iteT ⟨_, rfl, p, _, rfl, .inl (SqL.of hp4), _, _, rfl, rfl, _, rfl, ite2 (fun d => ?_) (fun d => ?_)⟩
          · have d : (((v0 :: vs1).length : Nat) : Int) < 3 := of_decide_eq_true d
            refine ⟨_, rfl, .inl ⟨rfl, _, SqL.of hp4⟩, _, rfl, _, rfl, a, p, n + 5, _, rfl, hB4.same (sNew ne0), by omega, hp4, hpa, by rw [List.length_cons]; omega, by omega, fun H5 v s5 hB5 hv5 => ?_⟩
            have hp5 := s5 _ _ hp4 hpa
            refine ⟨p, _, v, rfl, rfl, hp5, by omega, ?_⟩
            refine ⟨_, rfl, rfl, _, rfl, eqF (nn (by decide)) ⟨_, rfl, rfl, _, rfl, eqF (nn (by decide)) ⟨_, rfl, rfl, _, rfl, eqF (nn (by decide)) ⟨_, rfl, _, rfl, (by show 2 ≤ sizeLine; decide), fun u nu => ?_⟩⟩⟩⟩
            obtain ⟨j, hj⟩ := List.getElem?_of_mem hv5
            have hpr5 : Paired (RulV H5) (b0 :: B1) (v0 :: vs1) := rulesSame (.cons h1 h2) ((tNew ne0).trans ((hB4.same (sNew ne0)).t s5))
            obtain ⟨r5, hr5, hv5'⟩ := paired_at hpr5 hj
            have st : SameT H5 (upd H5 p (.lst ((v0 :: vs1) ++ [v]))) := tLst hp5
            have sx : SameX a H H5 := s03.trans (SameX.trans (xOf (sNew ne0)) s5)
            refine last _ ((b0 :: B1) ++ [r5]) (fun b o e nb => ?_) ?_ ?_ ⟨_, upd_same, rulesSame (paired_app hpr5 (.cons hv5' .nil)) st⟩ ?_ (fun r h => ?_) u nu
            · rw [upd_ne (ne_of_none e np)]
              exact sx _ _ e nb
            · obtain ⟨x, y, z, e, r⟩ := hB5.mono (show n + 5 + 1 ≤ n + 10 by omega)
              exact ⟨x, y, z, by rw [upd_ne hpa.symm]; exact e, r⟩
            · obtain ⟨qq, e1, e2⟩ := hq3.same (sNew (o := .lst []) ne0)
              exact ⟨qq, by rw [upd_ne hqp']; exact s5 _ _ e1 hqa, rulesSame e2 (((hB4.same (sNew ne0)).t s5).trans st)⟩
            · have e1 := hpr5.length
              rw [List.length_append, List.length_singleton, e1]
              omega
            · rcases List.mem_append.mp h with h | h
              · exact hbo r h
              · rw [List.mem_singleton.mp h]; exact hbo _ (List.mem_of_getElem? hr5)
          · refine ⟨_, rfl, rfl, _, rfl, eqF (nn (by decide)) ⟨_, rfl, rfl, _, rfl, eqF (nn (by decide)) ⟨_, rfl, rfl, _, rfl, eqF (nn (by decide)) ⟨_, rfl, _, rfl, (by show 2 ≤ sizeLine; decide), fun u nu => ?_⟩⟩⟩⟩
            exact last _ (b0 :: B1) (s03.trans (xOf (sNew ne0))) ((hB4.same (sNew ne0)).mono (by omega)) (hq3.same (sNew ne0)) ⟨_, hp4, rulesSame (.cons h1 h2) (tNew ne0)⟩ hbl3 hbo u nu
      · -- way 1
        refine ⟨_, rfl, rfl, _, rfl, eqF (nn (by decide)) ⟨_, rfl, rfl, _, rfl, eqT ?_⟩⟩
        refine ⟨_, rfl, _, rfl, (by show 3 ≤ sizeLine; decide), fun t1 nt1 => ⟨(by show 1 ≤ sizeLine; decide), fun l1 nl1 => ⟨_, rfl, l1, p, _, vs, rfl, rfl, upd_same, sNew nl1 _ _ (sNew nt1 _ _ hp3), (by show 1 + vs.length ≤ sizeLine; omega), fun c1 nc1 => ⟨_, rfl, c1, _, rfl, SqL.of upd_same, fun d1 nd1 => ?_⟩⟩⟩⟩
        have hv1 : RulV (upd H3 t1 (.tup [.str "never", .str x, .str x])) (.never x x) (.ref t1) := ⟨t1, rfl, upd_same⟩
        obtain ⟨f1, g1⟩ := front hv1 (sNew nt1 _ _ hp3) (rulesSame hpr3 (tNew nt1)) nl1 nc1 nd1
        have f1 := (sNew nt1).trans f1
        revert f1 g1
        generalize (upd (upd (upd (upd H3 t1 (.tup [.str "never", .str x, .str x])) l1 (.lst [.ref t1])) c1 (.lst ([.ref t1] ++ vs))) d1 (.lst (cutV ([.ref t1] ++ vs) none (some 3)))) = H4
        intro g1 f1
        have hp4 := f1 _ _ hp3
        refine ⟨_, rfl, (by show 3 ≤ sizeLine; decide), fun t2 nt2 => ⟨(by show 1 ≤ sizeLine; decide), fun l2 nl2 => ⟨_, rfl, l2, p, _, vs, rfl, rfl, upd_same, sNew nl2 _ _ (sNew nt2 _ _ hp4), (by show 1 + vs.length ≤ sizeLine; omega), fun c2 nc2 => ⟨_, rfl, c2, _, rfl, SqL.of upd_same, fun d2 nd2 => ?_⟩⟩⟩⟩
        have hv2 : RulV (upd H4 t2 (.tup [.str "most", .str x, .int 1])) (.most x 1) (.ref t2) := ⟨t2, rfl, upd_same⟩
        obtain ⟨f2, g2⟩ := front hv2 (sNew nt2 _ _ hp4) (rulesSame hpr3 ((tOf f1).trans (tNew nt2))) nl2 nc2 nd2
        have f2 := (sNew nt2).trans f2
        refine ⟨(by show 2 ≤ sizeLine; decide), fun u nu => ?_⟩
        have fall := f1.trans f2
        have gd1 : d1 ≠ a := ((hB4.same f1).neL g1).symm
        have gd2 : d2 ≠ a := ((hB4.same fall).neL g2).symm
        refine k _ u d1 d2 _ _ (s03.trans (xOf (fall.trans (sNew nu)))) ((hB4.same (fall.trans (sNew nu))).mono (by omega)) upd_same (g1.same (f2.trans (sNew nu))) (g2.same (sNew nu)) (cut3_le _) (cut3_le _) (fun r h => ?_) (fun r h => ?_) gd1 gd2
        · rcases List.mem_cons.mp (cut3_mem h) with rfl | h
          · exact ⟨ox, ox⟩
          · exact hbo r h
        · rcases List.mem_cons.mp (cut3_mem h) with rfl | h
          · exact ⟨ox, by decide⟩
          · exact hbo r h
      · -- way 2
        refine ⟨_, rfl, rfl, _, rfl, eqF (nn (by decide)) ⟨_, rfl, rfl, _, rfl, eqF (nn (by decide)) ⟨_, rfl, rfl, _, rfl, eqT ?_⟩⟩⟩
        refine ⟨_, rfl, _, rfl, _, rfl, (by show 3 ≤ sizeLine; decide), fun a1 na1 => ⟨_, rfl, (by show 3 ≤ sizeLine; decide), fun a2 na2 => ⟨(by show 2 ≤ sizeLine; decide), fun l0 nl0 => ?_⟩⟩⟩
        have f0 : Same H3 (upd (upd (upd H3 a1 (.tup [.str "ahead", .str x, .str x])) a2 (.tup [.str "most", .str x, .int 0])) l0 (.lst [.ref a1, .ref a2])) := ((sNew na1).trans (sNew na2)).trans (sNew nl0)
        have e1 : (upd (upd (upd H3 a1 (.tup [.str "ahead", .str x, .str x])) a2 (.tup [.str "most", .str x, .int 0])) l0 (.lst [.ref a1, .ref a2])) a1 = some (.tup [.str "ahead", .str x, .str x]) := sNew nl0 _ _ (sNew na2 _ _ upd_same)
        have e2 : (upd (upd (upd H3 a1 (.tup [.str "ahead", .str x, .str x])) a2 (.tup [.str "most", .str x, .int 0])) l0 (.lst [.ref a1, .ref a2])) a2 = some (.tup [.str "most", .str x, .int 0]) := sNew nl0 _ _ upd_same
        have e3 : (upd (upd (upd H3 a1 (.tup [.str "ahead", .str x, .str x])) a2 (.tup [.str "most", .str x, .int 0])) l0 (.lst [.ref a1, .ref a2])) l0 = some (.lst [.ref a1, .ref a2]) := upd_same
        revert f0 e1 e2 e3
        generalize (upd (upd (upd H3 a1 (.tup [.str "ahead", .str x, .str x])) a2 (.tup [.str "most", .str x, .int 0])) l0 (.lst [.ref a1, .ref a2])) = H4
        intro f0 e1 e2 e3
        have hB5 := hB4.same f0
        have nl0a : l0 ≠ a := by
          obtain ⟨_, _, _, e, _⟩ := hB5
          exact ne_of e3 e (by intro z; injection z with z; injection z with z; cases z)
        refine ⟨a, l0, n + 5, _, rfl, hB5, by omega, e3, nl0a, (by show 0 < 2; decide), (by show 2 < 1000; decide), fun H5 v s5 hB6 hv => ?_⟩
        have st5 := hB5.t s5
        obtain ⟨r0, hr0, or0⟩ : ∃ r0 : Ru, RulV H5 r0 v ∧ RuleOk r0 := by
          simp only [List.mem_cons, List.not_mem_nil, or_false] at hv
          rcases hv with rfl | rfl
          · exact ⟨.ahead x x, ⟨a1, rfl, st5 _ _ e1⟩, ox, ox⟩
          · exact ⟨.most x 0, ⟨a2, rfl, st5 _ _ e2⟩, ox, by decide⟩
        have s05 : SameX a H H5 := s03.trans (SameX.trans (xOf f0) s5)
        have hp5 := s5 _ _ (f0 _ _ hp3) hpa
        have hpr5 := rulesSame hpr3 ((tOf f0).trans st5)
        clear s5 hB5 f0 e1 e2 e3
        refine ⟨_, rfl, _, rfl, (by show 3 ≤ sizeLine; decide), fun t1 nt1 => ⟨(by show 1 ≤ sizeLine; decide), fun l1 nl1 => ⟨_, rfl, l1, p, _, vs, rfl, rfl, upd_same, sNew nl1 _ _ (sNew nt1 _ _ hp5), (by show 1 + vs.length ≤ sizeLine; omega), fun c1 nc1 => ⟨_, rfl, c1, _, rfl, SqL.of upd_same, fun d1 nd1 => ?_⟩⟩⟩⟩
        have hv1 : RulV (upd H5 t1 (.tup [.str "next", .str x, .str x])) (.next x x) (.ref t1) := ⟨t1, rfl, upd_same⟩
        obtain ⟨f1, g1⟩ := front hv1 (sNew nt1 _ _ hp5) (rulesSame hpr5 (tNew nt1)) nl1 nc1 nd1
        have f1 := (sNew nt1).trans f1
        revert f1 g1
        generalize (upd (upd (upd (upd H5 t1 (.tup [.str "next", .str x, .str x])) l1 (.lst [.ref t1])) c1 (.lst ([.ref t1] ++ vs))) d1 (.lst (cutV ([.ref t1] ++ vs) none (some 3)))) = H6
        intro g1 f1
        have hp6 := f1 _ _ hp5
        refine ⟨_, rfl, (by show 1 ≤ sizeLine; decide), fun l2 nl2 => ⟨_, rfl, l2, p, _, vs, rfl, rfl, upd_same, sNew nl2 _ _ hp6, (by show 1 + vs.length ≤ sizeLine; omega), fun c2 nc2 => ⟨_, rfl, c2, _, rfl, SqL.of upd_same, fun d2 nd2 => ?_⟩⟩⟩
        obtain ⟨f2, g2⟩ := front (hr0.same (tOf f1)) hp6 (rulesSame hpr5 (tOf f1)) nl2 nc2 nd2
        refine ⟨(by show 2 ≤ sizeLine; decide), fun u nu => ?_⟩
        have fall := f1.trans f2
        have gd1 : d1 ≠ a := ((hB6.same f1).neL g1).symm
        have gd2 : d2 ≠ a := ((hB6.same fall).neL g2).symm
        refine k _ u d1 d2 _ _ (s05.trans (xOf (fall.trans (sNew nu)))) ((hB6.same (fall.trans (sNew nu))).mono (by omega)) upd_same (g1.same (f2.trans (sNew nu))) (g2.same (sNew nu)) (cut3_le _) (cut3_le _) (fun r h => ?_) (fun r h => ?_) gd1 gd2
        · rcases List.mem_cons.mp (cut3_mem h) with rfl | h
          · exact ⟨ox, ox⟩
          · exact hbo r h
        · rcases List.mem_cons.mp (cut3_mem h) with rfl | h
          · exact or0
          · exact hbo r h
      · -- way 3
        refine ⟨_, rfl, rfl, _, rfl, eqF (nn (by decide)) ⟨_, rfl, rfl, _, rfl, eqF (nn (by decide)) ⟨_, rfl, rfl, _, rfl, eqF (nn (by decide)) ⟨_, rfl, rfl, _, rfl, eqT ?_⟩⟩⟩⟩
        refine ⟨_, rfl, Nat.zero_le _, fun e0 ne0 => ⟨_, _, .lst (SqL.of (sNew ne0 _ _ hp3)) (dp_rules (rulesSame hpr3 (tNew ne0))), .lst (SqL.of upd_same) .nil, (dok_rules hbo hbl3).shaped (by decide), (dok_rules (A := []) (fun r h => by cases h) (Nat.zero_le _)).shaped (by decide), _, rfl, ?_⟩⟩
        have hp4 := sNew (o := .lst []) ne0 _ _ hp3
        have hB5 := hB4.same (sNew (o := .lst []) ne0)
        have hq4 := hq3.same (sNew (o := .lst []) ne0)
        have s04 := s03.trans (xOf (sNew (o := .lst []) ne0))
        cases hpr3 with
        | nil =>
          refine ⟨_, rfl, _, rfl, (by show 2 ≤ sizeLine; decide), fun u nu => ?_⟩
          exact k _ u q p R [] (s04.trans (xOf (sNew nu))) ((hB5.same (sNew nu)).mono (by omega)) upd_same (hq4.same (sNew nu)) ⟨[], sNew nu _ _ hp4, .nil⟩ hR (Nat.zero_le _) hRo (fun r h => by cases h) hqa hpa
        | @cons b0 v0 B1 vs1 h1 h2 =>
          refine iteT ⟨_, rfl, _, rfl, a, t, n + 5, ns, rfl, hB5, by omega, s04 _ _ ht hne, hne, hl, hl2, hok, fun H5 v r5 s5 hB6 hv5 or5 => ?_⟩
          have hp5 := s5 _ _ hp4 hpa
          refine ⟨_, rfl, _, rfl, _, rfl, p, _, rfl, .inl (SqL.of hp5), a, n + 5 + 12, _, rfl, hB6, by omega, by rw [List.length_cons]; omega, by omega, fun H6 j s6 hB7 j1 j2 => ?_⟩
          have hp6 := s6 _ _ hp5 hpa
          obtain ⟨i, rfl⟩ : ∃ i : Nat, j = (i : Int) := ⟨j.toNat, by omega⟩
          have hi : i < (v0 :: vs1).length := by omega
          refine ⟨p, _, _, i, rfl, rfl, hp6, ixN_nat hi, ?_⟩
          have st6 : SameT (upd H3 e0 (.lst [])) H6 := (hB5.t s5).trans (hB6.t s6)
          have hpr6 : Paired (RulV H6) (b0 :: B1) (v0 :: vs1) := rulesSame (.cons h1 h2) ((tNew ne0).trans st6)
          have st : SameT H6 (upd H6 p (.lst ((v0 :: vs1).set i v))) := tLst hp6
          have sx : SameX a H H6 := s04.trans (s5.trans s6)
          refine ⟨_, rfl, _, rfl, (by show 2 ≤ sizeLine; decide), fun u nu => ?_⟩
          have hB8 : BoxAt (upd H6 p (.lst ((v0 :: vs1).set i v))) a (n + 20) := by
            obtain ⟨x, y, z, e, r⟩ := hB7.mono (show n + 5 + 12 + 1 ≤ n + 20 by omega)
            exact ⟨x, y, z, by rw [upd_ne hpa.symm]; exact e, r⟩
          refine k _ u q p R ((b0 :: B1).set i r5) (SameX.trans (fun b o e nb => ?_) (xOf (sNew nu))) ((hB8.same (sNew nu)).mono (by omega)) upd_same ?_ (RulesAt.same ⟨_, upd_same, rulesSame (paired_set (hv5.same (hB6.t s6)) hpr6 i) st⟩ (sNew nu)) hR (by rw [List.length_set]; exact hbl3) hRo (fun r h => ?_) hqa hpa
          · rw [upd_ne (ne_of_none e np)]
            exact sx _ _ e nb
          · obtain ⟨qq, e1, e2⟩ := hq4
            exact RulesAt.same ⟨qq, by rw [upd_ne hqp']; exact s6 _ _ (s5 _ _ e1 hqa) hqa, rulesSame e2 (st6.trans st)⟩ (sNew nu)
          · rcases List.mem_or_eq_of_mem_set h with h | h
            · exact hbo r h
            · rw [h]; exact or5
      · -- way 4
        refine ⟨_, rfl, rfl, _, rfl, eqF (nn (by decide)) ⟨_, rfl, rfl, _, rfl, eqF (nn (by decide)) ⟨_, rfl, rfl, _, rfl, eqF (nn (by decide)) ⟨_, rfl, rfl, _, rfl, eqF (nn (by decide)) ⟨_, rfl, _, rfl, (by show 2 ≤ sizeLine; decide), fun u nu => ?_⟩⟩⟩⟩⟩
        exact k _ u q p R B (s03.trans (xOf (sNew nu))) ((hB4.same (sNew nu)).mono (by omega)) upd_same (hq3.same (sNew nu)) ⟨vs, sNew nu _ _ hp3, rulesSame hpr3 (tNew nu)⟩ hR hbl3 hRo hbo hqa hpa
end
end Sk
set_option Elab.async false
set_option linter.all false
set_option maxRecDepth 100000
namespace Sk
open PySem PySem.Spec PyProof.Rows L2 Sl Bf Zs Sr Dc2 Nd
abbrev s_law_of_four : Stmt := top 48
abbrev N_law_of_four : List Str := ["_law_box_here", "_law_names_here", "_law_only", "_law_must"]
theorem sc_law_of_four : FnScope N_law_of_four ["_law_box_here"] (defScope s_law_of_four) := ⟨rfl, rfl, rfl, by decide +kernel, rfl, by decide +kernel, by decide +kernel⟩
-- slots: 0 _law_box_here, 1 _law_names_here, 2 _law_only, 3 _law_must
def sp_law_of_four : Sp := fun vs H Q _ => ∃ (a : Addr) (n : Nat), vs = [.ref a] ∧ BoxAt H a n ∧ n ≤ 2 ^ 38 ∧
  ∀ H' u p1 p2 (A1 A2 : List Ru), SameX a H H' → BoxAt H' a (n + 50) → H' u = some (.lst [.ref p1, .ref p2]) → RulesAt H' p1 A1 → RulesAt H' p2 A2 → A1.length ≤ 3 → A2.length ≤ 3 → (∀ r, r ∈ A1 → RuleOk r) → (∀ r, r ∈ A2 → RuleOk r) → p1 ≠ a → p2 ≠ a → Q (.ref u) H'
section
variable {P : Program} {w : World} {K : PySem.W.Frag} {mg : Str → Option Value} {base : Heap}
theorem ok_law_of_four {f : Addr} {fd : FuncData} (F : Fun K "_law_of_four" "_law_of_four" s_law_of_four f fd) (T : Top K mg) (C_law_take : Cal P w K mg base 1 "_law_take" ["_law_box_here", "_law_size"] sp_law_take)
    (C_law_pick : Cal P w K mg base 2 "_law_pick" ["_law_box_here", "_law_things"] sp_law_pick) (C_law_names : Cal P w K mg base 2 "_law_names" ["_law_box_here", "_law_size"] sp_law_names) : FnOk P w K mg base CX0 3 f fd ["_law_box_here"] sp_law_of_four := by
  refine F.ok sc_law_of_four (fun vs H Q E h => ?_) (fun cdv A outer s H vs Q E hr h => ?_)
  · obtain ⟨a, n, rfl, _⟩ := h
    rfl
  · obtain ⟨a, n, rfl, hB, hn, k⟩ := h
    refine ⟨_, (pss_cons (ps_set (i := 1) sc_law_of_four.nd rfl (Or.inl rfl) (pe_callB cr_sortedS (by rfl) T.sorted (by decide +kernel) (pa_cons (pe_cal C_law_names (hr.mono (by decide)) rfl (pa_cons (pv 0) (pa_cons pe_int pa_nil))) pa_nil)))
      (pss_cons (ps_set (i := 2) sc_law_of_four.nd rfl (Or.inl rfl) (pe_tup (pa_cons pe_str (pa_cons (pe_callTy call_tuple_of (by rfl) T.tuple (by decide +kernel) (pa_cons (pv 1) pa_nil)) pa_nil))))
      (pss_cons (ps_set (i := 3) sc_law_of_four.nd rfl (Or.inl rfl) (pe_tup (pa_cons pe_str (pa_cons (pe_cal C_law_pick (hr.mono (by decide)) rfl (pa_cons (pv 0) (pa_cons (pv 1) pa_nil))) pa_nil))))
      (pss_one (ps_ret (pe_lst (pa_cons (pe_lst (pa_cons (pv 2) pa_nil)) (pa_cons (pe_ifExp (pt_cmpR op_eq (pe_cal C_law_take (hr.mono (by decide)) rfl (pa_cons (pv 0) (pa_cons pe_int pa_nil))) pe_int (nomark _)) (pe_lst (pa_cons (pv 3) (pa_cons (pv 2) pa_nil))) (pe_lst (pa_cons (pv 2) (pa_cons (pv 3) pa_nil)))) pa_nil)))))))), ?_⟩
    refine ⟨_, rfl, a, n, 4, rfl, hB, by omega, by decide, fun H1 p ns s1 hB1 np hp hl hok => ?_⟩
    refine ⟨p, ns, rfl, SqL.of hp, by omega, fun ys p1 perm so np1 => ?_⟩
    have hyl : ys.length = 4 := by rw [perm.length_eq, hl]
    have hyo : ∀ x, x ∈ ys → NameOk x := fun x hx => hok x (perm.mem_iff.mp hx)
    refine ⟨_, rfl, p1, _, rfl, .inl ⟨SqL.of upd_same, fun t1 nt1 => ⟨(by show 2 ≤ sizeLine; decide), fun o1 no1 => ?_⟩⟩⟩
    have f1 : Same H1 (upd (upd (upd H1 p1 (.lst (ys.map V.str))) t1 (.tup (ys.map V.str))) o1 (.tup [.str "only", .ref t1])) := ((sNew np1).trans (sNew nt1)).trans (sNew no1)
    have e1 : (upd (upd (upd H1 p1 (.lst (ys.map V.str))) t1 (.tup (ys.map V.str))) o1 (.tup [.str "only", .ref t1])) p1 = some (.lst (ys.map V.str)) := sNew no1 _ _ (sNew nt1 _ _ upd_same)
    have e2 : RulV (upd (upd (upd H1 p1 (.lst (ys.map V.str))) t1 (.tup (ys.map V.str))) o1 (.tup [.str "only", .ref t1])) (.only ys) (.ref o1) := ⟨o1, rfl, t1, upd_same, sNew no1 _ _ upd_same⟩
    have np1a : p1 ≠ a := (hB1.ne np1).symm
    revert f1 e1 e2
    generalize (upd (upd (upd H1 p1 (.lst (ys.map V.str))) t1 (.tup (ys.map V.str))) o1 (.tup [.str "only", .ref t1])) = H2
    intro f1 e1 e2
    have hB2 := hB1.same f1
    refine ⟨_, rfl, _, rfl, a, p1, n + 10, _, rfl, hB2, by omega, e1, np1a, by rw [List.length_map]; omega, by rw [List.length_map]; omega, fun H3 v s3 hB3 hv => ⟨(by show 2 ≤ sizeLine; decide), fun m1 nm1 => ?_⟩⟩
    obtain ⟨x, hx, rfl⟩ := List.mem_map.mp hv
    have ox := hyo x hx
    have s03 : SameX a H H3 := s1.trans (SameX.trans (xOf f1) s3)
    have e3 : RulV H3 (.only ys) (.ref o1) := e2.same (hB2.t s3)
    have f4 : Same H3 (upd H3 m1 (.tup [.str "must", .str x])) := sNew nm1
    have e4 : RulV (upd H3 m1 (.tup [.str "must", .str x])) (.must x) (.ref m1) := ⟨m1, rfl, upd_same⟩
    have e5 := e3.same (tOf f4)
    revert f4 e4 e5
    generalize upd H3 m1 (.tup [.str "must", .str x]) = H4
    intro f4 e4 e5
    have hB4 := hB3.same f4
    have s04 := s03.trans (xOf f4)
    refine ⟨_, rfl, (by show 1 ≤ sizeLine; decide), fun q1 nq1 => ?_⟩
    have hB5 := hB4.same (sNew (o := .lst [.ref o1]) nq1)
    have nq1a : q1 ≠ a := (hB4.ne nq1).symm
    refine ⟨_, rfl, a, n + 10 + 1, 2, rfl, hB5, by omega, by decide, by decide, fun H6 r s6 hB6 r1 r2 => ⟨rfl, _, rfl, ?_⟩⟩
    have st6 : SameT H4 H6 := (tNew nq1).trans (hB5.t s6)
    have s06 : SameX a H H6 := s04.trans (SameX.trans (xOf (sNew nq1)) s6)
    have g1 : RulesAt H6 q1 [.only ys] := ⟨[.ref o1], s6 _ _ upd_same nq1a, .cons (e5.same st6) .nil⟩
    have okO : RuleOk (.only ys) := ⟨by omega, hyo⟩
    have done : ∀ (q2 : Addr) (o : HO) (A2 : List Ru), H6 q2 = none → RulesAt (upd H6 q2 o) q2 A2 → A2.length ≤ 3 → (∀ r, r ∈ A2 → RuleOk r) → ∀ u, upd H6 q2 o u = none → Q (.ref u) (upd (upd H6 q2 o) u (.lst [.ref q1, .ref q2])) := fun q2 o A2 nq2 g2 l2 ok2 u nu =>
      k _ u q1 q2 [.only ys] A2 (s06.trans (xOf ((sNew nq2).trans (sNew nu)))) ((hB6.same ((sNew nq2).trans (sNew nu))).mono (by omega)) upd_same (g1.same ((sNew nq2).trans (sNew nu))) (g2.same (sNew nu)) (lle rfl) l2 (fun r h => by rw [List.mem_singleton.mp h]; exact okO) ok2 nq1a (hB6.ne nq2).symm
    have two : ∀ (r1 r2 : Ru), RuleOk r1 → RuleOk r2 → ∀ r, r ∈ [r1, r2] → RuleOk r := fun r1 r2 h1 h2 r h => by
      rcases List.mem_cons.mp h with rfl | h
      · exact h1
      · rw [List.mem_singleton.mp h]; exact h2
    refine iteD (intD _ _) (ite2 (fun c => ?_) (fun c => ?_))
    · refine ⟨_, rfl, _, rfl, (by show 2 ≤ sizeLine; decide), fun q2 nq2 => ⟨(by show 2 ≤ sizeLine; decide), fun u nu => ?_⟩⟩
      exact done q2 _ [.must x, .only ys] nq2 ⟨_, upd_same, .cons ((e4.same st6).same (tNew nq2)) (.cons ((e5.same st6).same (tNew nq2)) .nil)⟩ (lle rfl) (two _ _ ox okO) u nu
    · refine ⟨_, rfl, _, rfl, (by show 2 ≤ sizeLine; decide), fun q2 nq2 => ⟨(by show 2 ≤ sizeLine; decide), fun u nu => ?_⟩⟩
      exact done q2 _ [.only ys, .must x] nq2 ⟨_, upd_same, .cons ((e5.same st6).same (tNew nq2)) (.cons ((e4.same st6).same (tNew nq2)) .nil)⟩ (lle rfl) (two _ _ okO ox) u nu
end
end Sk
set_option Elab.async false
set_option linter.all false
set_option maxRecDepth 100000
namespace Sk
open PySem PySem.Spec PyProof.Rows L2 Sl Bf Zs Sr Dc2 Nd
/-- a number, or -1 -/
def numW : Option Nat → V
  | none => .int (-1)
  | some n => .int (n : Int)
theorem flat_numW : ∀ ns : List (Option Nat), (ns.map numW).all flatV = true
  | [] => rfl
  | none :: r => flat_numW r
  | some _ :: r => flat_numW r
theorem in_numW (ns : List (Option Nat)) : inV (.int (-1)) (ns.map numW) = decide (none ∈ ns) := by
  induction ns with
  | nil => rw [List.map_nil, decide_eq_false List.not_mem_nil]; rfl
  | cons m r ih =>
    rw [List.map_cons, inV_cons, ih]
    cases m with
    | none => rw [decide_eq_true (List.mem_cons_self ..)]; rfl
    | some m =>
      have e : eqV (numW (some m)) (.int (-1)) = false := by
        show ((m : Int) == -1) = false
        rw [beq_eq_false_iff_ne]
        omega
      rw [e, Bool.false_or, Bool.eq_iff_iff, decide_eq_true_eq, decide_eq_true_eq, List.mem_cons]
      exact ⟨.inr, fun h => h.elim (fun z => by cases z) id⟩
theorem numsW_of {xs : List (Option Nat)} (h : ¬ none ∈ xs) : xs.map numW = (xs.map fun x => x.getD 0).map fun (n : Nat) => V.int (n : Int) := by
  rw [List.map_map]
  apply List.map_congr_left
  intro x hx
  cases x with
  | none => exact absurd hx h
  | some n => rfl
theorem listW_of {xs : List (Option Nat)} {acc : List V} (hl : acc.length = xs.length) (h : ∀ (j : Nat) (v : V), acc[j]? = some v → ∃ o, xs[j]? = some o ∧ v = numW o) : acc = xs.map numW := by
  apply List.ext_getElem?
  intro j
  rw [List.getElem?_map]
  cases e : acc[j]? with
  | none =>
    have : xs[j]? = none := List.getElem?_eq_none (by rw [← hl]; exact List.getElem?_eq_none_iff.mp e)
    rw [this]
    rfl
  | some v =>
    obtain ⟨o, ho, hv⟩ := h j v e
    rw [ho, hv]
    rfl
theorem str_shaped {x : Str} (h : NameOk x) : SeqAt.shaped (.str x) = true := (dok_str h).shaped (by decide)
theorem strs_shaped {ns : List Str} (hl : ns.length ≤ 4) (h : ∀ x, x ∈ ns → NameOk x) : SeqAt.shaped (.tuple (ns.map PyData.str)) = true :=
  (dok_tup (k := 4) (n := 0) (b := 102) (fun d hd => by
    obtain ⟨x, hx, rfl⟩ := List.mem_map.mp hd
    exact dok_str (h x hx)) (by rw [List.length_map]; exact hl)).shaped (by decide)
theorem eqv_str (a b : Str) : PyData.eqv (.str a) (.str b) = decide (a = b) := by
  simp only [PyData.eqv]
  by_cases h : a = b
  · subst h; simp
  · rw [decide_eq_false h]
    exact beq_eq_false_iff_ne.mpr h
theorem sNew2 {H : Hp} {p : Addr} {o o' : HO} (h : H p = none) : Same H (upd (upd H p o) p o') := fun b u e => by
  have n := ne_of_none e h
  rw [upd_ne n, upd_ne n]
  exact e
abbrev s_law_told : Stmt := top 36
abbrev N_law_told : List Str := ["_law_rule_here", "_law_number", "_law_row", "_law_word", "_law_is_one", "_law_fine"]
theorem sc_law_told : FnScope N_law_told ["_law_rule_here", "_law_number", "_law_row"] (defScope s_law_told) := ⟨rfl, rfl, rfl, by decide +kernel, rfl, by decide +kernel, by decide +kernel⟩
-- slots: 0 _law_rule_here, 1 _law_number, 2 _law_row, 3 _law_word, 4 _law_is_one, 5 _law_fine
def sp_law_told : Sp := fun vs H Q _ => ∃ (r : Ru) (n : Nat) (l : Le) (v y : V), vs = [v, .int (n : Int), y] ∧ RulV H r v ∧ RowV H l y ∧ n ≤ capR r ∧ RuleOk r ∧ NameOk l.1 ∧ ∀ H', Same H H' → Q (numW (stepR r n l)) H'
abbrev s_law_behind : Stmt := top 37
abbrev N_law_behind : List Str := ["_law_rules", "_law_standing", "_law_row", "_law_found", "_law_rule_here", "_law_number"]
theorem sc_law_behind : FnScope N_law_behind ["_law_rules", "_law_standing", "_law_row"] (defScope s_law_behind) := ⟨rfl, rfl, rfl, by decide +kernel, rfl, by decide +kernel, by decide +kernel⟩
-- slots: 0 _law_rules, 1 _law_standing, 2 _law_row*, 3 _law_found, 4 _law_rule_here, 5 _law_number
def sp_law_behind : Sp := fun vs H Q _ => ∃ (A : List Ru) (a : Addr) (st : Std) (l : Le) (v y : V), vs = [.ref a, v, y] ∧ PolV H true A a ∧ StdV H st v ∧ CapS A st ∧ RowV H l y ∧ NameOk l.1 ∧ (∀ r, r ∈ A → RuleOk r) ∧ A.length ≤ 1000 ∧
  ∀ H' z, Same H H' → StdV H' (stepS A st l) z → Q z H'
abbrev s_law_ends : Stmt := top 38
abbrev N_law_ends : List Str := ["_law_rules", "_law_standing", "_law_rule_here", "_law_number"]
theorem sc_law_ends : FnScope N_law_ends ["_law_rules", "_law_standing"] (defScope s_law_ends) := ⟨rfl, rfl, rfl, by decide +kernel, rfl, by decide +kernel, by decide +kernel⟩
-- slots: 0 _law_rules, 1 _law_standing, 2 _law_rule_here, 3 _law_number
def sp_law_ends : Sp := fun vs H Q _ => ∃ (A : List Ru) (a : Addr) (st : Std) (v : V), vs = [.ref a, v] ∧ PolV H true A a ∧ StdV H st v ∧ CapS A st ∧ A.length ≤ 1000 ∧ ∀ H', Same H H' → Q (.bl (endS A st)) H'
section
variable {P : Program} {w : World} {K : PySem.W.Frag} {mg : Str → Option Value} {base : Heap}
theorem ok_law_told {f : Addr} {fd : FuncData} (F : Fun K "_law_told" "_law_told" s_law_told f fd) (T : Top K mg) : FnOk P w K mg base CX0 1 f fd ["_law_rule_here", "_law_number", "_law_row"] sp_law_told := by
  refine F.ok sc_law_told (fun vs H Q E h => ?_) (fun cdv A outer s H vs Q E hr h => ?_)
  · obtain ⟨r, n, l, v, y, rfl, _⟩ := h
    rfl
  · obtain ⟨r, n, l, v, y, rfl, ⟨p, rfl, h⟩, ⟨q, rfl, hq⟩, hn, hro, hlo, k⟩ := h
    have kk : ∀ (H' : Hp) (v : V), Same H H' → v = numW (stepR r n l) → Q v H' := fun H' v s e => e ▸ k H' s
    refine ⟨_, (pss_cons (ps_par (i := 3) (j := 4) (by rfl) sc_law_told.nd rfl rfl (by decide) rfl rfl (pa_cons (pe_ix ix_tup (pv 0) pe_int (fun _ _ => rfl)) (pa_cons (pe_cmpR (op_eqD hr.units) (pe_ix ix_tup (pv 2) pe_int (fun _ _ => rfl)) (pe_ix ix_tup (pv 0) pe_int (fun _ _ => rfl)) (nomark _)) pa_nil)) (by rfl))
      (pss_cons (ps_if (pt_cmpR op_in_seq (pv 3) (pe_tup (pa_cons pe_str (pa_cons pe_str pa_nil))) (by rfl))
        (pss_cons (ps_set (i := 5) sc_law_told.nd rfl (Or.inl rfl) (pe_ifExp (pt_cmpR op_eq (pv 3) pe_str (nomark _)) (pe_cmpR op_in_seq (pe_ix ix_tup (pv 2) pe_int (fun _ _ => rfl)) (pe_ix ix_tup (pv 0) pe_int (fun _ _ => rfl)) (by rfl)) (pe_or (pe_not (pv 4)) (pe_one (pe_cmpR op_in_seq (pe_ix ix_tup (pv 2) pe_int (fun _ _ => rfl)) (pe_ix ix_tup (pv 0) pe_int (fun _ _ => rfl)) (by rfl))))))
        (pss_one (ps_ret (pe_ifExp (pt_val (pv 5)) pe_int (pe_un un_neg pe_int)))))
        pss_nil)
      (pss_cons (ps_if (pt_cmpR op_eq (pv 3) pe_str (nomark _))
        (pss_one (ps_ret (pe_ifExp (pt_cmpR op_le (pe_op op_add (pv 1) (pe_callTy call_int1 (by rfl) T.int (by decide +kernel) (pa_cons (pv 4) pa_nil))) (pe_ix ix_tup (pv 0) pe_int (fun _ _ => rfl)) (nomark _)) (pe_op op_add (pv 1) (pe_callTy call_int1 (by rfl) T.int (by decide +kernel) (pa_cons (pv 4) pa_nil))) (pe_un un_neg pe_int))))
        pss_nil)
      (pss_cons (ps_if (pt_cmpR op_eq (pv 3) pe_str (nomark _))
        (pss_one (ps_ret (pe_ifExp (PW.pt (pw_and (pt_cmpR op_eq (pv 1) pe_int (nomark _)) (pw_and1 (pt_cmpR op_ne (pe_ix ix_tup (pv 2) pe_int (fun _ _ => rfl)) (pe_ix ix_tup (pv 0) pe_int (fun _ _ => rfl)) (nomark _))))) (pe_un un_neg pe_int) (pe_callTy call_int1 (by rfl) T.int (by decide +kernel) (pa_cons (pv 4) pa_nil)))))
        pss_nil)
      (pss_cons (ps_if (PW.pt (pw_and (pt_cmpR op_ne (pv 3) pe_str (nomark _)) (pw_and (pt_cmpR op_eq (pe_ix ix_tup (pv 2) pe_int (fun _ _ => rfl)) (pe_ix ix_tup (pv 0) pe_int (fun _ _ => rfl)) (nomark _)) (pw_and1 (pt_cmpR op_eq (pe_cmpR op_eq (pv 1) pe_int (nomark _)) (pe_cmpR op_eq (pv 3) pe_str (nomark _)) (nomark _))))))
        (pss_one (ps_ret (pe_un un_neg pe_int)))
        pss_nil)
      (pss_one (ps_ret (pe_ifExp (pt_val (pv 4)) pe_int (pv 1))))))))), ?_⟩
    cases r with
    | must m =>
      refine ⟨_, rfl, p, _, _, _, rfl, rfl, SqT.of h, rfl, ?_⟩
      refine ⟨_, rfl, q, _, _, _, rfl, rfl, SqT.of hq, rfl, _, rfl, p, _, _, _, rfl, rfl, SqT.of h, rfl, _, _, .str _, .str _, str_shaped hlo, str_shaped hro, _, _, rfl, ?_⟩
      refine ⟨_, rfl, (by show 2 ≤ sizeLine; decide), fun t0 nt => ⟨t0, _, rfl, .inr (SqT.of upd_same), rfl, rfl, _, rfl, iteD (k' := false) (by decide +kernel) (iteF ?_)⟩⟩
      have sm : Same H (upd H t0 (.tup [.str "only", .str "note"])) := sNew nt
      have h := sm _ _ h
      have hq := sm _ _ hq
      refine ⟨_, rfl, rfl, _, rfl, eqF (strNe (by decide +kernel)) ⟨_, rfl, rfl, _, rfl, eqF (strNe (by decide +kernel)) ⟨_, rfl, rfl, _, rfl, neT (iteF ?_)⟩⟩⟩
      refine ⟨_, rfl, _, rfl, iteD (eqv_str _ _) (ite2 (fun e => ?_) (fun e => ?_))⟩
      · exact kk _ _ sm (by have e := of_decide_eq_true e; simp [stepR, numW, e])
      · exact ⟨_, rfl, kk _ _ sm (by have e : ¬ l.1 = m := fun z => e (decide_eq_true z); simp [stepR, numW, e])⟩
    | only ns =>
      obtain ⟨t, h, ht⟩ := h
      refine ⟨_, rfl, p, _, _, _, rfl, rfl, SqT.of h, rfl, ?_⟩
      refine ⟨_, rfl, q, _, _, _, rfl, rfl, SqT.of hq, rfl, _, rfl, p, _, _, _, rfl, rfl, SqT.of h, rfl, _, _, .str _, .tup (SqT.of ht) (dp_strs ns), str_shaped hlo, strs_shaped hro.1 hro.2, _, _, rfl, ?_⟩
      refine ⟨_, rfl, (by show 2 ≤ sizeLine; decide), fun t0 nt => ⟨t0, _, rfl, .inr (SqT.of upd_same), rfl, rfl, _, rfl, iteD (k' := true) (by decide +kernel) (iteT ?_)⟩⟩
      have sm : Same H (upd H t0 (.tup [.str "only", .str "note"])) := sNew nt
      have h := sm _ _ h
      have hq := sm _ _ hq
      have ht := sm _ _ ht
      refine ⟨_, rfl, rfl, _, rfl, eqT ⟨_, rfl, q, _, _, _, rfl, rfl, SqT.of hq, rfl, _, rfl, p, _, _, _, rfl, rfl, SqT.of h, rfl, t, _, rfl, .inr (SqT.of ht), rfl, flat_strs _, ?_⟩⟩
      refine ⟨_, rfl, _, rfl, iteD (in_strs _ _) (ite2 (fun e => ?_) (fun e => ?_))⟩
      · exact kk _ _ sm (by have e := of_decide_eq_true e; simp [stepR, numW, e])
      · exact ⟨_, rfl, kk _ _ sm (by have e : ¬ l.1 ∈ ns := fun z => e (decide_eq_true z); simp [stepR, numW, e])⟩
    | note m ks =>
      obtain ⟨t, h, ht⟩ := h
      refine ⟨_, rfl, p, _, _, _, rfl, rfl, SqT.of h, rfl, ?_⟩
      refine ⟨_, rfl, q, _, _, _, rfl, rfl, SqT.of hq, rfl, _, rfl, p, _, _, _, rfl, rfl, SqT.of h, rfl, _, _, .str _, .str _, str_shaped hlo, str_shaped hro.1, _, _, rfl, ?_⟩
      refine ⟨_, rfl, (by show 2 ≤ sizeLine; decide), fun t0 nt => ⟨t0, _, rfl, .inr (SqT.of upd_same), rfl, rfl, _, rfl, iteD (k' := true) (by decide +kernel) (iteT ?_)⟩⟩
      have sm : Same H (upd H t0 (.tup [.str "only", .str "note"])) := sNew nt
      have h := sm _ _ h
      have hq := sm _ _ hq
      have ht := sm _ _ ht
      refine ⟨_, rfl, rfl, _, rfl, eqF (strNe (by decide +kernel)) ⟨_, rfl, _, rfl, _, rfl, ?_⟩⟩
      refine iteD (congrArg not (eqv_str _ _)) (ite2 (fun e => ?_) (fun e => ?_))
      · have e : ¬ l.1 = m := by simpa using e
        exact ⟨_, rfl, _, rfl, iteT (kk _ _ sm (by simp [stepR, numW, e]))⟩
      · have e : l.1 = m := by simpa using e
        refine ⟨_, rfl, q, _, _, _, rfl, rfl, SqT.of hq, rfl, _, rfl, p, _, _, _, rfl, rfl, SqT.of h, rfl, t, _, rfl, .inr (SqT.of ht), rfl, flat_ints _, ?_⟩
        refine ⟨_, rfl, _, rfl, iteD (in_ints _ _) (ite2 (fun d => ?_) (fun d => ?_))⟩
        · exact kk _ _ sm (by have d := of_decide_eq_true d; simp [stepR, numW, e, d])
        · exact ⟨_, rfl, kk _ _ sm (by have d : ¬ l.2 ∈ ks := fun z => d (decide_eq_true z); simp [stepR, numW, e, d])⟩
    | ahead a b =>
      refine ⟨_, rfl, p, _, _, _, rfl, rfl, SqT.of h, rfl, ?_⟩
      refine ⟨_, rfl, q, _, _, _, rfl, rfl, SqT.of hq, rfl, _, rfl, p, _, _, _, rfl, rfl, SqT.of h, rfl, _, _, .str _, .str _, str_shaped hlo, str_shaped hro.1, _, _, rfl, ?_⟩
      refine ⟨_, rfl, (by show 2 ≤ sizeLine; decide), fun t0 nt => ⟨t0, _, rfl, .inr (SqT.of upd_same), rfl, rfl, _, rfl, iteD (k' := false) (by decide +kernel) (iteF ?_)⟩⟩
      have sm : Same H (upd H t0 (.tup [.str "only", .str "note"])) := sNew nt
      have h := sm _ _ h
      have hq := sm _ _ hq
      refine ⟨_, rfl, rfl, _, rfl, eqF (strNe (by decide +kernel)) ⟨_, rfl, rfl, _, rfl, eqF (strNe (by decide +kernel)) ⟨_, rfl, rfl, _, rfl, neF (strNe (by decide +kernel)) ?_⟩⟩⟩
      refine ⟨_, rfl, q, _, _, _, rfl, rfl, SqT.of hq, rfl, _, rfl, p, _, _, _, rfl, rfl, SqT.of h, rfl, rfl, _, rfl, iteD (strD _ _) (ite2 (fun c => ?_) (fun c => ?_))⟩
      · have c := of_decide_eq_true c
        refine ⟨_, rfl, rfl, _, rfl, rfl, rfl, _, rfl, ?_⟩
        have hn : n ≤ 1 := hn
        refine iteD (k' := decide (n = 0)) ?_ (ite2 (fun d => ?_) (fun d => ?_))
        · have h01 : n = 0 ∨ n = 1 := by omega
          rcases h01 with rfl | rfl <;> decide +kernel
        · have d := of_decide_eq_true d
          exact ⟨_, rfl, kk _ _ sm (by simp [stepR, numW, c, d])⟩
        · have d : ¬ n = 0 := fun z => d (decide_eq_true z)
          refine ⟨_, rfl, _, rfl, iteD (eqv_str _ _) (ite2 (fun e => ?_) (fun e => ?_))⟩
          · exact kk _ _ sm (by have e := of_decide_eq_true e; simp [stepR, numW, e, d] <;> simp_all)
          · exact ⟨_, rfl, kk _ _ sm (by have e : ¬ l.1 = a := fun z => e (decide_eq_true z); simp [stepR, numW, e, d] <;> simp_all)⟩
      · have c : ¬ l.1 = b := fun z => c (decide_eq_true z)
        refine iteF ?_
        refine ⟨_, rfl, _, rfl, iteD (eqv_str _ _) (ite2 (fun e => ?_) (fun e => ?_))⟩
        · exact kk _ _ sm (by have e := of_decide_eq_true e; simp [stepR, numW, e, c] <;> simp_all)
        · exact ⟨_, rfl, kk _ _ sm (by have e : ¬ l.1 = a := fun z => e (decide_eq_true z); simp [stepR, numW, e, c] <;> simp_all)⟩
    | never a b =>
      refine ⟨_, rfl, p, _, _, _, rfl, rfl, SqT.of h, rfl, ?_⟩
      refine ⟨_, rfl, q, _, _, _, rfl, rfl, SqT.of hq, rfl, _, rfl, p, _, _, _, rfl, rfl, SqT.of h, rfl, _, _, .str _, .str _, str_shaped hlo, str_shaped hro.1, _, _, rfl, ?_⟩
      refine ⟨_, rfl, (by show 2 ≤ sizeLine; decide), fun t0 nt => ⟨t0, _, rfl, .inr (SqT.of upd_same), rfl, rfl, _, rfl, iteD (k' := false) (by decide +kernel) (iteF ?_)⟩⟩
      have sm : Same H (upd H t0 (.tup [.str "only", .str "note"])) := sNew nt
      have h := sm _ _ h
      have hq := sm _ _ hq
      refine ⟨_, rfl, rfl, _, rfl, eqF (strNe (by decide +kernel)) ⟨_, rfl, rfl, _, rfl, eqF (strNe (by decide +kernel)) ⟨_, rfl, rfl, _, rfl, neF (strNe (by decide +kernel)) ?_⟩⟩⟩
      refine ⟨_, rfl, q, _, _, _, rfl, rfl, SqT.of hq, rfl, _, rfl, p, _, _, _, rfl, rfl, SqT.of h, rfl, rfl, _, rfl, iteD (strD _ _) (ite2 (fun c => ?_) (fun c => ?_))⟩
      · have c := of_decide_eq_true c
        refine ⟨_, rfl, rfl, _, rfl, rfl, rfl, _, rfl, ?_⟩
        have hn : n ≤ 1 := hn
        refine iteD (k' := decide (n = 1)) ?_ (ite2 (fun d => ?_) (fun d => ?_))
        · have h01 : n = 0 ∨ n = 1 := by omega
          rcases h01 with rfl | rfl <;> decide +kernel
        · have d := of_decide_eq_true d
          exact ⟨_, rfl, kk _ _ sm (by simp [stepR, numW, c, d])⟩
        · have d : ¬ n = 1 := fun z => d (decide_eq_true z)
          refine ⟨_, rfl, _, rfl, iteD (eqv_str _ _) (ite2 (fun e => ?_) (fun e => ?_))⟩
          · exact kk _ _ sm (by have e := of_decide_eq_true e; simp [stepR, numW, e, d] <;> simp_all)
          · exact ⟨_, rfl, kk _ _ sm (by have e : ¬ l.1 = a := fun z => e (decide_eq_true z); simp [stepR, numW, e, d] <;> simp_all)⟩
      · have c : ¬ l.1 = b := fun z => c (decide_eq_true z)
        refine iteF ?_
        refine ⟨_, rfl, _, rfl, iteD (eqv_str _ _) (ite2 (fun e => ?_) (fun e => ?_))⟩
        · exact kk _ _ sm (by have e := of_decide_eq_true e; simp [stepR, numW, e, c] <;> simp_all)
        · exact ⟨_, rfl, kk _ _ sm (by have e : ¬ l.1 = a := fun z => e (decide_eq_true z); simp [stepR, numW, e, c] <;> simp_all)⟩
    | most m c =>
      refine ⟨_, rfl, p, _, _, _, rfl, rfl, SqT.of h, rfl, ?_⟩
      refine ⟨_, rfl, q, _, _, _, rfl, rfl, SqT.of hq, rfl, _, rfl, p, _, _, _, rfl, rfl, SqT.of h, rfl, _, _, .str _, .str _, str_shaped hlo, str_shaped hro.1, _, _, rfl, ?_⟩
      refine ⟨_, rfl, (by show 2 ≤ sizeLine; decide), fun t0 nt => ⟨t0, _, rfl, .inr (SqT.of upd_same), rfl, rfl, _, rfl, iteD (k' := false) (by decide +kernel) (iteF ?_)⟩⟩
      have sm : Same H (upd H t0 (.tup [.str "only", .str "note"])) := sNew nt
      have h := sm _ _ h
      have hq := sm _ _ hq
      have e : ((n : Int) + (if PyData.eqv (.str l.1) (.str m) = true then 1 else 0)) = ((n + (if l.1 = m then 1 else 0) : Nat) : Int) := by
        rw [eqv_str]
        by_cases e : l.1 = m <;> simp [e]
      refine ⟨_, rfl, rfl, _, rfl, eqT ⟨_, rfl, _, rfl, .inr ⟨_, rfl, _, _, rfl, rfl, _, rfl, p, _, _, _, rfl, rfl, SqT.of h, rfl, _, _, rfl, rfl, _, rfl, ite2 (fun d => ?_) (fun d => ?_)⟩⟩⟩
      · have d := of_decide_eq_true d
        rw [e] at d
        have d : n + (if l.1 = m then 1 else 0) ≤ c := by omega
        refine ⟨_, rfl, _, rfl, .inr ⟨_, rfl, _, _, rfl, rfl, kk _ _ sm ?_⟩⟩
        have z : stepR (.most m c) n l = some (n + (if l.1 = m then 1 else 0)) := if_pos d
        rw [z]
        exact congrArg V.int e
      · refine ⟨_, rfl, kk _ _ sm ?_⟩
        have d : ¬ n + (if l.1 = m then 1 else 0) ≤ c := fun z => d (decide_eq_true (by rw [e]; omega))
        have z : stepR (.most m c) n l = none := if_neg d
        rw [z]
        rfl
    | next a b =>
      refine ⟨_, rfl, p, _, _, _, rfl, rfl, SqT.of h, rfl, ?_⟩
      refine ⟨_, rfl, q, _, _, _, rfl, rfl, SqT.of hq, rfl, _, rfl, p, _, _, _, rfl, rfl, SqT.of h, rfl, _, _, .str _, .str _, str_shaped hlo, str_shaped hro.1, _, _, rfl, ?_⟩
      refine ⟨_, rfl, (by show 2 ≤ sizeLine; decide), fun t0 nt => ⟨t0, _, rfl, .inr (SqT.of upd_same), rfl, rfl, _, rfl, iteD (k' := false) (by decide +kernel) (iteF ?_)⟩⟩
      have sm : Same H (upd H t0 (.tup [.str "only", .str "note"])) := sNew nt
      have h := sm _ _ h
      have hq := sm _ _ hq
      refine ⟨_, rfl, rfl, _, rfl, eqF (strNe (by decide +kernel)) ⟨_, rfl, rfl, _, rfl, eqT ⟨_, rfl, rfl, _, rfl, iteD (intD _ _) (ite2 (fun c => ?_) (fun c => ?_))⟩⟩⟩
      · have c : n = 1 := by have c := of_decide_eq_true c; omega
        refine ⟨_, rfl, q, _, _, _, rfl, rfl, SqT.of hq, rfl, _, rfl, p, _, _, _, rfl, rfl, SqT.of h, rfl, rfl, _, rfl, iteD (congrArg not (strD _ _)) (ite2 (fun d => ?_) (fun d => ?_))⟩
        · exact ⟨_, rfl, kk _ _ sm (by have d : ¬ l.1 = b := by simpa using d
                                       simp [numW, stepR, c, d])⟩
        · have d : l.1 = b := by simpa using d
          refine ⟨_, rfl, .inr ⟨_, rfl, kk _ _ sm ?_⟩⟩
          rw [eqv_str]
          by_cases e : l.1 = a <;> simp [numW, stepR, e, d] <;> simp_all
      · have c : ¬ n = 1 := fun z => c (decide_eq_true (by omega))
        refine iteF ⟨_, rfl, .inr ⟨_, rfl, kk _ _ sm ?_⟩⟩
        rw [eqv_str]
        by_cases e : l.1 = a <;> simp [numW, stepR, e, c]
theorem ok_law_behind {f : Addr} {fd : FuncData} (F : Fun K "_law_behind" "_law_behind" s_law_behind f fd) (T : Top K mg) (C_law_told : Cal P w K mg base 1 "_law_told" ["_law_rule_here", "_law_number", "_law_row"] sp_law_told) : FnOk P w K mg base CX0 2 f fd ["_law_rules", "_law_standing", "_law_row"] sp_law_behind := by
  refine F.ok sc_law_behind (fun vs H Q E h => ?_) (fun cdv A outer s H vs Q E hr h => ?_)
  · obtain ⟨A, a, st, l, v, y, rfl, _⟩ := h
    rfl
  · obtain ⟨R, a, st, l, v, y, rfl, ⟨vs, ha, hp⟩, hv, hcs, hy, hlo, hro, hz, k⟩ := h
    refine ⟨_, (pss_cons (ps_if (pt_cmpR op_isN (pv 1) pe_non (nomark _))
        (pss_one (ps_ret pe_non))
        pss_nil)
      (pss_cons (ps_setLc (i := 3) (own := [("_law_rule_here", 4), ("_law_number", 5)]) (by rfl) sc_law_behind.nd rfl rfl (sw_true rfl rfl rfl (by decide +kernel)) (g := gTup K 2 (gCons (gName 4) (gCons (gName 5) gNil))) (pi_zipN true false (by rfl) T.zip (pa_cons (pv 0) (pa_cons (pv 1) pa_nil))) (blkOk_by (own := [("_law_rule_here", 4), ("_law_number", 5)]) (N := N_law_behind) (sc := defScope s_law_behind) (by decide +kernel)) (fun _ _ _ _ _ => (pg_tup rfl (pgs_cons (pg_name (i := 4) sc_law_behind.nd rfl (Or.inl rfl)) (pgs_cons (pg_name (i := 5) sc_law_behind.nd rfl (Or.inl rfl)) pgs_nil)))) (fun _ _ _ _ _ => pts_nil) (fun _ _ _ _ _ => (pe_cal C_law_told (hr.mono (by decide)) rfl (pa_cons (pv 4) (pa_cons (pv 5) (pa_cons (pv 2) pa_nil))))))
      (pss_one (ps_ret (pe_ifExp (pt_cmpR op_in_seq (pe_un un_neg pe_int) (pv 3) (by rfl)) pe_non (pe_callTy call_tuple_of (by rfl) T.tuple (by decide +kernel) (pa_cons (pv 3) pa_nil))))))), ?_⟩
    cases st with
    | none =>
      have hv : v = .non := hv
      subst hv
      exact ⟨_, rfl, rfl, _, rfl, eqT (k H _ (Same.refl H) rfl)⟩
    | some ss =>
      obtain ⟨c, rfl, hc⟩ := hv
      obtain ⟨hcl, hcap⟩ := hcs
      have hlen : vs.length = ss.length := by rw [← hp.length, hcl]
      refine ⟨_, rfl, rfl, _, rfl, eqF (fun z => by cases z) ?_⟩
      refine ⟨_, rfl, _, rfl, a, c, vs, _, rfl, sqB_of ha, sqB_of (b := false) hc, fun D nD => lc_zipB (la := true) (lc := false) (xs := vs) (ys := ss.map fun (n : Nat) => V.int (n : Int)) (by rw [List.length_map, hlen]) (Made (fun j _ v => ∃ o, (tolds R ss l)[j]? = some o ∧ v = numW o) H D) (made0 nD) (fun i H1 p => ⟨sqB_of (b := true) (p.1 _ _ ha), sqB_of (b := false) (p.1 _ _ hc)⟩) (fun i x y0 U H1 hx hy0 p nU => ?_) (fun H1 p => ?_)⟩
      · obtain ⟨r, hr1, hrv⟩ := paired_at hp hx
        rw [List.getElem?_map] at hy0
        obtain ⟨n, hn1, rfl⟩ := Option.map_eq_some_iff.mp hy0
        have s1 : Same H (upd H1 U (.tup [x, .int (n : Int)])) := p.1.trans (sNew nU)
        refine ⟨U, _, rfl, SqT.of upd_same, rfl, _, _, rfl, _, _, rfl, rfl, rfl, ?_⟩
        refine ⟨_, rfl, _, rfl, _, rfl, r, n, l, x, y, rfl, hrv.same (tOf s1), hy.same (tOf s1), hcap i r n hr1 hn1, hro r (List.mem_of_getElem? hr1), hlo, fun H2 s2 => ?_⟩
        have hi : i < sizeLine := by
          have h1 : i < vs.length := (List.getElem?_eq_some_iff.mp hx).1
          have h2 : (1000 : Nat) < sizeLine := by decide
          have h3 := hp.length
          omega
        exact made_step (fun _ _ _ _ _ q => q) nD hi p ((sNew nU).trans s2) ⟨_, tolds_at l hr1 hn1, rfl⟩
      · obtain ⟨s1, acc, hD, hal, hacc⟩ := p
        have e : acc = (tolds R ss l).map numW := listW_of (by rw [hal, tolds_length hcl, hp.length]) hacc
        subst e
        refine ⟨_, rfl, _, rfl, D, _, rfl, .inl (SqL.of hD), rfl, flat_numW _, _, rfl, iteD (in_numW _) (ite2 (fun d => ?_) (fun d => ?_))⟩
        · have d := of_decide_eq_true d
          have e : stepP R ss l = none := if_pos d
          exact k H1 _ s1 (by show StdV H1 (stepP R ss l) _; rw [e]; rfl)
        · have d : ¬ none ∈ tolds R ss l := fun z => d (decide_eq_true z)
          have e : stepP R ss l = some ((tolds R ss l).map fun x => x.getD 0) := if_neg d
          refine ⟨_, rfl, D, _, rfl, .inl ⟨SqL.of hD, fun t nt => ?_⟩⟩
          refine k _ _ (s1.trans (sNew nt)) ?_
          show StdV _ (stepP R ss l) _
          rw [e]
          exact ⟨t, rfl, by rw [upd_same, numsW_of d]⟩
theorem ok_law_ends {f : Addr} {fd : FuncData} (F : Fun K "_law_ends" "_law_ends" s_law_ends f fd) (T : Top K mg) : FnOk P w K mg base CX0 1 f fd ["_law_rules", "_law_standing"] sp_law_ends := by
  refine F.ok sc_law_ends (fun vs H Q E h => ?_) (fun cdv A outer s H vs Q E hr h => ?_)
  · obtain ⟨A, a, st, v, rfl, _⟩ := h
    rfl
  · obtain ⟨R, a, st, v, rfl, ⟨vs, ha, hp⟩, hv, hcs, hz, k⟩ := h
    refine ⟨_, (pss_cons (ps_if (pt_cmpR op_isN (pv 1) pe_non (nomark _))
        (pss_one (ps_ret pe_bl))
        pss_nil)
      (pss_one (ps_ret (pe_callB (cr_all rfl) (by rfl) T.all (by decide +kernel) (pa_cons (pe_lc (own := [("_law_rule_here", 2), ("_law_number", 3)]) (by rfl) sc_law_ends.nd (g := gTup K 2 (gCons (gName 2) (gCons (gName 3) gNil))) (pi_zipN true false (by rfl) T.zip (pa_cons (pv 0) (pa_cons (pv 1) pa_nil))) (blkOk_by (own := [("_law_rule_here", 2), ("_law_number", 3)]) (N := N_law_ends) (sc := defScope s_law_ends) (by decide +kernel)) (fun _ _ _ _ _ => (pg_tup rfl (pgs_cons (pg_name (i := 2) sc_law_ends.nd rfl (Or.inl rfl)) (pgs_cons (pg_name (i := 3) sc_law_ends.nd rfl (Or.inl rfl)) pgs_nil)))) (fun _ _ _ _ _ => pts_nil) (fun _ _ _ _ _ => (pe_cmpR op_ne (pv 3) (pe_dget2 (hu_of hr) (pe_disp (pps_cons pe_str pe_int (pps_cons pe_str pe_int pps_nil)) (by rfl) (by rfl) (fun z => by cases z) (by decide)) (pe_ix (r := rIxT K) ix_tup (pv 2) pe_int (fun _ _ => rfl)) (pe_un un_neg pe_int) ⟨by rfl, by rfl, by rfl, by rfl⟩) (nomark _)))) pa_nil))))), ?_⟩
    cases st with
    | none =>
      have hv : v = .non := hv
      subst hv
      exact ⟨_, rfl, rfl, _, rfl, eqT (k H (Same.refl H))⟩
    | some ss =>
      obtain ⟨c, rfl, hc⟩ := hv
      obtain ⟨hcl, hcap⟩ := hcs
      have hlen : vs.length = ss.length := by rw [← hp.length, hcl]
      refine ⟨_, rfl, rfl, _, rfl, eqF (fun z => by cases z) ?_⟩
      refine ⟨_, rfl, _, rfl, a, c, vs, _, rfl, sqB_of ha, sqB_of (b := false) hc, fun D nD => lc_zipB (la := true) (lc := false) (xs := vs) (ys := ss.map fun (n : Nat) => V.int (n : Int)) (by rw [List.length_map, hlen]) (Made (fun j _ v => ∃ r n, R[j]? = some r ∧ ss[j]? = some n ∧ v = .bl (endR r n)) H D) (made0 nD) (fun i H1 p => ⟨sqB_of (b := true) (p.1 _ _ ha), sqB_of (b := false) (p.1 _ _ hc)⟩) (fun i x y0 U H1 hx hy0 p nU => ?_) (fun H1 p => ?_)⟩
      · obtain ⟨r, hr1, hrv⟩ := paired_at hp hx
        rw [List.getElem?_map] at hy0
        obtain ⟨n, hn1, rfl⟩ := Option.map_eq_some_iff.mp hy0
        have s1 : Same H (upd H1 U (.tup [x, .int (n : Int)])) := p.1.trans (sNew nU)
        refine ⟨U, _, rfl, SqT.of upd_same, rfl, _, _, rfl, _, _, rfl, rfl, rfl, ?_⟩
        refine ⟨_, rfl, fun d nd => ?_⟩
        obtain ⟨p0, rest, rfl, hh⟩ := (hrv.same (tOf s1)).head
        have s2 : Same (upd H1 U (.tup [.ref p0, .int (n : Int)])) (upd (upd (upd H1 U (.tup [.ref p0, .int (n : Int)])) d (.dK [])) d (.dK (mergeK [] [(Sum.inr "must", .int 0), (Sum.inr "next", .int 1)]))) := sNew2 nd
        refine ⟨upd_same, [(Sum.inr "must", .int 0), (Sum.inr "next", .int 1)], rfl, (by decide), d, rfl, .inl ⟨_, .inl upd_same⟩, ?_⟩
        refine ⟨_, rfl, p0, _, ((0 : Nat) : Int), _, rfl, rfl, SqT.of (s2 _ _ hh), atI_nat (j := 0) rfl, _, rfl, _, DGet.k (k := Sum.inr (wordR r)) upd_same, ?_⟩
        have hi : i < sizeLine := by
          have h1 : i < vs.length := (List.getElem?_eq_some_iff.mp hx).1
          have h2 : (1000 : Nat) < sizeLine := by decide
          have h3 := hp.length
          omega
        have e : ∃ d0 : Int, (valV (mergeK [] [((Sum.inr "must" : Key), V.int 0), (Sum.inr "next", .int 1)]) (Sum.inr (wordR r))).getD (.int (-1)) = .int d0 ∧ (!decide ((n : Int) = d0)) = endR r n := by
          have neg : (n : Int) ≠ -1 := by omega
          cases r with
          | must m => exact ⟨0, rfl, by by_cases z : n = 0 <;> simp [endR, z]⟩
          | next m m2 => exact ⟨1, rfl, by by_cases z : n = 1 <;> simp [endR, z]; omega⟩
          | only ns => exact ⟨-1, rfl, by simp [endR, neg]⟩
          | note m ks => exact ⟨-1, rfl, by simp [endR, neg]⟩
          | ahead m m2 => exact ⟨-1, rfl, by simp [endR, neg]⟩
          | never m m2 => exact ⟨-1, rfl, by simp [endR, neg]⟩
          | most m c => exact ⟨-1, rfl, by simp [endR, neg]⟩
        obtain ⟨d0, e1, e2⟩ := e
        rw [e1]
        refine ⟨rfl, made_step (fun _ _ _ _ _ q => q) nD hi p ((sNew nU).trans s2) ⟨r, n, hr1, hn1, ?_⟩⟩
        rw [intD, e2]
      · obtain ⟨s1, acc, hD, hal, hacc⟩ := p
        have e : acc = ((R.zip ss).map fun p => endR p.1 p.2).map V.bl := by
          apply List.ext_getElem?
          intro j
          rw [List.getElem?_map, List.getElem?_map]
          cases e : acc[j]? with
          | none =>
            have h1 := List.getElem?_eq_none_iff.mp e
            have : (R.zip ss)[j]? = none := List.getElem?_eq_none (by rw [List.length_zip]; have := hp.length; omega)
            rw [this]
            rfl
          | some v =>
            obtain ⟨r, n, h1, h2, h3⟩ := hacc j v e
            have h4 : (R.zip ss)[j]? = some (r, n) := List.getElem?_zip_eq_some.mpr ⟨h1, h2⟩
            rw [h4, h3]
            rfl
        subst e
        refine ⟨D, _, rfl, SqL.of hD, ?_⟩
        have e2 : ((R.zip ss).map fun p => endR p.1 p.2).all id = endS R (some ss) := by
          show _ = endP R ss
          unfold endP
          rw [List.all_map]
          rfl
        rw [e2]
        exact k H1 s1
end
end Sk
set_option linter.all false
/-! A rule's number told from the names so far; verdicts. -/
namespace Sl
open Bf
section
variable {N : Type} [DecidableEq N]
def spec : Rul N → List N → Nat
  | .must n, u => if n ∈ u then 1 else 0
  | .only _, _ => 0
  | .note _ _, _ => 0
  | .ahead a _, u => if a ∈ u then 1 else 0
  | .never a _, u => if a ∈ u then 1 else 0
  | .most n _, u => u.count n
  | .next a _, u => if u.getLast? = some a then 1 else 0
theorem bit_old {a x : N} (h : ¬ x = a) (u : List N) : (if a ∈ u then 1 else 0 : Nat) = if a ∈ u ++ [x] then 1 else 0 := by
  by_cases q : a ∈ u
  · rw [if_pos q, if_pos (List.mem_append_left _ q)]
  · rw [if_neg q, if_neg fun z => (List.mem_append.mp z).elim q fun z => h (List.mem_singleton.mp z).symm]
theorem bit_new {a x : N} (h : x = a) (u : List N) : (1 : Nat) = if a ∈ u ++ [x] then 1 else 0 := by
  rw [if_pos (List.mem_append_right _ (List.mem_singleton.mpr h.symm))]
theorem run_spec (r : Rul N) : ∀ (w : List (Ltr N)) (s : Nat), runR r w = some s → s = spec r (w.map (·.1)) := by
  apply snoc_ind
  · intro s h
    have h : some 0 = some s := h
    cases h
    cases r <;> simp [spec]
  · intro w l ih s h
    rw [runR_snoc] at h
    cases e : runR r w with
    | none => rw [e] at h; cases h
    | some t =>
      rw [e] at h
      have h : stepR r t l = some s := h
      have it := ih t e
      rw [List.map_append, List.map_cons, List.map_nil]
      cases r with
      | must n =>
        simp only [stepR, Option.some.injEq] at h
        rw [← h, it]
        by_cases c : l.1 = n
        · rw [if_pos c]
          exact bit_new c _
        · rw [if_neg c]
          exact bit_old c _
      | only ns => simp only [stepR] at h; split at h <;> cases h; rfl
      | note n ks => simp only [stepR] at h; split at h <;> cases h; rfl
      | ahead a b =>
        simp only [stepR] at h
        split at h
        · cases h
        · cases h
          rw [it]
          by_cases c : l.1 = a
          · rw [if_pos c]
            exact bit_new c _
          · rw [if_neg c]
            exact bit_old c _
      | never a b =>
        simp only [stepR] at h
        split at h
        · cases h
        · cases h
          rw [it]
          by_cases c : l.1 = a
          · rw [if_pos c]
            exact bit_new c _
          · rw [if_neg c]
            exact bit_old c _
      | most n k =>
        have h : (if t + (if l.1 = n then 1 else 0) ≤ k then some (t + (if l.1 = n then 1 else 0)) else none) = some s := h
        by_cases c : t + (if l.1 = n then 1 else 0) ≤ k
        · rw [if_pos c] at h
          cases h
          rw [it]
          by_cases d : l.1 = n
          · simp [spec, d]
          · simp [spec, d]
        · rw [if_neg c] at h
          cases h
      | next a b =>
        simp only [stepR] at h
        split at h
        · cases h
        · cases h
          by_cases c : l.1 = a
          · simp [spec, c]
          · simp [spec, c]
theorem runR_none {r : Rul N} {u : List (Ltr N)} (h : runR r u = none) : ∀ v, runR r (u ++ v) = none := by
  apply snoc_ind
  · rw [List.append_nil]; exact h
  · intro v l ih
    rw [← List.append_assoc, runR_snoc, ih]
    rfl
theorem run_next {r : Rul N} {w : List (Ltr N)} {i : Nat} {l : Ltr N} {s : Nat} (h : runR r (w.take i) = some s) (hl : w[i]? = some l) : runR r (w.take (i + 1)) = stepR r s l := by
  rw [List.take_succ, hl]
  show runR r (w.take i ++ [l]) = _
  rw [runR_snoc, h]
  rfl
theorem fit_bad {r : Rul N} {w : List (Ltr N)} {i : Nat} {l : Ltr N} {s : Nat} (h : runR r (w.take i) = some s) (hl : w[i]? = some l) (hs : stepR r s l = none) : fitR r w = false := by
  have e := run_next h hl
  rw [hs] at e
  have q := runR_none e (w.drop (i + 1))
  rw [List.take_append_drop] at q
  unfold fitR
  rw [q]
theorem fit_end {r : Rul N} {w : List (Ltr N)} {s : Nat} (h : runR r w = some s) : fitR r w = endR r s := by
  unfold fitR
  rw [h]
theorem must_run (n : N) (w : List (Ltr N)) : ∃ s, runR (.must n) w = some s := by
  revert w
  apply snoc_ind
  · exact ⟨0, rfl⟩
  · intro w l ⟨s, h⟩
    refine ⟨if l.1 = n then 1 else s, ?_⟩
    rw [runR_snoc, h]
    rfl
theorem must_fit (n : N) (w : List (Ltr N)) : fitR (.must n) w = decide (n ∈ w.map (·.1)) := by
  obtain ⟨s, h⟩ := must_run n w
  rw [fit_end h]
  have e := run_spec _ w s h
  show decide (s ≠ 0) = _
  rw [e]
  by_cases c : n ∈ w.map (·.1)
  · simp only [spec, if_pos c, decide_eq_true c]
    rfl
  · simp only [spec, if_neg c, decide_eq_false c]
    rfl
end
end Sl
set_option Elab.async false
set_option linter.all false
set_option maxRecDepth 100000
namespace Sk
open PySem PySem.Spec PyProof.Rows L2 Sl Bf Zs Sr Dc2 Nd
/-- a log: a list of rows -/
def LogV (H : Hp) (w : List Le) (a : Addr) : Prop := ∃ vs, H a = some (.lst vs) ∧ Paired (RowV H) w vs
theorem LogV.same {H H' : Hp} {w : List Le} {a : Addr} (h : LogV H w a) (s : Same H H') : LogV H' w a := by
  obtain ⟨vs, h1, h2⟩ := h
  exact ⟨vs, s _ _ h1, rowsSame h2 (tOf s)⟩
/-- a loop over enumerate -/
theorem for_enum {K : PySem.W.Frag} {a : Addr} {xs : List V} {g : TG} {tb : TS} {D : Ends} {σ : L2.St} {H : Hp} (Pv : Nat → L2.St → Hp → Prop) (h0 : Pv 0 σ H) (hl : ∀ i σ H, i ≤ xs.length → Pv i σ H → SqL K H a xs)
    (hs : ∀ i x U σ H, xs[i]? = some x → Pv i σ H → H U = none → g (.ref U) σ (upd H U (.tup [.int (i : Nat), x])) fun σ2 H2 => tb { D with nx := Pv (i + 1), ct := Pv (i + 1), bk := D.nx } σ2 H2) (hd : ∀ σ H, Pv xs.length σ H → D.nx σ H) :
    ∃ W : Nat → Nat → L2.St → Hp → Prop, (∃ m, W 0 m σ H) ∧ ∀ i m σ H, W i m σ H →
      ((Ite K a).stop i H ∧ D.nx σ H) ∨ ((Ite K a).go i H ∧ ∃ N : L2.St → Hp → Prop, (∀ σ' H', N σ' H' → ∃ m', m' < m ∧ W (i + 1) m' σ' H') ∧ ∀ x H', (Ite K a).yld i H x H' → g x σ H' fun σ2 H2 => tb { D with nx := N, ct := N, bk := D.nx } σ2 H2) := by
  refine ⟨fun i m σ H => m = xs.length - i ∧ i ≤ xs.length ∧ Pv i σ H, ⟨xs.length, by simp, Nat.zero_le _, h0⟩, ?_⟩
  rintro i m σ H ⟨rfl, hi, p⟩
  have q := hl i σ H hi p
  by_cases hlt : i < xs.length
  · refine .inr ⟨⟨xs, xs[i], q, by simp [hlt]⟩, Pv (i + 1), fun σ' H' p' => ⟨xs.length - (i + 1), by omega, rfl, hlt, p'⟩, fun x H' y => ?_⟩
    obtain ⟨U, z, e1, e2, e3, y⟩ := y
    subst e1 e3
    exact hs i z U σ H (y xs q) p e2
  · have e : i = xs.length := by omega
    subst e
    exact .inl ⟨⟨xs, q, Nat.le_refl _⟩, hd σ H p⟩
/-- the second part of a rule -/
def ParV (H : Hp) (r : Ru) (v : V) : Prop := match r with
  | .must n => v = .str n
  | .only ns => ∃ t, v = .ref t ∧ H t = some (.tup (ns.map V.str))
  | .note n _ => v = .str n
  | .ahead a _ => v = .str a
  | .never a _ => v = .str a
  | .most n _ => v = .str n
  | .next a _ => v = .str a
theorem RulV.parts {H : Hp} {r : Ru} {v : V} (h : RulV H r v) : ∃ p nm rest, v = .ref p ∧ H p = some (.tup (.str (wordR r) :: nm :: rest)) ∧ ParV H r nm := by
  obtain ⟨p, rfl, h⟩ := h
  cases r with
  | must n => exact ⟨p, _, _, rfl, h, rfl⟩
  | only ns => obtain ⟨t, h1, h2⟩ := h; exact ⟨p, _, _, rfl, h1, t, rfl, h2⟩
  | note n ks => obtain ⟨t, h1, h2⟩ := h; exact ⟨p, _, _, rfl, h1, rfl⟩
  | ahead a b => exact ⟨p, _, _, rfl, h, rfl⟩
  | never a b => exact ⟨p, _, _, rfl, h, rfl⟩
  | most n k => exact ⟨p, _, _, rfl, h, rfl⟩
  | next a b => exact ⟨p, _, _, rfl, h, rfl⟩
theorem ParV.same {H H' : Hp} {r : Ru} {v : V} (h : ParV H r v) (s : Same H H') : ParV H' r v := by
  cases r with
  | only ns => obtain ⟨t, e, h⟩ := h; exact ⟨t, e, s _ _ h⟩
  | _ => exact h
theorem lst_strs_shaped {ns : List Str} (h : ∀ x, x ∈ ns → NameOk x) : SeqAt.shaped (.list (ns.map PyData.str)) = true :=
  (dok_lst (k := ns.length) (n := 0) (b := 102) (fun d hd => by
    obtain ⟨x, hx, rfl⟩ := List.mem_map.mp hd
    exact dok_str (h x hx)) (by rw [List.length_map]; exact Nat.le_refl _)).shaped (by decide)
theorem nil_shaped : SeqAt.shaped (.list []) = true := by decide +kernel
/-- what is asked of a row's data -/
theorem row_can {l : Le} (h : NameOk l.1) : (datL l).canLay0 = true ∧ (datL l).depth ≤ 1 := by
  have w : (PyData.str "load").canLay0 = true := (dok_str (x := "load") ⟨by decide +kernel, by decide +kernel⟩).can
  constructor
  · simp only [datL, PyData.canLay0]
    refine canAll fun d hd => ?_
    simp only [List.mem_cons, List.not_mem_nil, or_false] at hd
    rcases hd with rfl | rfl | rfl | rfl
    · simp only [PyData.canLay0]
    · exact w
    · exact (dok_str h).can
    · simp only [PyData.canLay0]
  · simp only [datL, PyData.depth, PyData.depthAll]
    decide
theorem rows_shaped {w : List Le} (h : ∀ l, l ∈ w → NameOk l.1) : SeqAt.shaped (.list (w.map datL)) = true := by
  have e1 : (PyData.list (w.map datL)).canLay0 = true := by
    simp only [PyData.canLay0]
    refine canAll fun d hd => ?_
    obtain ⟨l, hl, rfl⟩ := List.mem_map.mp hd
    exact (row_can (h l hl)).1
  have e2 : (PyData.list (w.map datL)).depth ≤ 64 := by
    simp only [PyData.depth]
    exact Nat.le_trans (Nat.succ_le_succ (depAll (n := 1) fun d hd => by
      obtain ⟨l, hl, rfl⟩ := List.mem_map.mp hd
      exact (row_can (h l hl)).2)) (by decide)
  show ((PyData.list (w.map datL)).canLay0 && decide ((PyData.list (w.map datL)).depth ≤ 64)) = true
  rw [e1, decide_eq_true e2]
  rfl
theorem last_at {α : Type} {l : List α} {x : α} (h : l.getLast? = some x) : atI l (-1) = some x := by
  have hne : l ≠ [] := fun e => by subst e; cases h
  have hl : 0 < l.length := List.length_pos_iff.mpr hne
  unfold atI ixN
  rw [if_neg (by decide), if_pos (by omega)]
  have e : (-1 + (l.length : Int)).toNat = l.length - 1 := by omega
  show l[(-1 + (l.length : Int)).toNat]? = some x
  rw [e, ← List.getLast?_eq_getElem?]
  exact h
abbrev s_law_kept_rule : Stmt := top 33
abbrev N_law_kept_rule : List Str := ["_law_rule_here", "_law_rows", "_law_word", "_law_name", "_law_names_here", "_law_count", "_law_ahead", "_law_place", "_law_row"]
theorem sc_law_kept_rule : FnScope N_law_kept_rule ["_law_rule_here", "_law_rows"] (defScope s_law_kept_rule) := ⟨rfl, rfl, rfl, by decide +kernel, rfl, by decide +kernel, by decide +kernel⟩
-- slots: 0 _law_rule_here, 1 _law_rows, 2 _law_word, 3 _law_name, 4 _law_names_here, 5 _law_count, 6 _law_ahead, 7 _law_place, 8 _law_row
def sp_law_kept_rule : Sp := fun vs H Q _ => ∃ (r : Ru) (w : List Le) (v : V) (a : Addr), vs = [v, .ref a] ∧ RulV H r v ∧ LogV H w a ∧ RuleOk r ∧ (∀ l, l ∈ w → NameOk l.1) ∧ w.length ≤ 100000 ∧
  ∀ H' z, Same H H' → (fitR r w = true ∧ z = .non) ∨ (fitR r w = false ∧ ∃ n : Int, z = .int n) → Q z H'
section
variable {P : Program} {w : World} {K : PySem.W.Frag} {mg : Str → Option Value} {base : Heap}
theorem ok_law_kept_rule {f : Addr} {fd : FuncData} (F : Fun K "_law_kept_rule" "_law_kept_rule" s_law_kept_rule f fd) (T : Top K mg) : FnOk P w K mg base CX0 1 f fd ["_law_rule_here", "_law_rows"] sp_law_kept_rule := by
  refine F.ok sc_law_kept_rule (fun vs H Q E h => ?_) (fun cdv A outer s H vs Q E hr h => ?_)
  · obtain ⟨r, w, v, a, rfl, _⟩ := h
    rfl
  · obtain ⟨r, u, v, a, rfl, hv, ⟨rs, hrs, hrp⟩, hro, hno, hz, k⟩ := h
    refine ⟨_, (pss_cons (ps_par (i := 2) (j := 3) (by rfl) sc_law_kept_rule.nd rfl rfl (by decide) rfl rfl (pa_cons (pe_ix ix_tup (pv 0) pe_int (fun _ _ => rfl)) (pa_cons (pe_ix ix_tup (pv 0) pe_int (fun _ _ => rfl)) pa_nil)) (by rfl))
      (pss_cons (ps_setLc (i := 4) (own := [("_law_row", 8)]) (by rfl) sc_law_kept_rule.nd rfl rfl (sw_true rfl rfl rfl (by decide +kernel)) (pi_list (pv 1)) (blkOk_by (own := [("_law_row", 8)]) (N := N_law_kept_rule) (sc := defScope s_law_kept_rule) (by decide +kernel)) (fun _ _ _ _ _ => (pg_name (i := 8) sc_law_kept_rule.nd rfl (Or.inl rfl))) (fun _ _ _ _ _ => pts_nil) (fun _ _ _ _ _ => (pe_ix (r := rIxT K) ix_tup (pv 8) pe_int (fun _ _ => rfl))))
      (pss_cons (ps_if (pt_cmpR op_eq (pv 2) pe_str (nomark _))
        (pss_one (ps_ret (pe_ifExp (pt_cmpR op_in_seq (pv 3) (pv 4) (by rfl)) pe_non (pe_callB call_len_seq (by rfl) T.len (by decide +kernel) (pa_cons (pv 1) pa_nil)))))
        pss_nil)
      (pss_cons (ps_par (i := 5) (j := 6) (by rfl) sc_law_kept_rule.nd rfl rfl (by decide) rfl rfl (pa_cons pe_int (pa_cons (pe_lst pa_nil) pa_nil)) (by rfl))
      (pss_cons (ps_for PassesOwn.never rfl (pi_enum (by rfl) T.enumerate (pa_cons (pv 1) pa_nil)) (pg_tup rfl (pgs_cons (pg_name (i := 7) sc_law_kept_rule.nd rfl (Or.inl rfl)) (pgs_cons (pg_name (i := 8) sc_law_kept_rule.nd rfl (Or.inl rfl)) pgs_nil)))
        (pss_cons (ps_if (PW.pt (pw_or (PW.pt (pw_and (pt_cmpR op_eq (pv 2) pe_str (nomark _)) (pw_and1 (pt_cmpR op_notIn_seq (pe_ix ix_tup (pv 8) pe_int (fun _ _ => rfl)) (pv 3) (by rfl))))) (pw_or1 (PW.pt (pw_and (pt_cmpR op_eq (pv 2) pe_str (nomark _)) (pw_and (pt_cmpR (op_eqD hr.units) (pe_ix ix_tup (pv 8) pe_int (fun _ _ => rfl)) (pv 3) (nomark _)) (pw_and1 (pt_cmpR op_notIn_seq (pe_ix ix_tup (pv 8) pe_int (fun _ _ => rfl)) (pe_ix ix_tup (pv 0) pe_int (fun _ _ => rfl)) (by rfl)))))))))
          (pss_one (ps_ret (pv 7)))
          pss_nil)
        (pss_cons (ps_if (PW.pt (pw_and (pt_cmpR op_eq (pv 2) pe_str (nomark _)) (pw_and (pt_cmpR op_eq (pe_ix ix_tup (pv 8) pe_int (fun _ _ => rfl)) (pe_ix ix_tup (pv 0) pe_int (fun _ _ => rfl)) (nomark _)) (pw_and1 (pt_cmpR op_notIn_seq (pv 3) (pv 6) (by rfl))))))
          (pss_one (ps_ret (pv 7)))
          pss_nil)
        (pss_cons (ps_if (PW.pt (pw_and (pt_cmpR op_eq (pv 2) pe_str (nomark _)) (pw_and (pt_cmpR op_eq (pe_ix ix_tup (pv 8) pe_int (fun _ _ => rfl)) (pe_ix ix_tup (pv 0) pe_int (fun _ _ => rfl)) (nomark _)) (pw_and1 (pt_cmpR op_in_seq (pv 3) (pv 6) (by rfl))))))
          (pss_one (ps_ret (pv 7)))
          pss_nil)
        (pss_cons (ps_if (PW.pt (pw_and (pt_cmpR op_eq (pv 2) pe_str (nomark _)) (pw_and (pt_cmpR (op_neD hr.units) (pv 6) (pe_lst pa_nil) (nomark _)) (pw_and (pt_cmpR op_eq (pe_ix ix_list (pv 6) (pe_un un_neg pe_int) (fun _ _ => rfl)) (pv 3) (nomark _)) (pw_and1 (pt_cmpR op_ne (pe_ix ix_tup (pv 8) pe_int (fun _ _ => rfl)) (pe_ix ix_tup (pv 0) pe_int (fun _ _ => rfl)) (nomark _)))))))
          (pss_one (ps_ret (pv 7)))
          pss_nil)
        (pss_cons (ps_set (i := 5) sc_law_kept_rule.nd rfl (Or.inl rfl) (pe_op op_add (pv 5) (pe_callTy call_int1 (by rfl) T.int (by decide +kernel) (pa_cons (pe_cmpR (op_eqD hr.units) (pe_ix ix_tup (pv 8) pe_int (fun _ _ => rfl)) (pv 3) (nomark _)) pa_nil))))
        (pss_cons (ps_if (PW.pt (pw_and (pt_cmpR op_eq (pv 2) pe_str (nomark _)) (pw_and1 (pt_cmpR op_gt (pv 5) (pe_ix ix_tup (pv 0) pe_int (fun _ _ => rfl)) (nomark _)))))
          (pss_one (ps_ret (pv 7)))
          pss_nil)
        (pss_one (ps_expr (pe_bm PySem.F.plainAttrs_list PySem.F.slot_list_append PySem.F.type_list_append mt_append (pv 6) (pa_cons (pe_ix ix_tup (pv 8) pe_int (fun _ _ => rfl)) pa_nil)))))))))))
      (pss_one (ps_ret (pe_ifExp (PW.pt (pw_and (pt_cmpR op_eq (pv 2) pe_str (nomark _)) (pw_and (pt_cmpR (op_neD hr.units) (pv 1) (pe_lst pa_nil) (nomark _)) (pw_and1 (pt_cmpR op_eq (pe_ix ix_list (pv 4) (pe_un un_neg pe_int) (fun _ _ => rfl)) (pv 3) (nomark _)))))) (pe_callB call_len_seq (by rfl) T.len (by decide +kernel) (pa_cons (pv 1) pa_nil)) pe_non)))))))), ?_⟩
    have hv0 := hv
    obtain ⟨p, nm, rest, rfl, hp, hnm⟩ := hv.parts
    have hline : (200000 : Nat) ≤ sizeLine := by decide
    have hrl : rs.length ≤ 100000 := by rw [← hrp.length]; exact hz
    refine ⟨_, rfl, p, _, ((0 : Nat) : Int), _, rfl, rfl, SqT.of hp, atI_nat (j := 0) rfl, ?_⟩
    refine ⟨_, rfl, p, _, ((1 : Nat) : Int), _, rfl, rfl, SqT.of hp, atI_nat (j := 1) rfl, _, _, rfl, ?_⟩
    refine ⟨_, rfl, a, rfl, ⟨_, SqL.of hrs⟩, fun D nD => lc_list (K := K) (a := a) (xs := rs) (Made (fun j _ v => ∃ l, u[j]? = some l ∧ v = .str l.1) H D) (made0 nD) (fun i H1 _ q => SqL.of (q.1 _ _ hrs)) (fun i x H1 hx q => ?_) (fun H1 q => ?_)⟩
    · obtain ⟨l, hl, y, rfl, hy⟩ := paired_at hrp hx
      refine ⟨rfl, _, rfl, y, _, _, _, rfl, rfl, SqT.of (q.1 _ _ hy), rfl, ?_⟩
      have hi : i < rs.length := (List.getElem?_eq_some_iff.mp hx).1
      exact made_step (fun _ _ _ _ _ q => q) nD (by omega) q (Same.refl _) ⟨l, hl, rfl⟩
    obtain ⟨s1, acc, hD, hal, hacc⟩ := q
    have ea : acc = (u.map (·.1)).map V.str := by
      apply List.ext_getElem?
      intro j
      rw [List.getElem?_map, List.getElem?_map]
      cases e : acc[j]? with
      | none =>
        have h1 := List.getElem?_eq_none_iff.mp e
        have : u[j]? = none := List.getElem?_eq_none (by have := hrp.length; omega)
        rw [this]
        rfl
      | some v =>
        obtain ⟨l, h1, h2⟩ := hacc j v e
        rw [h1, h2]
        rfl
    subst ea
    clear hacc hal
    have hp1 := s1 _ _ hp
    have hrs1 := s1 _ _ hrs
    have hnm1 : ParV H1 r nm := hnm.same s1
    have hrp1 := rowsSame hrp (tOf s1)
    by_cases hmust : ∃ n, r = .must n
    · obtain ⟨n, rfl⟩ := hmust
      have hnm1 : nm = .str n := hnm1
      subst hnm1
      refine ⟨_, rfl, rfl, _, rfl, eqT ⟨_, rfl, _, rfl, D, _, rfl, .inl (SqL.of hD), rfl, flat_strs _, _, rfl, iteD (in_strs _ _) (ite2 (fun d => ?_) (fun d => ?_))⟩⟩
      · exact k H1 _ s1 (.inl ⟨by rw [must_fit]; exact d, rfl⟩)
      · exact ⟨_, rfl, a, rs, rfl, .inl (SqL.of hrs1), k H1 _ s1 (.inr ⟨by rw [must_fit]; exact Bool.eq_false_iff.mpr d, _, rfl⟩)⟩
    · have hw : wordR r ≠ "must" := by
        cases r with
        | must n => exact absurd ⟨n, rfl⟩ hmust
        | _ => dsimp only [wordR]; decide +kernel
      refine ⟨_, rfl, rfl, _, rfl, eqF (strNe hw) ⟨Nat.zero_le _, fun ah nah => ⟨_, _, rfl, ?_⟩⟩⟩
      refine ⟨_, rfl, a, rs, rfl, SqL.of (sNew nah _ _ hrs1), for_enum (K := K) (a := a) (xs := rs) (fun i σ H2 => Same H1 H2 ∧ H2 ah = some (.lst ((u.take i).map fun l => V.str l.1)) ∧ (∃ x7 x8 c, σ = [some (.ref p), some (.ref a), some (.str (wordR r)), some nm, some (.ref D), some (.int c), some (.ref ah), x7, x8] ∧ ∀ n k, r = .most n k → c = (((u.take i).map (·.1)).count n : Nat)) ∧ ∃ s, runR r (u.take i) = some s)
        ⟨sNew nah, upd_same, ⟨_, _, 0, rfl, fun _ _ _ => rfl⟩, 0, rfl⟩ (fun i σ H2 _ q => SqL.of (q.1 _ _ hrs1)) (fun i x U σ H2 hx q nU => ?_) (fun σ H2 q => ?_)⟩
      · obtain ⟨s2, hA, ⟨x7, x8, c, rfl, hc⟩, s, hs⟩ := q
        obtain ⟨l, hl, y, rfl, hy⟩ := paired_at hrp1 hx
        have s13 : Same H1 (upd H2 U (.tup [.int (i : Nat), .ref y])) := s2.trans (sNew nU)
        have hA3 : (upd H2 U (.tup [.int (i : Nat), .ref y])) ah = some (.lst ((u.take i).map fun l => V.str l.1)) := sNew nU _ _ hA
        have e23 : (upd H2 U (.tup [.int (i : Nat), .ref y])) U = some (.tup [.int (i : Nat), .ref y]) := upd_same
        revert s13 hA3 e23
        generalize upd H2 U (.tup [.int (i : Nat), .ref y]) = H3
        intro s13 hA3 e23
        have hp3 := s13 _ _ hp1
        have hy3 := s13 _ _ hy
        have hnm3 := hnm1.same s13
        have hlo := hno l (List.mem_of_getElem? hl)
        have hsp := run_spec r _ s hs
        have hi : i < rs.length := (List.getElem?_eq_some_iff.mp hx).1
        have hAl : ((u.take i).map fun l => V.str l.1).length < sizeLine := by rw [List.length_map, List.length_take]; omega
        have eA : ((u.take i).map fun l => V.str l.1) = ((u.take i).map (·.1)).map V.str := by rw [List.map_map]; rfl
        have eN : (u.take (i + 1)) = u.take i ++ [l] := by rw [List.take_succ, hl]; rfl
        have hsN : ∀ x, x ∈ (u.take i).map (·.1) → NameOk x := fun x hx => by
          obtain ⟨l', hl', rfl⟩ := List.mem_map.mp hx
          exact hno l' (List.mem_of_mem_take hl')
        have bad : ∀ H', Same H3 H' → stepR r s l = none → Q (.int ((i : Nat) : Int)) H' := fun H' s' e => k H' _ (s1.trans (s13.trans s')) (.inr ⟨fit_bad hs hl e, _, rfl⟩)
        have good : ∀ (H' : Hp) (c' : Int) (x7 x8 : Option V) (s' : Nat), Same H3 H' → stepR r s l = some s' → (∀ n k, r = .most n k → c' = (((u.take (i + 1)).map (·.1)).count n : Nat)) →
            Same H1 (upd H' ah (.lst (((u.take i).map fun l => V.str l.1) ++ [.str l.1]))) ∧ (upd H' ah (.lst (((u.take i).map fun l => V.str l.1) ++ [.str l.1]))) ah = some (.lst ((u.take (i + 1)).map fun l => V.str l.1)) ∧ (∃ y7 y8 d, [some (.ref p), some (.ref a), some (.str (wordR r)), some nm, some (.ref D), some (.int c'), some (.ref ah), x7, x8] = [some (.ref p), some (.ref a), some (.str (wordR r)), some nm, some (.ref D), some (.int d), some (.ref ah), y7, y8] ∧ ∀ n k, r = .most n k → d = (((u.take (i + 1)).map (·.1)).count n : Nat)) ∧ ∃ s, runR r (u.take (i + 1)) = some s := fun H' c' x7 x8 s' sm e hc' => by
          refine ⟨fun b o q => ?_, ?_, ⟨_, _, c', rfl, hc'⟩, s', by rw [run_next hs hl, e]⟩
          · rw [upd_ne (ne_of_none q nah)]
            exact sm _ _ (s13 _ _ q)
          · rw [upd_same, eN, List.map_append]
            rfl
        refine ⟨U, _, rfl, SqT.of e23, rfl, _, _, rfl, _, _, rfl, rfl, ?_⟩
        cases r with
        | must n => exact absurd ⟨n, rfl⟩ hmust
        | only ns =>
          obtain ⟨t, rfl, ht⟩ := hnm3
          refine ⟨_, rfl, rfl, _, rfl, eqT ⟨_, rfl, y, _, _, _, rfl, rfl, SqT.of hy3, rfl, _, rfl, t, _, rfl, .inr (SqT.of ht), rfl, flat_strs _, _, rfl, iteD (congrArg not (in_strs _ _)) (ite2 (fun d => ?_) (fun d => ?_))⟩⟩
          · exact ⟨_, rfl, bad _ (Same.refl _) (by have d : ¬ l.1 ∈ ns := by simpa using d
                                                   simp [stepR, d])⟩
          · have d : l.1 ∈ ns := by simpa using d
            refine ⟨_, rfl, rfl, _, rfl, eqF (strNe (by dsimp only [wordR]; decide +kernel)) ⟨_, rfl, rfl, _, rfl, eqF (strNe (by dsimp only [wordR]; decide +kernel)) ⟨_, rfl, rfl, _, rfl, eqF (strNe (by dsimp only [wordR]; decide +kernel)) ⟨_, rfl, rfl, _, rfl, eqF (strNe (by dsimp only [wordR]; decide +kernel)) ?_⟩⟩⟩⟩
            refine ⟨_, rfl, _, rfl, y, _, _, _, rfl, rfl, SqT.of hy3, rfl, _, rfl, _, _, .str _, .tup (SqT.of ht) (dp_strs ns), str_shaped hlo, strs_shaped hro.1 hro.2, .inr ⟨_, rfl, _, _, rfl, rfl, ?_⟩⟩
            refine ⟨_, rfl, rfl, _, rfl, eqF (strNe (by dsimp only [wordR]; decide +kernel)) ⟨_, rfl, .inl ⟨rfl, _, SqL.of hA3⟩, _, rfl, y, _, _, _, rfl, rfl, SqT.of hy3, rfl, ah, _, _, rfl, rfl, hA3, hAl, ?_⟩⟩
            exact good _ _ _ _ 0 (Same.refl _) (by simp [stepR, d]) (fun n k e => by cases e)
        | note m ks =>
          have hnm3 : nm = .str m := hnm3
          subst hnm3
          obtain ⟨p', ep, t, ht0, ht⟩ := hv0
          cases ep
          have ht0 := s13 _ _ (s1 _ _ ht0)
          have ht := s13 _ _ (s1 _ _ ht)
          refine ⟨_, rfl, rfl, _, rfl, eqF (strNe (by dsimp only [wordR]; decide +kernel)) ⟨_, rfl, rfl, _, rfl, eqT ⟨_, rfl, y, _, _, _, rfl, rfl, SqT.of hy3, rfl, _, rfl, _, _, .str _, .str _, str_shaped hlo, str_shaped hro.1, _, rfl, iteD (eqv_str _ _) (ite2 (fun e => ?_) (fun e => ?_))⟩⟩⟩
          · have e := of_decide_eq_true e
            refine ⟨_, rfl, y, _, _, _, rfl, rfl, SqT.of hy3, rfl, _, rfl, p, _, _, _, rfl, rfl, SqT.of ht0, rfl, t, _, rfl, .inr (SqT.of ht), rfl, flat_ints _, _, rfl, iteD (congrArg not (in_ints _ _)) (ite2 (fun d => ?_) (fun d => ?_))⟩
            · exact ⟨_, rfl, bad _ (Same.refl _) (by have d : ¬ l.2 ∈ ks := by simpa using d
                                                     simp [stepR, d, e])⟩
            · have d : l.2 ∈ ks := by simpa using d
              refine ⟨_, rfl, rfl, _, rfl, eqF (strNe (by dsimp only [wordR]; decide +kernel)) ⟨_, rfl, rfl, _, rfl, eqF (strNe (by dsimp only [wordR]; decide +kernel)) ⟨_, rfl, rfl, _, rfl, eqF (strNe (by dsimp only [wordR]; decide +kernel)) ?_⟩⟩⟩
              refine ⟨_, rfl, _, rfl, y, _, _, _, rfl, rfl, SqT.of hy3, rfl, _, rfl, _, _, .str _, .str _, str_shaped hlo, str_shaped hro.1, .inr ⟨_, rfl, _, _, rfl, rfl, ?_⟩⟩
              refine ⟨_, rfl, rfl, _, rfl, eqF (strNe (by dsimp only [wordR]; decide +kernel)) ⟨_, rfl, .inl ⟨rfl, _, SqL.of hA3⟩, _, rfl, y, _, _, _, rfl, rfl, SqT.of hy3, rfl, ah, _, _, rfl, rfl, hA3, hAl, ?_⟩⟩
              exact good _ _ _ _ 0 (Same.refl _) (by simp [stepR, d, e]) (fun n k e => by cases e)
          · have e : ¬ l.1 = m := fun z => e (decide_eq_true z)
            refine ⟨_, rfl, rfl, _, rfl, eqF (strNe (by dsimp only [wordR]; decide +kernel)) ⟨_, rfl, rfl, _, rfl, eqF (strNe (by dsimp only [wordR]; decide +kernel)) ⟨_, rfl, rfl, _, rfl, eqF (strNe (by dsimp only [wordR]; decide +kernel)) ?_⟩⟩⟩
            refine ⟨_, rfl, _, rfl, y, _, _, _, rfl, rfl, SqT.of hy3, rfl, _, rfl, _, _, .str _, .str _, str_shaped hlo, str_shaped hro.1, .inr ⟨_, rfl, _, _, rfl, rfl, ?_⟩⟩
            refine ⟨_, rfl, rfl, _, rfl, eqF (strNe (by dsimp only [wordR]; decide +kernel)) ⟨_, rfl, .inl ⟨rfl, _, SqL.of hA3⟩, _, rfl, y, _, _, _, rfl, rfl, SqT.of hy3, rfl, ah, _, _, rfl, rfl, hA3, hAl, ?_⟩⟩
            exact good _ _ _ _ 0 (Same.refl _) (by simp [stepR, e]) (fun n k e => by cases e)
        | ahead a0 b0 =>
          have hnm3 : nm = .str a0 := hnm3
          subst hnm3
          obtain ⟨p', ep, ht0⟩ := hv0
          cases ep
          have ht0 := s13 _ _ (s1 _ _ ht0)
          have hsp : s = if a0 ∈ (u.take i).map (·.1) then 1 else 0 := hsp
          refine ⟨_, rfl, rfl, _, rfl, eqF (strNe (by dsimp only [wordR]; decide +kernel)) ⟨_, rfl, rfl, _, rfl, eqF (strNe (by dsimp only [wordR]; decide +kernel)) ⟨_, rfl, rfl, _, rfl, eqT ⟨_, rfl, y, _, _, _, rfl, rfl, SqT.of hy3, rfl, _, rfl, p, _, _, _, rfl, rfl, SqT.of ht0, rfl, rfl, _, rfl, iteD (strD _ _) (ite2 (fun e => ?_) (fun e => ?_))⟩⟩⟩⟩
          · have e := of_decide_eq_true e
            refine ⟨_, rfl, _, rfl, ah, _, rfl, .inl (SqL.of hA3), rfl, by rw [eA]; exact flat_strs _, _, rfl, iteD (Eq.trans (congrArg not (congrArg (inV (V.str a0)) eA)) (congrArg not (in_strs _ _))) (ite2 (fun d => ?_) (fun d => ?_))⟩
            · have d : ¬ a0 ∈ (u.take i).map (·.1) := by simpa using d
              rw [if_neg d] at hsp
              exact ⟨_, rfl, bad _ (Same.refl _) (by simp [stepR, hsp, e])⟩
            · have d : a0 ∈ (u.take i).map (·.1) := by simpa using d
              rw [if_pos d] at hsp
              refine ⟨_, rfl, rfl, _, rfl, eqF (strNe (by dsimp only [wordR]; decide +kernel)) ⟨_, rfl, rfl, _, rfl, eqF (strNe (by dsimp only [wordR]; decide +kernel)) ?_⟩⟩
              refine ⟨_, rfl, _, rfl, y, _, _, _, rfl, rfl, SqT.of hy3, rfl, _, rfl, _, _, .str _, .str _, str_shaped hlo, str_shaped hro.1, .inr ⟨_, rfl, _, _, rfl, rfl, ?_⟩⟩
              refine ⟨_, rfl, rfl, _, rfl, eqF (strNe (by dsimp only [wordR]; decide +kernel)) ⟨_, rfl, .inl ⟨rfl, _, SqL.of hA3⟩, _, rfl, y, _, _, _, rfl, rfl, SqT.of hy3, rfl, ah, _, _, rfl, rfl, hA3, hAl, ?_⟩⟩
              exact good _ _ _ _ _ (Same.refl _) (if_neg (fun z => by have := z.2; omega)) (fun n k e => by cases e)
          · have e : ¬ l.1 = b0 := fun z => e (decide_eq_true z)
            refine ⟨_, rfl, rfl, _, rfl, eqF (strNe (by dsimp only [wordR]; decide +kernel)) ⟨_, rfl, rfl, _, rfl, eqF (strNe (by dsimp only [wordR]; decide +kernel)) ?_⟩⟩
            refine ⟨_, rfl, _, rfl, y, _, _, _, rfl, rfl, SqT.of hy3, rfl, _, rfl, _, _, .str _, .str _, str_shaped hlo, str_shaped hro.1, .inr ⟨_, rfl, _, _, rfl, rfl, ?_⟩⟩
            refine ⟨_, rfl, rfl, _, rfl, eqF (strNe (by dsimp only [wordR]; decide +kernel)) ⟨_, rfl, .inl ⟨rfl, _, SqL.of hA3⟩, _, rfl, y, _, _, _, rfl, rfl, SqT.of hy3, rfl, ah, _, _, rfl, rfl, hA3, hAl, ?_⟩⟩
            exact good _ _ _ _ _ (Same.refl _) (if_neg (fun z => e z.1)) (fun n k e => by cases e)
        | never a0 b0 =>
          have hnm3 : nm = .str a0 := hnm3
          subst hnm3
          obtain ⟨p', ep, ht0⟩ := hv0
          cases ep
          have ht0 := s13 _ _ (s1 _ _ ht0)
          have hsp : s = if a0 ∈ (u.take i).map (·.1) then 1 else 0 := hsp
          refine ⟨_, rfl, rfl, _, rfl, eqF (strNe (by dsimp only [wordR]; decide +kernel)) ⟨_, rfl, rfl, _, rfl, eqF (strNe (by dsimp only [wordR]; decide +kernel)) ⟨_, rfl, rfl, _, rfl, eqF (strNe (by dsimp only [wordR]; decide +kernel)) ⟨_, rfl, rfl, _, rfl, eqT ⟨_, rfl, y, _, _, _, rfl, rfl, SqT.of hy3, rfl, _, rfl, p, _, _, _, rfl, rfl, SqT.of ht0, rfl, rfl, _, rfl, iteD (strD _ _) (ite2 (fun e => ?_) (fun e => ?_))⟩⟩⟩⟩⟩
          · have e := of_decide_eq_true e
            refine ⟨_, rfl, _, rfl, ah, _, rfl, .inl (SqL.of hA3), rfl, by rw [eA]; exact flat_strs _, _, rfl, iteD (Eq.trans (congrArg (inV (V.str a0)) eA) (in_strs _ _)) (ite2 (fun d => ?_) (fun d => ?_))⟩
            · have d : a0 ∈ (u.take i).map (·.1) := of_decide_eq_true d
              rw [if_pos d] at hsp
              exact ⟨_, rfl, bad _ (Same.refl _) (by simp [stepR, hsp, e])⟩
            · have d : ¬ a0 ∈ (u.take i).map (·.1) := fun z => d (decide_eq_true z)
              rw [if_neg d] at hsp
              refine ⟨_, rfl, rfl, _, rfl, eqF (strNe (by dsimp only [wordR]; decide +kernel)) ?_⟩
              refine ⟨_, rfl, _, rfl, y, _, _, _, rfl, rfl, SqT.of hy3, rfl, _, rfl, _, _, .str _, .str _, str_shaped hlo, str_shaped hro.1, .inr ⟨_, rfl, _, _, rfl, rfl, ?_⟩⟩
              refine ⟨_, rfl, rfl, _, rfl, eqF (strNe (by dsimp only [wordR]; decide +kernel)) ⟨_, rfl, .inl ⟨rfl, _, SqL.of hA3⟩, _, rfl, y, _, _, _, rfl, rfl, SqT.of hy3, rfl, ah, _, _, rfl, rfl, hA3, hAl, ?_⟩⟩
              exact good _ _ _ _ _ (Same.refl _) (if_neg (fun z => by have := z.2; omega)) (fun n k e => by cases e)
          · have e : ¬ l.1 = b0 := fun z => e (decide_eq_true z)
            refine ⟨_, rfl, rfl, _, rfl, eqF (strNe (by dsimp only [wordR]; decide +kernel)) ?_⟩
            refine ⟨_, rfl, _, rfl, y, _, _, _, rfl, rfl, SqT.of hy3, rfl, _, rfl, _, _, .str _, .str _, str_shaped hlo, str_shaped hro.1, .inr ⟨_, rfl, _, _, rfl, rfl, ?_⟩⟩
            refine ⟨_, rfl, rfl, _, rfl, eqF (strNe (by dsimp only [wordR]; decide +kernel)) ⟨_, rfl, .inl ⟨rfl, _, SqL.of hA3⟩, _, rfl, y, _, _, _, rfl, rfl, SqT.of hy3, rfl, ah, _, _, rfl, rfl, hA3, hAl, ?_⟩⟩
            exact good _ _ _ _ _ (Same.refl _) (if_neg (fun z => e z.1)) (fun n k e => by cases e)
        | most m c0 =>
          have hnm3 : nm = .str m := hnm3
          subst hnm3
          obtain ⟨p', ep, ht0⟩ := hv0
          cases ep
          have ht0 := s13 _ _ (s1 _ _ ht0)
          have hsp : s = ((u.take i).map (·.1)).count m := hsp
          have hc := hc m c0 rfl
          have ec : c + (if PyData.eqv (.str l.1) (.str m) = true then 1 else 0) = ((s + (if l.1 = m then 1 else 0) : Nat) : Int) := by
            rw [eqv_str, hc, hsp]
            by_cases e : l.1 = m <;> simp [e]
          have ecn : (((u.take (i + 1)).map (·.1)).count m) = s + (if l.1 = m then 1 else 0) := by
            rw [eN, List.map_append, List.count_append, hsp]
            congr 1
            by_cases e : l.1 = m
            · rw [if_pos e]
              simp [e]
            · rw [if_neg e]
              simp [e]
          refine ⟨_, rfl, rfl, _, rfl, eqF (strNe (by dsimp only [wordR]; decide +kernel)) ⟨_, rfl, rfl, _, rfl, eqF (strNe (by dsimp only [wordR]; decide +kernel)) ⟨_, rfl, rfl, _, rfl, eqF (strNe (by dsimp only [wordR]; decide +kernel)) ⟨_, rfl, rfl, _, rfl, eqF (strNe (by dsimp only [wordR]; decide +kernel)) ⟨_, rfl, rfl, _, rfl, eqF (strNe (by dsimp only [wordR]; decide +kernel)) ?_⟩⟩⟩⟩⟩
          refine ⟨_, rfl, _, rfl, y, _, _, _, rfl, rfl, SqT.of hy3, rfl, _, rfl, _, _, .str _, .str _, str_shaped hlo, str_shaped hro.1, .inr ⟨_, rfl, _, _, rfl, rfl, ?_⟩⟩
          refine ⟨_, rfl, rfl, _, rfl, eqT ⟨_, rfl, _, rfl, p, _, _, _, rfl, rfl, SqT.of ht0, rfl, _, _, rfl, rfl, _, rfl, ite2 (fun d => ?_) (fun d => ?_)⟩⟩
          · have d := of_decide_eq_true d
            rw [ec] at d
            exact ⟨_, rfl, bad _ (Same.refl _) (if_neg (show ¬ s + (if l.1 = m then 1 else 0) ≤ c0 by omega))⟩
          · have d : s + (if l.1 = m then 1 else 0) ≤ c0 := by
              apply Nat.le_of_not_lt
              intro z
              exact d (decide_eq_true (by rw [ec]; omega))
            refine ⟨_, rfl, .inl ⟨rfl, _, SqL.of hA3⟩, _, rfl, y, _, _, _, rfl, rfl, SqT.of hy3, rfl, ah, _, _, rfl, rfl, hA3, hAl, ?_⟩
            exact good _ _ _ _ _ (Same.refl _) (if_pos d) (fun n k e => by cases e; rw [ecn]; exact ec)
        | next a0 b0 =>
          have hnm3 : nm = .str a0 := hnm3
          subst hnm3
          obtain ⟨p', ep, ht0⟩ := hv0
          cases ep
          have ht0 := s13 _ _ (s1 _ _ ht0)
          have hsp : s = if ((u.take i).map (·.1)).getLast? = some a0 then 1 else 0 := hsp
          refine ⟨_, rfl, rfl, _, rfl, eqF (strNe (by dsimp only [wordR]; decide +kernel)) ⟨_, rfl, rfl, _, rfl, eqF (strNe (by dsimp only [wordR]; decide +kernel)) ⟨_, rfl, rfl, _, rfl, eqF (strNe (by dsimp only [wordR]; decide +kernel)) ⟨_, rfl, rfl, _, rfl, eqF (strNe (by dsimp only [wordR]; decide +kernel)) ⟨_, rfl, rfl, _, rfl, eqT ⟨_, rfl, Nat.zero_le _, fun e0 ne0 => ?_⟩⟩⟩⟩⟩⟩
          have s34 : Same H3 (upd H3 e0 (.lst [])) := sNew ne0
          have e34 : (upd H3 e0 (.lst [])) e0 = some (.lst []) := upd_same
          revert s34 e34
          generalize upd H3 e0 (.lst []) = H4
          intro s34 e34
          have hA4 := s34 _ _ hA3
          have hy4 := s34 _ _ hy3
          have ht4 := s34 _ _ ht0
          refine ⟨_, _, .lst (SqL.of hA4) (by rw [eA]; exact dp_strs _), .lst (SqL.of e34) .nil, lst_strs_shaped hsN, nil_shaped, _, rfl, ?_⟩
          cases hlast : ((u.take i).map (·.1)).getLast? with
          | none =>
            have hnil : (u.take i).map (·.1) = [] := List.getLast?_eq_none_iff.mp hlast
            have h0 : s = 0 := by rw [hsp, hlast]; rfl
            rw [hnil]
            refine iteD (k' := false) rfl ?_
            refine ⟨_, rfl, _, rfl, y, _, _, _, rfl, rfl, SqT.of hy4, rfl, _, rfl, _, _, .str _, .str _, str_shaped hlo, str_shaped hro.1, .inr ⟨_, rfl, _, _, rfl, rfl, ?_⟩⟩
            refine ⟨_, rfl, rfl, _, rfl, eqF (strNe (by dsimp only [wordR]; decide +kernel)) ⟨_, rfl, .inl ⟨rfl, _, SqL.of hA4⟩, _, rfl, y, _, _, _, rfl, rfl, SqT.of hy4, rfl, ah, _, _, rfl, rfl, hA4, hAl, ?_⟩⟩
            exact good _ _ _ _ _ s34 (if_neg (fun z => by have := z.1; omega)) (fun n k e => by cases e)
          | some z =>
            have hne : PyData.eqv (.list (((u.take i).map (·.1)).map PyData.str)) (.list []) = false := by
              cases q : (u.take i).map (·.1) with
              | nil => rw [q] at hlast; cases hlast
              | cons x xs => rfl
            have hlz : ((u.take i).map fun l => V.str l.1).getLast? = some (.str z) := by rw [eA, List.getLast?_map, hlast]; rfl
            refine iteD (k' := true) (by rw [hne]; rfl) (iteT ?_)
            refine ⟨_, rfl, _, rfl, ah, _, _, _, rfl, rfl, SqL.of hA4, last_at hlz, _, rfl, rfl, _, rfl, iteD (strD _ _) (ite2 (fun d => ?_) (fun d => ?_))⟩
            · have d := of_decide_eq_true d
              have h1 : s = 1 := by rw [hsp, hlast, d, if_pos rfl]
              refine ⟨_, rfl, y, _, _, _, rfl, rfl, SqT.of hy4, rfl, _, rfl, p, _, _, _, rfl, rfl, SqT.of ht4, rfl, rfl, _, rfl, iteD (congrArg not (strD _ _)) (ite2 (fun e => ?_) (fun e => ?_))⟩
              · exact ⟨_, rfl, bad _ s34 (by have e : ¬ l.1 = b0 := by simpa using e
                                             simp [stepR, h1, e])⟩
              · have e : l.1 = b0 := by simpa using e
                refine ⟨_, rfl, _, rfl, y, _, _, _, rfl, rfl, SqT.of hy4, rfl, _, rfl, _, _, .str _, .str _, str_shaped hlo, str_shaped hro.1, .inr ⟨_, rfl, _, _, rfl, rfl, ?_⟩⟩
                refine ⟨_, rfl, rfl, _, rfl, eqF (strNe (by dsimp only [wordR]; decide +kernel)) ⟨_, rfl, .inl ⟨rfl, _, SqL.of hA4⟩, _, rfl, y, _, _, _, rfl, rfl, SqT.of hy4, rfl, ah, _, _, rfl, rfl, hA4, hAl, ?_⟩⟩
                exact good _ _ _ _ _ s34 (if_neg (fun z => z.2 e)) (fun n k e => by cases e)
            · have d : ¬ z = a0 := fun q => d (decide_eq_true q)
              have h0 : s = 0 := by rw [hsp, hlast, if_neg]; exact fun q => d (Option.some.inj q)
              refine ⟨_, rfl, _, rfl, y, _, _, _, rfl, rfl, SqT.of hy4, rfl, _, rfl, _, _, .str _, .str _, str_shaped hlo, str_shaped hro.1, .inr ⟨_, rfl, _, _, rfl, rfl, ?_⟩⟩
              refine ⟨_, rfl, rfl, _, rfl, eqF (strNe (by dsimp only [wordR]; decide +kernel)) ⟨_, rfl, .inl ⟨rfl, _, SqL.of hA4⟩, _, rfl, y, _, _, _, rfl, rfl, SqT.of hy4, rfl, ah, _, _, rfl, rfl, hA4, hAl, ?_⟩⟩
              exact good _ _ _ _ _ s34 (if_neg (fun z => by have := z.1; omega)) (fun n k e => by cases e)
      · obtain ⟨s2, hA, ⟨x7, x8, c, rfl, hc⟩, s, hs⟩ := q
        have hul : u.take rs.length = u := by rw [← hrp.length, List.take_length]
        rw [hul] at hs
        have hsp := run_spec r _ s hs
        have hfit := fit_end hs
        have s02 := s1.trans s2
        by_cases hnext : ∃ a0 b0, r = .next a0 b0
        · obtain ⟨a0, b0, rfl⟩ := hnext
          have hnm1 : nm = .str a0 := hnm1
          subst hnm1
          have hsp : s = if (u.map (·.1)).getLast? = some a0 then 1 else 0 := hsp
          have hfit : fitR (.next a0 b0) u = decide (s ≠ 1) := hfit
          refine ⟨_, rfl, rfl, _, rfl, eqT ⟨_, rfl, Nat.zero_le _, fun e0 ne0 => ?_⟩⟩
          have s34 : Same H2 (upd H2 e0 (.lst [])) := sNew ne0
          have e34 : (upd H2 e0 (.lst [])) e0 = some (.lst []) := upd_same
          revert s34 e34
          generalize upd H2 e0 (.lst []) = H4
          intro s34 e34
          have s14 := s2.trans s34
          have hrs4 := s14 _ _ hrs1
          refine ⟨_, _, .lst (SqL.of hrs4) (dp_rows (rowsSame hrp1 (tOf s14))), .lst (SqL.of e34) .nil, rows_shaped hno, nil_shaped, _, rfl, ?_⟩
          cases hlast : (u.map (·.1)).getLast? with
          | none =>
            have hnil : u = [] := List.map_eq_nil_iff.mp (List.getLast?_eq_none_iff.mp hlast)
            have h0 : s = 0 := by rw [hsp, hlast]; rfl
            rw [hnil]
            refine iteD (k' := false) rfl ?_
            exact k H4 _ (s1.trans s14) (.inl ⟨by rw [hfit, h0]; rfl, rfl⟩)
          | some z =>
            have hne : PyData.eqv (.list (u.map datL)) (.list []) = false := by
              cases u with
              | nil => cases hlast
              | cons x xs => rfl
            have hlz : ((u.map (·.1)).map V.str).getLast? = some (.str z) := by rw [List.getLast?_map, hlast]; rfl
            refine iteD (k' := true) (by rw [hne]; rfl) (iteT ?_)
            refine ⟨_, rfl, _, rfl, D, _, _, _, rfl, rfl, SqL.of (s14 _ _ hD), last_at hlz, _, rfl, rfl, _, rfl, iteD (strD _ _) (ite2 (fun d => ?_) (fun d => ?_))⟩
            · have d := of_decide_eq_true d
              have h1 : s = 1 := by rw [hsp, hlast, d, if_pos rfl]
              exact ⟨_, rfl, a, rs, rfl, .inl (SqL.of hrs4), k H4 _ (s1.trans s14) (.inr ⟨by rw [hfit, h1]; rfl, _, rfl⟩)⟩
            · have d : ¬ z = a0 := fun q => d (decide_eq_true q)
              have h0 : s = 0 := by rw [hsp, hlast, if_neg]; exact fun q => d (Option.some.inj q)
              exact k H4 _ (s1.trans s14) (.inl ⟨by rw [hfit, h0]; rfl, rfl⟩)
        · have hw2 : wordR r ≠ "next" := by
            cases r with
            | next a0 b0 => exact absurd ⟨a0, b0, rfl⟩ hnext
            | _ => dsimp only [wordR]; decide +kernel
          refine ⟨_, rfl, rfl, _, rfl, eqF (strNe hw2) ?_⟩
          refine k H2 _ s02 (.inl ⟨?_, rfl⟩)
          rw [hfit]
          cases r with
          | must n => exact absurd ⟨n, rfl⟩ hmust
          | next a0 b0 => exact absurd ⟨a0, b0, rfl⟩ hnext
          | _ => rfl
end
end Sk
set_option Elab.async false
set_option linter.all false
set_option maxRecDepth 100000
namespace Sk
open PySem PySem.Spec PyProof.Rows L2 Sl Bf Zs Sr Dc2 Nd
abbrev s_law_verdict : Stmt := top 34
abbrev N_law_verdict : List Str := ["_law_rules", "_law_rows", "_law_k", "_law_rule_here", "_law_place"]
theorem sc_law_verdict : FnScope N_law_verdict ["_law_rules", "_law_rows"] (defScope s_law_verdict) := ⟨rfl, rfl, rfl, by decide +kernel, rfl, by decide +kernel, by decide +kernel⟩
-- slots: 0 _law_rules, 1 _law_rows, 2 _law_k, 3 _law_rule_here, 4 _law_place
/-- what the verdict says -/
def VerV (H : Hp) (b : Bool) (p : Addr) : Prop := if b = true then H p = some (.tup [.str "fits"]) else ∃ i j : Int, H p = some (.tup [.str "unfit", .int i, .int j])
def sp_law_verdict : Sp := fun vs H Q _ => ∃ (A : List Ru) (w : List Le) (q a : Addr), vs = [.ref q, .ref a] ∧ PolV H true A q ∧ LogV H w a ∧ (∀ r, r ∈ A → RuleOk r) ∧ (∀ l, l ∈ w → NameOk l.1) ∧ w.length ≤ 100000 ∧
  ∀ H' p, Same H H' → VerV H' (fits A w) p → Q (.ref p) H'
abbrev s_law_fits_one : Stmt := top 45
abbrev N_law_fits_one : List Str := ["_law_one", "_law_two", "_law_rows"]
theorem sc_law_fits_one : FnScope N_law_fits_one ["_law_one", "_law_two", "_law_rows"] (defScope s_law_fits_one) := ⟨rfl, rfl, rfl, by decide +kernel, rfl, by decide +kernel, by decide +kernel⟩
-- slots: 0 _law_one, 1 _law_two, 2 _law_rows
def sp_law_fits_one : Sp := fun vs H Q _ => ∃ (A B : List Ru) (w : List Le) (q q2 a : Addr), vs = [.ref q, .ref q2, .ref a] ∧ PolV H true A q ∧ PolV H true B q2 ∧ LogV H w a ∧ (∀ r, r ∈ A → RuleOk r) ∧ (∀ r, r ∈ B → RuleOk r) ∧ (∀ l, l ∈ w → NameOk l.1) ∧ w.length ≤ 100000 ∧
  ∀ H', Same H H' → Q (.bl (parts A B w)) H'
def fitD (b : Bool) (i j : Int) : PyData := if b = true then .tuple [.str "fits"] else .tuple [.str "unfit", .int i, .int j]
theorem fitD_eqv (b : Bool) (i j : Int) : PyData.eqv (fitD b i j) (.tuple [.str "fits"]) = b := by
  cases b
  · have e : PyData.eqv (.str "unfit") (.str "fits") = false := by rw [eqv_str]; decide +kernel
    show PyData.eqv (.tuple [.str "unfit", .int i, .int j]) (.tuple [.str "fits"]) = false
    simp only [PyData.eqv, PyData.eqvAll] at e ⊢
    rw [e]
    rfl
  · have e : PyData.eqv (.str "fits") (.str "fits") = true := by rw [eqv_str]; decide +kernel
    show PyData.eqv (.tuple [.str "fits"]) (.tuple [.str "fits"]) = true
    simp only [PyData.eqv, PyData.eqvAll] at e ⊢
    rw [e]
    rfl
theorem word_fits : NameOk "fits" := ⟨by decide +kernel, by decide +kernel⟩
theorem word_unfit : NameOk "unfit" := ⟨by decide +kernel, by decide +kernel⟩
theorem fits_shaped : SeqAt.shaped (.tuple [.str "fits"]) = true := strs_shaped (ns := ["fits"]) (by decide) fun x hx => by rw [List.mem_singleton.mp hx]; exact word_fits
theorem fitD_shaped (b : Bool) (i j : Int) : SeqAt.shaped (fitD b i j) = true := by
  cases b
  · have e1 : (PyData.tuple [.str "unfit", .int i, .int j]).canLay0 = true := by
      simp only [PyData.canLay0]
      refine canAll fun d hd => ?_
      simp only [List.mem_cons, List.not_mem_nil, or_false] at hd
      rcases hd with rfl | rfl | rfl
      · exact (dok_str word_unfit).can
      · simp only [PyData.canLay0]
      · simp only [PyData.canLay0]
    have e2 : (PyData.tuple [.str "unfit", .int i, .int j]).depth ≤ 64 := by
      simp only [PyData.depth, PyData.depthAll]
      decide
    show ((PyData.tuple [.str "unfit", .int i, .int j]).canLay0 && decide ((PyData.tuple [.str "unfit", .int i, .int j]).depth ≤ 64)) = true
    rw [e1, decide_eq_true e2]
    rfl
  · exact fits_shaped
theorem VerV.dp {K : PySem.W.Frag} {H : Hp} {b : Bool} {p : Addr} (h : VerV H b p) : ∃ i j, Dp K H (.ref p) (fitD b i j) := by
  cases b
  · obtain ⟨i, j, e⟩ := h
    exact ⟨i, j, .tup (SqT.of e) (.cons (.str _) (.cons (.int _) (.cons (.int _) .nil)))⟩
  · exact ⟨0, 0, .tup (SqT.of h) (.cons (.str _) .nil)⟩
theorem VerV.same {H H' : Hp} {b : Bool} {p : Addr} (h : VerV H b p) (s : Same H H') : VerV H' b p := by
  cases b
  · obtain ⟨i, j, e⟩ := h
    exact ⟨i, j, s _ _ e⟩
  · exact s _ _ h
section
variable {P : Program} {w : World} {K : PySem.W.Frag} {mg : Str → Option Value} {base : Heap}
theorem ok_law_verdict {f : Addr} {fd : FuncData} (F : Fun K "_law_verdict" "_law_verdict" s_law_verdict f fd) (T : Top K mg) (C_law_kept_rule : Cal P w K mg base 1 "_law_kept_rule" ["_law_rule_here", "_law_rows"] sp_law_kept_rule) : FnOk P w K mg base CX0 2 f fd ["_law_rules", "_law_rows"] sp_law_verdict := by
  refine F.ok sc_law_verdict (fun vs H Q E h => ?_) (fun cdv A outer s H vs Q E hr h => ?_)
  · obtain ⟨A, u, q, a, rfl, _⟩ := h
    rfl
  · obtain ⟨R, u, q, a, rfl, ⟨vs, hq, hp⟩, hL, hro, hno, hz, k⟩ := h
    refine ⟨_, (pss_cons (ps_for PassesOwn.never rfl (pi_enum (by rfl) T.enumerate (pa_cons (pv 0) pa_nil)) (pg_tup rfl (pgs_cons (pg_name (i := 2) sc_law_verdict.nd rfl (Or.inl rfl)) (pgs_cons (pg_name (i := 3) sc_law_verdict.nd rfl (Or.inl rfl)) pgs_nil)))
        (pss_cons (ps_set (i := 4) sc_law_verdict.nd rfl (Or.inl rfl) (pe_cal C_law_kept_rule (hr.mono (by decide)) rfl (pa_cons (pv 3) (pa_cons (pv 1) pa_nil))))
        (pss_one (ps_if (pt_cmpR op_notN (pv 4) pe_non (nomark _))
          (pss_one (ps_ret (pe_tup (pa_cons pe_str (pa_cons (pv 2) (pa_cons (pv 4) pa_nil))))))
          pss_nil))))
      (pss_one (ps_ret (pe_tup (pa_cons pe_str pa_nil))))), ?_⟩
    refine ⟨_, rfl, q, vs, rfl, SqL.of hq, for_enum (K := K) (a := q) (xs := vs) (fun i σ H2 => Same H H2 ∧ (∃ x2 x3 x4, σ = [some (.ref q), some (.ref a), x2, x3, x4]) ∧ ∀ j r, j < i → R[j]? = some r → fitR r u = true)
      ⟨Same.refl H, ⟨_, _, _, rfl⟩, fun j r h => absurd h (Nat.not_lt_zero _)⟩ (fun i σ H2 _ p => SqL.of (p.1 _ _ hq)) (fun i x U σ H2 hx p nU => ?_) (fun σ H2 p => ?_)⟩
    · obtain ⟨s2, ⟨x2, x3, x4, rfl⟩, hj⟩ := p
      obtain ⟨r, hr1, hv⟩ := paired_at hp hx
      have s3 : Same H (upd H2 U (.tup [.int (i : Nat), x])) := s2.trans (sNew nU)
      refine ⟨U, _, rfl, SqT.of upd_same, rfl, _, _, rfl, _, _, rfl, rfl, ?_⟩
      refine ⟨_, rfl, _, rfl, r, u, x, a, rfl, hv.same (tOf s3), hL.same s3, hro r (List.mem_of_getElem? hr1), hno, hz, fun H4 z s4 hz4 => ?_⟩
      have s04 := s3.trans s4
      rcases hz4 with ⟨hf, rfl⟩ | ⟨hf, n, rfl⟩
      · refine ⟨_, rfl, rfl, _, rfl, neT ?_⟩
        refine ⟨s04, ⟨_, _, _, rfl⟩, fun j r' h1 h2 => ?_⟩
        by_cases e : j < i
        · exact hj j r' e h2
        · have e : j = i := by omega
          subst e
          rw [hr1] at h2
          cases h2
          exact hf
      · refine ⟨_, rfl, rfl, _, rfl, neF (fun z => by cases z) ⟨_, rfl, _, rfl, (by show 3 ≤ sizeLine; decide), fun t nt => ?_⟩⟩
        refine k _ t (s04.trans (sNew nt)) ?_
        have e : fits R u = false := by
          unfold fits
          rw [List.all_eq_false]
          exact ⟨r, List.mem_of_getElem? hr1, by rw [hf]; exact Bool.false_ne_true⟩
        rw [e]
        exact ⟨_, _, upd_same⟩
    · obtain ⟨s2, _, hj⟩ := p
      refine ⟨(by show 1 ≤ sizeLine; decide), fun t nt => ?_⟩
      refine k _ t (s2.trans (sNew nt)) ?_
      have e : fits R u = true := by
        unfold fits
        rw [List.all_eq_true]
        intro r hr
        obtain ⟨j, hj1⟩ := List.getElem?_of_mem hr
        exact hj j r (by rw [← hp.length]; exact (List.getElem?_eq_some_iff.mp hj1).1) hj1
      rw [e]
      exact upd_same
theorem ok_law_fits_one {f : Addr} {fd : FuncData} (F : Fun K "_law_fits_one" "_law_fits_one" s_law_fits_one f fd) (T : Top K mg) (C_law_verdict : Cal P w K mg base 2 "_law_verdict" ["_law_rules", "_law_rows"] sp_law_verdict) : FnOk P w K mg base CX0 3 f fd ["_law_one", "_law_two", "_law_rows"] sp_law_fits_one := by
  refine F.ok sc_law_fits_one (fun vs H Q E h => ?_) (fun cdv A outer s H vs Q E hr h => ?_)
  · obtain ⟨A, B, u, q, q2, a, rfl, _⟩ := h
    rfl
  · obtain ⟨R, B, u, q, q2, a, rfl, hA, hB, hL, hro, hro2, hno, hz, k⟩ := h
    refine ⟨_, (pss_one (ps_ret (pe_cmpR op_ne (pe_cmpR (op_eqD hr.units) (pe_cal C_law_verdict (hr.mono (by decide)) rfl (pa_cons (pv 0) (pa_cons (pv 2) pa_nil))) (pe_tup (pa_cons pe_str pa_nil)) (nomark _)) (pe_cmpR (op_eqD hr.units) (pe_cal C_law_verdict (hr.mono (by decide)) rfl (pa_cons (pv 1) (pa_cons (pv 2) pa_nil))) (pe_tup (pa_cons pe_str pa_nil)) (nomark _)) (nomark _)))), ?_⟩
    refine ⟨_, rfl, _, rfl, R, u, q, a, rfl, hA, hL, hro, hno, hz, fun H1 p1 s1 hv1 => ⟨(by show 1 ≤ sizeLine; decide), fun t nt => ?_⟩⟩
    obtain ⟨i1, j1, d1⟩ := (hv1.same (sNew (o := .tup [.str "fits"]) nt)).dp (K := K)
    refine ⟨_, _, d1, .tup (SqT.of upd_same) (.cons (.str _) .nil), fitD_shaped _ _ _, fits_shaped, ?_⟩
    have s2 := s1.trans (sNew (o := .tup [.str "fits"]) nt)
    refine ⟨_, rfl, _, rfl, B, u, q2, a, rfl, hB.same s2, hL.same s2, hro2, hno, hz, fun H3 p3 s3 hv3 => ⟨(by show 1 ≤ sizeLine; decide), fun t2 nt2 => ?_⟩⟩
    obtain ⟨i3, j3, d3⟩ := (hv3.same (sNew (o := .tup [.str "fits"]) nt2)).dp (K := K)
    refine ⟨_, _, d3, .tup (SqT.of upd_same) (.cons (.str _) .nil), fitD_shaped _ _ _, fits_shaped, rfl, ?_⟩
    have e : (!decide (V.bl (PyData.eqv (fitD (fits R u) i1 j1) (.tuple [.str "fits"])) = V.bl (PyData.eqv (fitD (fits B u) i3 j3) (.tuple [.str "fits"])))) = parts R B u := by
      rw [fitD_eqv, fitD_eqv]
      unfold parts
      cases fits R u <;> cases fits B u <;> rfl
    rw [e]
    exact k _ (s2.trans (s3.trans (sNew nt2)))
end
end Sk
set_option Elab.async false
set_option linter.all false
set_option maxRecDepth 100000
namespace Sk
open PySem PySem.Spec PyProof.Rows L2 Sl Bf Zs Sr Dc2 Nd
/-! ### all logs of a length -/
def logsOf (L : List Le) : Nat → List (List Le)
  | 0 => [[]]
  | n + 1 => (logsOf L n).flatMap fun w => L.map fun l => w ++ [l]
theorem logs_words (L : List Le) : ∀ n, logsOf L n = (words L.length n).map (spell L) := by
  intro n
  induction n with
  | zero => rfl
  | succ n ih =>
    rw [logsOf, ih, words, List.map_flatMap, List.flatMap_map]
    apply congrArg List.flatten
    apply List.map_congr_left
    intro w _
    rw [List.map_map]
    apply List.ext_getElem?
    intro j
    rw [List.getElem?_map, List.getElem?_map]
    by_cases hj : j < L.length
    · rw [List.getElem?_eq_getElem hj, List.getElem?_range hj]
      exact congrArg some (spell_snoc L w (List.getElem?_eq_getElem hj)).symm
    · rw [List.getElem?_eq_none (Nat.le_of_not_lt hj), List.getElem?_eq_none (by rw [List.length_range]; exact Nat.le_of_not_lt hj)]
      rfl
theorem logs_len (L : List Le) (n : Nat) : (logsOf L n).length = L.length ^ n := by
  rw [logs_words, List.length_map, words_length]
theorem logs_word (L : List Le) : ∀ n w, w ∈ logsOf L n → w.length = n := by
  intro n
  induction n with
  | zero => intro w hw; rw [List.mem_singleton.mp hw]; rfl
  | succ n ih =>
    intro w hw
    obtain ⟨u, hu, hw⟩ := List.mem_flatMap.mp hw
    obtain ⟨l, hl, rfl⟩ := List.mem_map.mp hw
    rw [List.length_append, ih u hu]
    rfl
theorem flat_len {α β : Type} (f : α → List β) (k : Nat) : ∀ l : List α, (∀ x, x ∈ l → (f x).length = k) → (l.flatMap f).length = l.length * k
  | [], _ => by simp
  | x :: l, h => by
    rw [List.flatMap_cons, List.length_append, h x (List.mem_cons_self ..), flat_len f k l fun y hy => h y (List.mem_cons_of_mem _ hy), List.length_cons, Nat.succ_mul]
    omega
/-- logs in a list -/
def LogsV (H : Hp) (ws : List (List Le)) (a : Addr) : Prop := ∃ vs, H a = some (.lst vs) ∧ Paired (fun w v => ∃ b, v = .ref b ∧ LogV H w b) ws vs
theorem logsSame {H H' : Hp} {ws : List (List Le)} {vs : List V} (h : Paired (fun w v => ∃ b, v = .ref b ∧ LogV H w b) ws vs) (s : Same H H') : Paired (fun w v => ∃ b, v = .ref b ∧ LogV H' w b) ws vs :=
  Paired.mapP h fun w v ⟨b, e, q⟩ => ⟨b, e, q.same s⟩
theorem LogsV.same {H H' : Hp} {ws : List (List Le)} {a : Addr} (h : LogsV H ws a) (s : Same H H') : LogsV H' ws a := by
  obtain ⟨vs, h1, h2⟩ := h
  exact ⟨vs, s _ _ h1, logsSame h2 s⟩
theorem made_stepX {G : Nat → Hp → V → Prop} {H1 : Hp} {D : Addr} (hG : ∀ j H H' v, SameX D H H' → SameT H H' → G j H v → G j H' v) (n : H1 D = none) {i : Nat} {H H4 : Hp} {y : V} (hi : i < sizeLine) (p : Made G H1 D i H) (s : Same H H4) (hy : G i H4 y) :
    ∃ acc, H4 D = some (.lst acc) ∧ acc.length < sizeLine ∧ Made G H1 D (i + 1) (upd H4 D (.lst (acc ++ [y]))) := by
  obtain ⟨s1, acc, e, hl, h⟩ := p
  have st : SameT H4 (upd H4 D (.lst (acc ++ [y]))) := tLst (s _ _ e)
  refine ⟨acc, s _ _ e, by omega, fun b o q => ?_, acc ++ [y], upd_same, by rw [List.length_append, List.length_singleton, hl], fun j v q => ?_⟩
  · rw [upd_ne (ne_of_none q n)]
    exact s _ _ (s1 _ _ q)
  · rcases getElem?_append_one q with q | ⟨q2, e2⟩
    · exact hG _ _ _ _ ((xOf s).trans xUpd) ((tOf s).trans st) (h j v q)
    · subst e2
      rw [q2, hl]
      exact hG _ _ _ _ xUpd st hy
abbrev s_law_logs : Stmt := top 44
abbrev N_law_logs : List Str := ["_law_letters_here", "_law_size", "_law_found", "_law_turn", "_law_longer", "_law_rows", "_law_row"]
theorem sc_law_logs : FnScope N_law_logs ["_law_letters_here", "_law_size"] (defScope s_law_logs) := ⟨rfl, rfl, rfl, by decide +kernel, rfl, by decide +kernel, by decide +kernel⟩
-- slots: 0 _law_letters_here, 1 _law_size, 2 _law_found, 3 _law_turn, 4 _law_longer, 5 _law_rows*, 6 _law_row
def sp_law_logs : Sp := fun vs H Q _ => ∃ (L : List Le) (q : Addr) (n : Nat), vs = [.ref q, .int (n : Int)] ∧ LogV H L q ∧ n ≤ 3 ∧ (∀ i, i ≤ n → L.length ^ i ≤ 1000000) ∧ ∀ H' p, Same H H' → LogsV H' (logsOf L n) p → Q (.ref p) H'
section
variable {P : Program} {w : World} {K : PySem.W.Frag} {mg : Str → Option Value} {base : Heap}
theorem ok_law_logs {f : Addr} {fd : FuncData} (F : Fun K "_law_logs" "_law_logs" s_law_logs f fd) (T : Top K mg) : FnOk P w K mg base CX0 1 f fd ["_law_letters_here", "_law_size"] sp_law_logs := by
  refine F.ok sc_law_logs (fun vs H Q E h => ?_) (fun cdv A outer s H vs Q E hr h => ?_)
  · obtain ⟨L, q, n, rfl, _⟩ := h
    rfl
  · obtain ⟨L, q, n, rfl, ⟨ls, hq, hp⟩, hn, hz, k⟩ := h
    refine ⟨_, (pss_cons (ps_set (i := 2) sc_law_logs.nd rfl (Or.inl rfl) (pe_lst (pa_cons (pe_lst pa_nil) pa_nil)))
      (pss_cons (ps_for PassesOwn.never rfl (pi_range1 (by rfl) T.range (pa_cons (pv 1) pa_nil)) (pg_name (i := 3) sc_law_logs.nd rfl (Or.inl rfl))
        (pss_cons (ps_set (i := 4) sc_law_logs.nd rfl (Or.inl rfl) (pe_lst pa_nil))
        (pss_cons (ps_for PassesOwn.never rfl (pi_list (pv 2)) (pg_name (i := 5) sc_law_logs.nd rfl (Or.inr rfl))
          (pss_one (ps_set (i := 4) sc_law_logs.nd rfl (Or.inl rfl) (pe_op op_cat (pv 4) (pe_lc (own := [("_law_row", 6)]) (by rfl) sc_law_logs.nd (pi_list (pv 0)) (blkOk_by (own := [("_law_row", 6)]) (N := N_law_logs) (sc := defScope s_law_logs) (by decide +kernel)) (fun _ _ _ _ _ => (pg_name (i := 6) sc_law_logs.nd rfl (Or.inl rfl))) (fun _ _ _ _ _ => pts_nil) (fun _ _ _ _ _ => (pe_op op_cat (pv 5) (pe_lst (pa_cons (pv 6) pa_nil)))))))))
        (pss_one (ps_set (i := 2) sc_law_logs.nd rfl (Or.inl rfl) (pv 4))))))
      (pss_one (ps_ret (pv 2))))), ?_⟩
    have hline : (2000000 : Nat) ≤ sizeLine := by decide
    refine ⟨Nat.zero_le _, fun e0 ne0 => ⟨(by show 1 ≤ sizeLine; decide), fun f0 nf0 => ?_⟩⟩
    have s0 : Same H (upd (upd H e0 (.lst [])) f0 (.lst [.ref e0])) := (sNew ne0).trans (sNew nf0)
    have g0 : LogsV (upd (upd H e0 (.lst [])) f0 (.lst [.ref e0])) (logsOf L 0) f0 := ⟨_, upd_same, .cons ⟨e0, rfl, [], sNew nf0 _ _ upd_same, .nil⟩ .nil⟩
    refine ⟨_, rfl, _, rfl, by omega, by omega, for_range (lo := 0) (n := (n : Int).toNat) (fun i σ H2 => Same H H2 ∧ ∃ fnd x3 x4 x5 x6, σ = [some (.ref q), some (.int (n : Int)), some (.ref fnd), x3, x4, x5, x6] ∧ LogsV H2 (logsOf L i) fnd) ⟨s0, f0, _, _, _, _, rfl, g0⟩ (fun i σ H2 hi p => ?_) (fun σ H2 p => ?_)⟩
    · obtain ⟨s2, fnd, x3, x4, x5, x6, rfl, vs, hf, hfp⟩ := p
      have hi : i + 1 ≤ n := by omega
      have hws := logs_len L i
      have hb1 := hz (i + 1) hi
      refine ⟨Nat.zero_le _, fun lg0 nlg0 => ?_⟩
      refine ⟨_, rfl, fnd, rfl, ⟨vs, SqL.of (sNew nlg0 _ _ hf)⟩, for_list (K := K) (a := fnd) (xs := vs) (fun j σ H4 => Same H2 H4 ∧ ∃ lg x5 x6, σ = [some (.ref q), some (.int (n : Int)), some (.ref fnd), some (.int (0 + (i : Int))), some (.ref lg), x5, x6] ∧ LogsV H4 (((logsOf L i).take j).flatMap fun w => L.map fun l => w ++ [l]) lg)
        ⟨sNew nlg0, lg0, _, _, rfl, [], upd_same, .nil⟩ (fun j σ H4 _ p => SqL.of (p.1 _ _ hf)) (fun j x σ H4 hx p => ?_) (fun σ H4 p => ?_)⟩
      · obtain ⟨s4, lg, x5, x6, rfl, us, hlg, hlgp⟩ := p
        obtain ⟨w0, hw0, b, rfl, rs, hb, hbp⟩ := paired_at hfp hx
        have hwl := logs_word L i w0 (List.mem_of_getElem? hw0)
        have hrl : rs.length = i := by rw [← hbp.length, hwl]
        have hjl : j < (logsOf L i).length := (List.getElem?_eq_some_iff.mp hw0).1
        have hls : ls.length = L.length := hp.length.symm
        have hfl : (((logsOf L i).take j).flatMap fun w => L.map fun l => w ++ [l]).length = j * L.length := by
          rw [flat_len _ L.length _ fun x _ => List.length_map _, List.length_take, Nat.min_eq_left (Nat.le_of_lt hjl)]
        have hul : us.length = j * L.length := by rw [← hlgp.length, hfl]
        have hpow : j * L.length + L.length ≤ 1000000 := by
          have h1 : (j + 1) * L.length ≤ (logsOf L i).length * L.length := Nat.mul_le_mul_right _ hjl
          rw [hws, ← Nat.pow_succ] at h1
          rw [Nat.succ_mul] at h1
          exact Nat.le_trans h1 hb1
        refine ⟨_, rfl, _, rfl, q, rfl, ⟨ls, SqL.of (s4 _ _ (s2 _ _ hq))⟩, fun D nD => lc_list (K := K) (a := q) (xs := ls) (Made (fun j H v => ∃ l b', L[j]? = some l ∧ v = .ref b' ∧ b' ≠ D ∧ LogV H (w0 ++ [l]) b') H4 D) (made0 nD) (fun i H5 _ p => SqL.of (p.1 _ _ (s4 _ _ (s2 _ _ hq)))) (fun i2 x H5 hx5 p5 => ?_) (fun H5 p5 => ?_)⟩
        · obtain ⟨l, hl, y, rfl, hy⟩ := paired_at hp hx5
          have hi2 : i2 < ls.length := (List.getElem?_eq_some_iff.mp hx5).1
          have s5 := s2.trans (s4.trans p5.1)
          have hb5 := p5.1 _ _ (s4 _ _ hb)
          refine ⟨rfl, _, rfl, _, rfl, (by show 1 ≤ sizeLine; decide), fun l1 nl1 => ⟨b, l1, rs, _, rfl, rfl, sNew nl1 _ _ hb5, upd_same, (by show rs.length + 1 ≤ sizeLine; omega), fun c nc => ?_⟩⟩
          have s56 := (sNew (o := .lst [.ref y]) nl1).trans (sNew (o := .lst (rs ++ [.ref y])) nc)
          obtain ⟨acc5, hD5, _⟩ := p5.2
          refine made_stepX (fun j H H' v sx st g => ?_) nD (by omega) p5 s56 ⟨l, c, hl, rfl, ?_, _, upd_same, ?_⟩
          · obtain ⟨l, b', h1, h2, h3, zs, h4, h5⟩ := g
            exact ⟨l, b', h1, h2, h3, zs, sx _ _ h4 h3, rowsSame h5 st⟩
          · exact (ne_of_none (sNew nl1 _ _ hD5) nc).symm
          · exact paired_app (rowsSame hbp (tOf ((s4.trans p5.1).trans s56))) (.cons ⟨y, rfl, s56 _ _ (s5 _ _ hy)⟩ .nil)
        · obtain ⟨s5, acc, hD, hal, hacc⟩ := p5
          have hal : acc.length = L.length := by omega
          refine ⟨lg, D, us, acc, rfl, rfl, s5 _ _ hlg, hD, by omega, fun c nc => ?_⟩
          refine ⟨s4.trans (s5.trans (sNew nc)), c, _, _, rfl, _, upd_same, ?_⟩
          have et : ((logsOf L i).take (j + 1)).flatMap (fun w => L.map fun l => w ++ [l]) = (((logsOf L i).take j).flatMap fun w => L.map fun l => w ++ [l]) ++ L.map fun l => w0 ++ [l] := by
            rw [List.take_succ, hw0, List.flatMap_append]
            congr 1
            simp
          rw [et]
          refine paired_app (logsSame hlgp (s5.trans (sNew nc))) (paired_of (by rw [List.length_map, hal]) fun j' w' v' h1 h2 => ?_)
          obtain ⟨l, b', h3, h4, _, h5⟩ := hacc j' v' h2
          rw [List.getElem?_map, h3] at h1
          have h1 : w0 ++ [l] = w' := Option.some.inj h1
          subst h1
          exact ⟨b', h4, h5.same (sNew nc)⟩
      · obtain ⟨s4, lg, x5, x6, rfl, g⟩ := p
        have e : (logsOf L i).take vs.length = logsOf L i := by rw [← hfp.length, List.take_length]
        rw [e] at g
        exact ⟨_, rfl, s2.trans s4, lg, _, _, _, _, rfl, g⟩
    · obtain ⟨s2, fnd, x3, x4, x5, x6, rfl, g⟩ := p
      exact ⟨_, rfl, k H2 fnd s2 (by rw [Int.toNat_natCast] at g; exact g)⟩
end
end Sk
set_option Elab.async false
set_option linter.all false
set_option maxRecDepth 100000
namespace Sk
open PySem PySem.Spec PyProof.Rows L2 Sl Bf Zs Sr Dc2 Nd
/-! ### the letters of policies: names and notes, each rising -/
def leS (a b : Str) : Prop := a.cps.toList ≤ b.cps.toList
theorem rising_pair : ∀ (l : List Str) (p : Str), risingS p l = true → (p :: l).Pairwise leS
  | [], p, _ => List.pairwise_singleton _ _
  | x :: r, p, h => by
    have h : (!ltCps x.cps.toList p.cps.toList && risingS x r) = true := h
    obtain ⟨h1, h2⟩ := Bool.and_eq_true_iff.mp h
    have h1 : ¬ x.cps.toList < p.cps.toList := by
      rw [ltCps_eq] at h1
      simpa using h1
    have hx : leS p x := List.not_lt.mp h1
    have ih := rising_pair r x h2
    refine List.pairwise_cons.mpr ⟨fun y hy => ?_, ih⟩
    rcases List.mem_cons.mp hy with rfl | hy
    · exact hx
    · exact List.le_trans hx ((List.pairwise_cons.mp ih).1 y hy)
theorem sorted_pair {l : List Str} (h : sortedS l = true) : l.Pairwise leS := by
  cases l with
  | nil => exact .nil
  | cons x r => exact rising_pair r x h
theorem str_ext {a b : Str} (h : a.cps.toList = b.cps.toList) : a = b := by
  cases a with
  | mk a =>
    cases b with
    | mk b =>
      have h : a.toList = b.toList := h
      rw [Array.toList_inj.mp h]
theorem sortedS_unique {l m : List Str} (h1 : sortedS l = true) (h2 : sortedS m = true) (n1 : l.Nodup) (n2 : m.Nodup) (h : ∀ x, x ∈ l ↔ x ∈ m) : l = m :=
  List.Perm.eq_of_pairwise (le := leS) (fun a b _ _ p q => str_ext (List.le_antisymm p q)) (sorted_pair h1) (sorted_pair h2) ((List.perm_ext_iff_of_nodup n1 n2).mpr h)
theorem risingI_unique {l m : List Int} (h1 : l.Pairwise (· < ·)) (h2 : m.Pairwise (· < ·)) (h : ∀ x, x ∈ l ↔ x ∈ m) : l = m :=
  List.Perm.eq_of_pairwise (le := fun a b => a < b) (fun a b _ _ p q => absurd (Int.lt_trans p q) (Int.lt_irrefl _)) h1 h2 ((List.perm_ext_iff_of_nodup (h1.imp fun h => Int.ne_of_lt h) (h2.imp fun h => Int.ne_of_lt h)).mpr h)
def letter (i : Nat) : Str := ⟨#[97 + i]⟩
theorem letter_inj {i j : Nat} (h : letter i = letter j) : i = j := by
  have e : (letter i).cps.toList = (letter j).cps.toList := by rw [h]
  have e : [97 + i] = [97 + j] := e
  injection e with e _
  omega
theorem letter_ok {i : Nat} (h : i < 26) : NameOk (letter i) := by
  refine ⟨by show 1 ≤ 10; decide, fun c hc => ?_⟩
  have hc : c ∈ [97 + i] := hc
  rw [List.mem_singleton.mp hc]
  omega
/-- the i-th letter is the first that is not among these -/
def FirstL (S : List Str) (i : Nat) : Prop := i < 26 ∧ ¬ letter i ∈ S ∧ ∀ j, j < i → letter j ∈ S
theorem FirstL.unique {S S' : List Str} {i j : Nat} (e : ∀ x, x ∈ S ↔ x ∈ S') (h : FirstL S i) (h' : FirstL S' j) : i = j := by
  rcases Nat.lt_trichotomy i j with q | q | q
  · exact absurd ((e _).mpr (h'.2.2 i q)) h.2.1
  · exact q
  · exact absurd ((e _).mp (h.2.2 j q)) h'.2.1
theorem firstL_some {S : List Str} (h : S.length ≤ 25) : ∃ i, FirstL S i := by
  have ex : ∃ i, i < 26 ∧ ¬ letter i ∈ S := by
    apply Classical.byContradiction
    intro hn
    have all : ∀ i, i < 26 → letter i ∈ S := fun i hi => Classical.byContradiction fun c => hn ⟨i, hi, c⟩
    have hnd : ((List.range 26).map letter).Nodup := List.Pairwise.map _ (fun a b hne e => hne (letter_inj e)) List.nodup_range
    have q := Bf.length_le_of_nodup hnd (s := S) fun x hx => by
      obtain ⟨i, hi, rfl⟩ := List.mem_map.mp hx
      exact all i (List.mem_range.mp hi)
    rw [List.length_map, List.length_range] at q
    omega
  obtain ⟨i, hi1, hi2⟩ := ex
  have key : ∀ n, ∀ i, i ≤ n → i < 26 → ¬ letter i ∈ S → ∃ j, FirstL S j := by
    intro n
    induction n with
    | zero => intro i hi h1 h2; exact ⟨i, h1, h2, fun j hj => by omega⟩
    | succ n ih =>
      intro i hi h1 h2
      by_cases q : ∃ j, j < i ∧ ¬ letter j ∈ S
      · obtain ⟨j, hj, hj2⟩ := q
        exact ih j (by omega) (by omega) hj2
      · exact ⟨i, h1, h2, fun j hj => Classical.byContradiction fun c => q ⟨j, hj, c⟩⟩
  exact key i i (Nat.le_refl _) hi1 hi2
/-- the least number that is not among these -/
def FirstK (S : List Int) (i : Nat) : Prop := ¬ (i : Int) ∈ S ∧ ∀ j : Nat, j < i → (j : Int) ∈ S
theorem FirstK.unique {S S' : List Int} {i j : Nat} (e : ∀ x, x ∈ S ↔ x ∈ S') (h : FirstK S i) (h' : FirstK S' j) : i = j := by
  rcases Nat.lt_trichotomy i j with q | q | q
  · exact absurd ((e _).mpr (h'.2 i q)) h.1
  · exact q
  · exact absurd ((e _).mp (h.2 j q)) h'.1
theorem firstK_le {S : List Int} {i : Nat} (h : FirstK S i) : i ≤ S.length := by
  have hnd : ((List.range i).map fun j : Nat => (j : Int)).Nodup := List.Pairwise.map _ (fun a b hne e => hne (Int.ofNat_inj.mp e)) List.nodup_range
  have q := Bf.length_le_of_nodup hnd (s := S) fun x hx => by
    obtain ⟨j, hj, rfl⟩ := List.mem_map.mp hx
    exact h.2 j (List.mem_range.mp hj)
  rw [List.length_map, List.length_range] at q
  exact q
def namesAll (A : List Ru) : List Str := A.flatMap namesR
def notesR (n : Str) : Ru → List Int
  | .note m ks => if m = n then ks else []
  | _ => []
def notesAll (A : List Ru) (n : Str) : List Int := A.flatMap (notesR n)
def IsNames (A : List Ru) (ys : List Str) : Prop := sortedS ys = true ∧ ys.Nodup ∧ ∃ i, FirstL (namesAll A) i ∧ ∀ x, x ∈ ys ↔ x ∈ namesAll A ∨ x = letter i
def IsNotes (A : List Ru) (n : Str) (ks : List Int) : Prop := ks.Pairwise (· < ·) ∧ ∃ i, FirstK (notesAll A n) i ∧ ∀ k, k ∈ ks ↔ k ∈ notesAll A n ∨ k = (i : Int)
def IsLetters (A : List Ru) (L : List Le) : Prop := ∃ (ys : List Str) (f : Str → List Int), IsNames A ys ∧ (∀ y, y ∈ ys → IsNotes A y (f y)) ∧ L = ys.flatMap fun y => (f y).map fun k => (y, k)
theorem IsNames.unique {A B : List Ru} {ys zs : List Str} (e : ∀ r, r ∈ A ↔ r ∈ B) (h : IsNames A ys) (h' : IsNames B zs) : ys = zs := by
  have en : ∀ x, x ∈ namesAll A ↔ x ∈ namesAll B := fun x => by
    unfold namesAll
    rw [List.mem_flatMap, List.mem_flatMap]
    exact ⟨fun ⟨r, h1, h2⟩ => ⟨r, (e r).mp h1, h2⟩, fun ⟨r, h1, h2⟩ => ⟨r, (e r).mpr h1, h2⟩⟩
  obtain ⟨s1, n1, i, f1, m1⟩ := h
  obtain ⟨s2, n2, j, f2, m2⟩ := h'
  have q := FirstL.unique en f1 f2
  subst q
  exact sortedS_unique s1 s2 n1 n2 fun x => by rw [m1, m2, en]
theorem IsNotes.unique {A B : List Ru} {n : Str} {ys zs : List Int} (e : ∀ r, r ∈ A ↔ r ∈ B) (h : IsNotes A n ys) (h' : IsNotes B n zs) : ys = zs := by
  have en : ∀ x, x ∈ notesAll A n ↔ x ∈ notesAll B n := fun x => by
    unfold notesAll
    rw [List.mem_flatMap, List.mem_flatMap]
    exact ⟨fun ⟨r, h1, h2⟩ => ⟨r, (e r).mp h1, h2⟩, fun ⟨r, h1, h2⟩ => ⟨r, (e r).mpr h1, h2⟩⟩
  obtain ⟨s1, i, f1, m1⟩ := h
  obtain ⟨s2, j, f2, m2⟩ := h'
  have q := FirstK.unique en f1 f2
  subst q
  exact risingI_unique s1 s2 fun x => by rw [m1, m2, en]
theorem IsLetters.unique {A B : List Ru} {L M : List Le} (e : ∀ r, r ∈ A ↔ r ∈ B) (h : IsLetters A L) (h' : IsLetters B M) : L = M := by
  obtain ⟨ys, f, h1, h2, rfl⟩ := h
  obtain ⟨zs, g, h3, h4, rfl⟩ := h'
  have q := h1.unique e h3
  subst q
  apply congrArg List.flatten
  apply List.map_congr_left
  intro y hy
  rw [(h2 y hy).unique e (h4 y hy)]
/-! ### their numbers, and that they are fine -/
theorem namesR_few {r : Ru} (h : RuleOk r) : (namesR r).length ≤ 4 := by
  cases r with
  | must n => exact lle rfl
  | only ns => exact h.1
  | note n ks => exact lle rfl
  | ahead a b => exact lle rfl
  | never a b => exact lle rfl
  | most n k => exact lle rfl
  | next a b => exact lle rfl
theorem namesR_ok {r : Ru} (h : RuleOk r) : ∀ x, x ∈ namesR r → NameOk x := by
  cases r with
  | must n => intro x hx; rw [List.mem_singleton.mp hx]; exact h
  | only ns => exact h.2
  | note n ks => intro x hx; rw [List.mem_singleton.mp hx]; exact h.1
  | ahead a b =>
    intro x hx
    rcases List.mem_cons.mp hx with rfl | hx
    · exact h.1
    · rw [List.mem_singleton.mp hx]; exact h.2
  | never a b =>
    intro x hx
    rcases List.mem_cons.mp hx with rfl | hx
    · exact h.1
    · rw [List.mem_singleton.mp hx]; exact h.2
  | most n k => intro x hx; rw [List.mem_singleton.mp hx]; exact h.1
  | next a b =>
    intro x hx
    rcases List.mem_cons.mp hx with rfl | hx
    · exact h.1
    · rw [List.mem_singleton.mp hx]; exact h.2
theorem flat_few {α β : Type} (f : α → List β) (k : Nat) : ∀ l : List α, (∀ x, x ∈ l → (f x).length ≤ k) → (l.flatMap f).length ≤ l.length * k
  | [], _ => by simp
  | x :: l, h => by
    have h1 := h x (List.mem_cons_self ..)
    have h2 := flat_few f k l fun y hy => h y (List.mem_cons_of_mem _ hy)
    have e : (x :: l).length * k = l.length * k + k := by rw [List.length_cons, Nat.succ_mul]
    rw [List.flatMap_cons, List.length_append, e]
    omega
theorem namesAll_few {A : List Ru} (h : ∀ r, r ∈ A → RuleOk r) (hl : A.length ≤ 6) : (namesAll A).length ≤ 24 := by
  have q := flat_few namesR 4 A fun r hr => namesR_few (h r hr)
  have : A.length * 4 ≤ 6 * 4 := Nat.mul_le_mul_right _ hl
  show (A.flatMap namesR).length ≤ 24
  omega
theorem notesAll_few {A : List Ru} (h : ∀ r, r ∈ A → RuleOk r) (hl : A.length ≤ 6) (n : Str) : (notesAll A n).length ≤ 24 := by
  have q := flat_few (notesR n) 4 A fun r hr => by
    have := h r hr
    cases r with
    | note m ks =>
      show (if m = n then ks else []).length ≤ 4
      by_cases e : m = n
      · rw [if_pos e]; exact this.2.1
      · rw [if_neg e]; exact Nat.zero_le _
    | _ => exact Nat.zero_le _
  have : A.length * 4 ≤ 6 * 4 := Nat.mul_le_mul_right _ hl
  show (A.flatMap (notesR n)).length ≤ 24
  omega
theorem IsNames.few {A : List Ru} {ys : List Str} (h : IsNames A ys) (ho : ∀ r, r ∈ A → RuleOk r) (hl : A.length ≤ 6) : ys.length ≤ 25 := by
  obtain ⟨_, nd, i, _, m⟩ := h
  have q := Bf.length_le_of_nodup nd (s := namesAll A ++ [letter i]) fun x hx => by
    rcases (m x).mp hx with z | z
    · exact List.mem_append_left _ z
    · exact List.mem_append_right _ (List.mem_singleton.mpr z)
  have := namesAll_few ho hl
  rw [List.length_append, List.length_singleton] at q
  omega
theorem IsNotes.few {A : List Ru} {n : Str} {ks : List Int} (h : IsNotes A n ks) (ho : ∀ r, r ∈ A → RuleOk r) (hl : A.length ≤ 6) : ks.length ≤ 25 := by
  obtain ⟨so, i, _, m⟩ := h
  have nd : ks.Nodup := so.imp fun h => Int.ne_of_lt h
  have q := Bf.length_le_of_nodup nd (s := notesAll A n ++ [(i : Int)]) fun x hx => by
    rcases (m x).mp hx with z | z
    · exact List.mem_append_left _ z
    · exact List.mem_append_right _ (List.mem_singleton.mpr z)
  have := notesAll_few ho hl n
  rw [List.length_append, List.length_singleton] at q
  omega
theorem IsNames.ok {A : List Ru} {ys : List Str} (h : IsNames A ys) (ho : ∀ r, r ∈ A → RuleOk r) : ∀ y, y ∈ ys → NameOk y := fun y hy => by
  obtain ⟨_, _, i, hi, m⟩ := h
  rcases (m y).mp hy with z | z
  · obtain ⟨r, hr, hy⟩ := List.mem_flatMap.mp z
    exact namesR_ok (ho r hr) y hy
  · rw [z]
    exact letter_ok hi.1
theorem IsLetters.few {A : List Ru} {L : List Le} (h : IsLetters A L) (ho : ∀ r, r ∈ A → RuleOk r) (hl : A.length ≤ 6) : L.length ≤ 625 := by
  obtain ⟨ys, f, h1, h2, rfl⟩ := h
  have q := flat_few (fun y => (f y).map fun k => (y, k)) 25 ys fun y hy => by rw [List.length_map]; exact (h2 y hy).few ho hl
  have q2 := h1.few ho hl
  have : ys.length * 25 ≤ 25 * 25 := Nat.mul_le_mul_right _ q2
  omega
theorem IsLetters.ok {A : List Ru} {L : List Le} (h : IsLetters A L) (ho : ∀ r, r ∈ A → RuleOk r) : ∀ l, l ∈ L → NameOk l.1 := fun l hl => by
  obtain ⟨ys, f, h1, h2, rfl⟩ := h
  obtain ⟨y, hy, hl⟩ := List.mem_flatMap.mp hl
  obtain ⟨k, _, rfl⟩ := List.mem_map.mp hl
  exact h1.ok ho y hy
end Sk
set_option Elab.async false
set_option linter.all false
set_option maxRecDepth 100000
namespace Sk
open PySem PySem.Spec PyProof.Rows L2 Sl Bf Zs Sr Dc2 Nd
theorem ip_fdiv {X : Cx} : PIp X .FloorDiv (rI CDiv fun i j => .int (i / j)) := iop_fdiv
abbrev s_name_of : Stmt := top 7
abbrev N_name_of : List Str := ["number", "letters", "rest"]
theorem sc_name_of : FnScope N_name_of ["number"] (defScope s_name_of) := ⟨rfl, rfl, rfl, by decide +kernel, rfl, by decide +kernel, by decide +kernel⟩
-- slots: 0 number, 1 letters, 2 rest
def sp_name_of : Sp := fun vs H Q _ => ∃ i : Nat, vs = [.int ((i : Int) + 1)] ∧ i < 26 ∧ ∀ H', Same H H' → Q (.str (letter i)) H'
theorem abc_letter {i : Nat} (h : i < 26) : (Str.ofString "abcdefghijklmnopqrstuvwxyz").cps.toList[i]? = some (97 + i) := by
  have : ∀ i, i < 26 → (Str.ofString "abcdefghijklmnopqrstuvwxyz").cps.toList[i]? = some (97 + i) := by decide +kernel
  exact this i h
section
variable {P : Program} {w : World} {K : PySem.W.Frag} {mg : Str → Option Value} {base : Heap}
theorem ok_name_of {f : Addr} {fd : FuncData} (F : Fun K "name_of" "name_of" s_name_of f fd) (T : Top K mg) : FnOk P w K mg base CX0 1 f fd ["number"] sp_name_of := by
  refine F.ok sc_name_of (fun vs H Q E h => ?_) (fun cdv A outer s H vs Q E hr h => ?_)
  · obtain ⟨i, rfl, _⟩ := h
    rfl
  · obtain ⟨i, rfl, hi, k⟩ := h
    obtain ⟨tB, mBASE⟩ := T.gBASE
    obtain ⟨tL, mLONGEST⟩ := T.gLONGEST
    obtain ⟨tA, mLETTERS⟩ := T.gLETTERS
    refine ⟨_, (pss_cons (ps_par (i := 1) (j := 2) (by rfl) sc_name_of.nd rfl rfl (by decide) rfl rfl (pa_cons (pe_lst pa_nil) (pa_cons (pv 0) pa_nil)) (by rfl))
      (pss_cons (ps_while PassesOwn.never (PW.pt (pw_and (pt_cmpR op_gt (pv 2) pe_int (nomark _)) (pw_and1 (pt_cmpR op_gt (pe_op op_mod (pv 2) (pe_glob (v := .int 27) rfl mBASE ⟨_, rfl⟩)) pe_int (nomark _)))))
        (pss_cons (ps_expr (pe_bm PySem.F.plainAttrs_list PySem.F.slot_list_append PySem.F.type_list_append mt_append (pv 1) (pa_cons (pe_ix ix_str (pe_glob (v := .str "abcdefghijklmnopqrstuvwxyz") rfl mLETTERS ⟨_, rfl⟩) (pe_op op_sub (pe_op op_mod (pv 2) (pe_glob (v := .int 27) rfl mBASE ⟨_, rfl⟩)) pe_int) (fun _ _ => rfl)) pa_nil)))
        (pss_one (ps_aug (i := 2) sc_name_of.nd rfl (Or.inl rfl) (pe_glob (v := .int 27) rfl mBASE ⟨_, rfl⟩) ip_fdiv))))
      (pss_cons (ps_if (PW.pt (pw_or (pt_cmpR op_ne (pv 2) pe_int (nomark _)) (pw_or1 (pt_not (pt_chain op_le op_le pe_int (pe_callB call_len_seq (by rfl) T.len (by decide +kernel) (pa_cons (pv 1) pa_nil)) (pe_glob (v := .int 4) rfl mLONGEST ⟨_, rfl⟩))))))
        (pss_one ps_never)
        pss_nil)
      (pss_one (ps_ret (pe_join pe_str (pe_revL (pv 1)))))))), ?_⟩
    refine ⟨Nat.zero_le _, fun p np => ⟨_, rfl, _, _, rfl, ?_⟩⟩
    refine ⟨fun m σ H2 => Same H H2 ∧ ((m = 1 ∧ σ = [some (.int ((i : Int) + 1)), some (.ref p), some (.int ((i : Int) + 1))] ∧ H2 p = some (.lst [])) ∨ (m = 0 ∧ σ = [some (.int ((i : Int) + 1)), some (.ref p), some (.int 0)] ∧ H2 p = some (.lst [.str (letter i)]))), ⟨1, sNew np, .inl ⟨rfl, rfl, upd_same⟩⟩, fun m σ H2 q => ?_⟩
    obtain ⟨s2, q⟩ := q
    have hmod : ((i : Int) + 1) % 27 = (i : Int) + 1 := Int.emod_eq_of_lt (by omega) (by omega)
    rcases q with ⟨rfl, rfl, hp⟩ | ⟨rfl, rfl, hp⟩
    · refine ⟨_, rfl, _, _, rfl, rfl, _, rfl, iteD (k' := true) (decide_eq_true (by omega)) (iteT ?_)⟩
      refine ⟨_, rfl, _, _, rfl, rfl, (by show (0 : Int) < 27; decide), _, _, rfl, rfl, _, rfl, iteD (k' := true) (decide_eq_true (by rw [hmod]; omega)) (iteT ?_)⟩
      refine ⟨fun σ' H' => Same H H' ∧ σ' = [some (.int ((i : Int) + 1)), some (.ref p), some (.int 0)] ∧ H' p = some (.lst [.str (letter i)]), fun σ' H' h => ⟨0, by decide, h.1, .inr ⟨rfl, h.2⟩⟩, ?_⟩
      refine ⟨_, rfl, .inl ⟨rfl, _, SqL.of hp⟩, _, rfl, _, _, rfl, rfl, (by show (0 : Int) < 27; decide), _, _, rfl, rfl, _, _, 97 + i, rfl, rfl, by decide +kernel, ?_, p, _, _, rfl, rfl, hp, by decide, ?_⟩
      · show atI _ (((i : Int) + 1) % 27 - 1) = _
        rw [hmod]
        have e : (i : Int) + 1 - 1 = (i : Int) := by omega
        rw [e]
        exact atI_nat (abc_letter hi)
      refine ⟨_, rfl, _, _, rfl, rfl, ⟨by decide, by decide⟩, fun b o e => ?_, ?_, upd_same⟩
      · have hb : b ≠ p := ne_of_none e np
        rw [upd_ne hb]
        exact s2 _ _ e
      · have e : ((i : Int) + 1) / 27 = 0 := Int.ediv_eq_zero_of_lt (by omega) (by omega)
        show [some (V.int ((i : Int) + 1)), some (V.ref p), some (V.int (((i : Int) + 1) / 27))] = _
        rw [e]
    · refine ⟨_, rfl, _, _, rfl, rfl, _, rfl, ?_⟩
      refine ⟨_, rfl, rfl, _, rfl, neT ?_⟩
      refine ⟨_, rfl, p, _, rfl, .inl (SqL.of hp), _, _, rfl, rfl, _, rfl, _, _, rfl, rfl, _, rfl, ?_⟩
      refine ⟨⟨_, rfl⟩, _, rfl, p, _, rfl, SqL.of hp, fun q nq => ⟨_, q, [letter i], rfl, rfl, .inl (SqL.of upd_same), sum_ok (fun y hy => ⟨97 + i, by omega, List.mem_singleton.mp hy⟩) (lle rfl), ?_⟩⟩
      have e0 : Txt.join "" [letter i] = Str.join "" [letter i] := StrLaws.glued_eq_join _ _
      have e : Txt.join "" [letter i] = letter i := e0
      rw [e]
      exact k _ (s2.trans (sNew nq))
end
end Sk
set_option Elab.async false
set_option linter.all false
set_option maxRecDepth 100000
namespace Sk
open PySem PySem.Spec PyProof.Rows L2 Sl Bf Zs Sr Dc2 Nd
/-! ### dicts of texts or numbers: their keys -/
theorem swD_true {kx vx : Expr} {gs : List Comprehension} {scope : Scope} {pos py : Pos} {y : Str} {l : Nat} {env : Env} (hk : env.scope.kind = .function) (hy : env.scope.names.lookup y = some .local) (hl : (py.line == pos.line) = true)
    (ha : (scope.names.any fun (n, k) => n == y && (k == .local || k == .cell)) = false) : swapsWith (.DictComp kx vx gs scope pos) (some (.Name y py)) l env = pure true := by
  have ky : env.kindOf y = some .local := hy
  have hb : env.blockKind = .function := by
    unfold Env.blockKind
    rw [hk]
    rfl
  unfold swapsWith
  simp only [hb, ky, ha, Expr.pos, hl]
  rfl
theorem any_has (kvs : List (Key × V)) (k : Key) : (kvs.any fun kv => decide (kv.1 = k)) = true ↔ k ∈ kvs.map (·.1) := by
  rw [List.any_eq_true, List.mem_map]
  constructor
  · rintro ⟨x, hx, q⟩; exact ⟨x, hx, of_decide_eq_true q⟩
  · rintro ⟨x, hx, q⟩; exact ⟨x, hx, decide_eq_true q⟩
theorem keys_put_old {kvs : List (Key × V)} {k : Key} (v : V) (h : k ∈ kvs.map (·.1)) : (putK kvs k v).map (·.1) = kvs.map (·.1) := by
  unfold putK
  rw [if_pos ((any_has kvs k).mpr h), List.map_map]
  apply List.map_congr_left
  intro x _
  show (if x.1 = k then (x.1, v) else x).1 = x.1
  by_cases q : x.1 = k
  · rw [if_pos q]
  · rw [if_neg q]
theorem keys_put_new {kvs : List (Key × V)} {k : Key} (v : V) (h : ¬ k ∈ kvs.map (·.1)) : (putK kvs k v).map (·.1) = kvs.map (·.1) ++ [k] := by
  unfold putK
  rw [if_neg (fun z => h ((any_has kvs k).mp z)), List.map_append]
  rfl
theorem valV_has (kvs : List (Key × V)) (k : Key) : (valV kvs k).isSome = true ↔ k ∈ kvs.map (·.1) := by
  induction kvs with
  | nil => exact ⟨fun h => (by cases h), fun h => (by cases h)⟩
  | cons p r ih =>
    by_cases q : p.1 = k
    · rw [valV_pos q]
      exact ⟨fun _ => by rw [List.map_cons, q]; exact List.mem_cons_self .., fun _ => rfl⟩
    · rw [valV_neg q, ih, List.map_cons, List.mem_cons]
      exact ⟨.inr, fun h => h.elim (fun z => absurd z.symm q) id⟩
/-- a dict whose keys are these, by an injection -/
def KeysAre {α : Type} (f : α → Key) (kvs : List (Key × V)) (S : List α) : Prop := kvs.map (·.1) = S.map f ∧ S.Nodup
theorem KeysAre.len {α : Type} {f : α → Key} {kvs : List (Key × V)} {S : List α} (h : KeysAre f kvs S) : kvs.length = S.length := by
  have := congrArg List.length h.1
  rwa [List.length_map, List.length_map] at this
theorem KeysAre.put {α : Type} [DecidableEq α] {f : α → Key} (hf : ∀ x y, f x = f y → x = y) {kvs : List (Key × V)} {S : List α} (h : KeysAre f kvs S) (x : α) (v : V) : ∃ S', KeysAre f (putK kvs (f x) v) S' ∧ ∀ y, y ∈ S' ↔ y ∈ S ∨ y = x := by
  have mem : f x ∈ kvs.map (·.1) ↔ x ∈ S := by
    rw [h.1]
    constructor
    · intro q
      obtain ⟨y, hy, e⟩ := List.mem_map.mp q
      rw [← hf _ _ e]
      exact hy
    · exact List.mem_map_of_mem
  by_cases q : x ∈ S
  · refine ⟨S, ⟨by rw [keys_put_old _ (mem.mpr q), h.1], h.2⟩, fun y => ⟨.inl, fun z => z.elim id fun e => e ▸ q⟩⟩
  · refine ⟨S ++ [x], ⟨by rw [keys_put_new _ (fun z => q (mem.mp z)), h.1, List.map_append]; rfl, ?_⟩, fun y => by rw [List.mem_append, List.mem_singleton]⟩
    exact List.nodup_append.mpr ⟨h.2, (List.pairwise_singleton _ _), fun a ha b hb e => q (by rw [← List.mem_singleton.mp hb, ← e]; exact ha)⟩
theorem KeysAre.has {α : Type} [DecidableEq α] {f : α → Key} (hf : ∀ x y, f x = f y → x = y) {kvs : List (Key × V)} {S : List α} (h : KeysAre f kvs S) (x : α) : (valV kvs (f x)).isSome = decide (x ∈ S) := by
  rw [Bool.eq_iff_iff, decide_eq_true_eq, valV_has, h.1]
  constructor
  · intro q
    obtain ⟨y, hy, e⟩ := List.mem_map.mp q
    rw [← hf _ _ e]
    exact hy
  · exact List.mem_map_of_mem
theorem inr_inj (x y : Str) (h : (Sum.inr x : Key) = Sum.inr y) : x = y := Sum.inr.inj h
theorem inl_inj (x y : Int) (h : (Sum.inl x : Key) = Sum.inl y) : x = y := Sum.inl.inj h
abbrev s_names_had : Stmt := top 19
abbrev N_names_had : List Str := ["rules", "had", "number", "rule", "name"]
theorem sc_names_had : FnScope N_names_had ["rules"] (defScope s_names_had) := ⟨rfl, rfl, rfl, by decide +kernel, rfl, by decide +kernel, by decide +kernel⟩
-- slots: 0 rules, 1 had, 2 number, 3 rule, 4 name
def sp_names_had : Sp := fun vs H Q _ => ∃ (A : List Ru) (a : Addr), vs = [.ref a] ∧ RulesAt H a A ∧ (namesAll A).length ≤ 24 ∧ A.length ≤ 1000 ∧ ∀ H' p ys, Same H H' → IsNames A ys → H p = none → H' p = some (.lst (ys.map V.str)) → Q (.ref p) H'
section
variable {P : Program} {w : World} {K : PySem.W.Frag} {mg : Str → Option Value} {base : Heap}
theorem ok_names_had {f : Addr} {fd : FuncData} (F : Fun K "names_had" "names_had" s_names_had f fd) (T : Top K mg) (C_names_of : Cal P w K mg base 1 "names_of" ["rule"] sp_names_of) (C_name_of : Cal P w K mg base 1 "name_of" ["number"] sp_name_of) : FnOk P w K mg base CX0 2 f fd ["rules"] sp_names_had := by
  refine F.ok sc_names_had (fun vs H Q E h => ?_) (fun cdv A outer s H vs Q E hr h => ?_)
  · obtain ⟨A, a, rfl, _⟩ := h
    rfl
  · obtain ⟨R, a, rfl, ⟨vs, ha, hp⟩, hfew, hz, k⟩ := h
    refine ⟨_, (pss_cons (ps_setDc2 (i := 1) (own := [("rule", 3), ("name", 4)]) (vs1 := [4]) (by rfl) sc_names_had.nd rfl rfl (swD_true rfl rfl rfl (by decide +kernel)) (pi_list (pv 0)) (blkOk_by (own := [("rule", 3), ("name", 4)]) (N := N_names_had) (sc := defScope s_names_had) (by decide +kernel)) (by decide) (fun _ _ _ _ _ => (pg_name (i := 3) sc_names_had.nd rfl (Or.inl rfl))) (fun _ _ _ _ _ => pts_nil) (fun _ _ _ _ _ => (pi_listK (K := K) rfl (pe_cal C_names_of (hr.mono (by decide)) rfl (pa_cons (pv 3) pa_nil)))) (fun _ _ _ _ _ => (pg_name (i := 4) sc_names_had.nd rfl (Or.inl rfl))) (fun _ _ _ _ _ => pts_nil) (fun _ _ _ _ _ => (pv 4)) (fun _ _ _ _ _ => pe_bl))
      (pss_cons (ps_set (i := 2) sc_names_had.nd rfl (Or.inl rfl) pe_int)
      (pss_cons (ps_while PassesOwn.never (PW.pt (pw_or (pt_cmpR op_eq (pe_op op_mod (pv 2) pe_int) pe_int (nomark _)) (pw_or1 (pt_cmp (pc_din (hu_of hr) (pe_cal C_name_of (hr.mono (by decide)) rfl (pa_cons (pv 2) pa_nil)) (pv 1))))))
        (pss_one (ps_aug (i := 2) sc_names_had.nd rfl (Or.inl rfl) pe_int ip_add)))
      (pss_one (ps_ret (pe_callB cr_sortedS (by rfl) T.sorted (by decide +kernel) (pa_cons (pe_op op_cat (pe_callTy (call_list_dK rfl) (by rfl) T.list (by decide +kernel) (pa_cons (pv 1) pa_nil)) (pe_lst (pa_cons (pe_cal C_name_of (hr.mono (by decide)) rfl (pa_cons (pv 2) pa_nil)) pa_nil))) pa_nil))))))), ?_⟩
    have hline : (200000 : Nat) ≤ sizeLine := by decide
    have pre : ∀ {i : Nat} {r : Ru}, R[i]? = some r → (R.take (i + 1)).flatMap namesR = (R.take i).flatMap namesR ++ namesR r := fun {i r} h => by
      rw [List.take_succ, h, List.flatMap_append]
      simp
    have tot : ∀ i : Nat, ((R.take i).flatMap namesR).length ≤ 24 := fun i => by
      have e : namesAll R = (R.take i).flatMap namesR ++ (R.drop i).flatMap namesR := by
        rw [← List.flatMap_append, List.take_append_drop]
        rfl
      have := congrArg List.length e
      rw [List.length_append] at this
      omega
    refine ⟨_, rfl, a, rfl, ⟨vs, SqL.of ha⟩, fun D nD => it_list (xs := vs) (fun i H2 => Same H H2 ∧ ∃ kvs S, H2 D = some (.dK kvs) ∧ KeysAre Sum.inr kvs S ∧ ∀ x, x ∈ S ↔ x ∈ (R.take i).flatMap namesR) ⟨sNew nD, [], [], upd_same, ⟨rfl, List.nodup_nil⟩, fun x => Iff.rfl⟩ (fun i H2 p => SqL.of (p.1 _ _ ha)) (fun i x H2 hx p => ?_) (fun H2 p => ?_)⟩
    · obtain ⟨s2, kvs, S, hD, hK, hS⟩ := p
      obtain ⟨r, hr1, hv⟩ := paired_at hp hx
      refine ⟨rfl, ?_⟩
      refine ⟨_, rfl, r, x, rfl, hv.same (tOf s2), fun H3 q s3 nq hq => ⟨q, rfl, ⟨_, SqL.of hq⟩, it_list (xs := (namesR r).map V.str) (fun j H4 => (∀ b o, H b = some o → H4 b = some o) ∧ H4 q = some (.lst ((namesR r).map V.str)) ∧ ∃ kvs S, H4 D = some (.dK kvs) ∧ KeysAre Sum.inr kvs S ∧ ∀ x, x ∈ S ↔ x ∈ (R.take i).flatMap namesR ++ (namesR r).take j) ⟨s2.trans s3, hq, kvs, S, s3 _ _ hD, hK, fun x => by rw [List.take_zero, List.append_nil]; exact hS x⟩ (fun j H4 p => SqL.of p.2.1) (fun j y H4 hy p => ?_) (fun H4 p => ?_)⟩⟩
      · obtain ⟨s4, hq4, kvs4, S4, hD4, hK4, hS4⟩ := p
        rw [List.getElem?_map] at hy
        obtain ⟨z, hz1, rfl⟩ := Option.map_eq_some_iff.mp hy
        obtain ⟨S5, hK5, hS5⟩ := hK4.put inr_inj z (.bl true)
        have hlen : kvs4.length ≤ 24 := by
          rw [hK4.len]
          have h1 := Bf.length_le_of_nodup hK4.2 fun x hx => (hS4 x).mp hx
          have h2 := tot (i + 1)
          rw [pre hr1, List.length_append] at h2
          rw [List.length_append, List.length_take] at h1
          omega
        refine ⟨rfl, _, rfl, kvs4, Sum.inr z, rfl, hD4, by omega, fun b o e => ?_, ?_, _, S5, upd_same, hK5, fun x => ?_⟩
        · rw [upd_ne (ne_of_none e nD)]
          exact s4 _ _ e
        · rw [upd_ne (ne_of hq4 hD4 (by intro z; cases z))]
          exact hq4
        · rw [hS5, hS4, List.take_succ, hz1, List.mem_append, List.mem_append, List.mem_append]
          show _ ∨ x = z ↔ _ ∨ _ ∨ x ∈ [z]
          rw [List.mem_singleton, or_assoc]
      · obtain ⟨s4, hq4, kvs4, S4, hD4, hK4, hS4⟩ := p
        rw [List.length_map, List.take_length] at hS4
        exact ⟨s4, kvs4, S4, hD4, hK4, fun x => by rw [hS4, pre hr1]⟩
    · obtain ⟨s2, kvs, S, hD, hK, hS⟩ := p
      rw [← hp.length, List.take_length] at hS
      have hS : ∀ x, x ∈ S ↔ x ∈ namesAll R := hS
      have hSl : S.length ≤ 24 := Nat.le_trans (Bf.length_le_of_nodup hK.2 fun x hx => (hS x).mp hx) hfew
      obtain ⟨i0, hi0, hn0, hb0⟩ := firstL_some (S := S) (by omega)
      refine ⟨fun m σ H3 => Same H2 H3 ∧ ∃ j, m = i0 - j ∧ j ≤ i0 ∧ σ = [some (.ref a), some (.ref D), some (.int ((j : Int) + 1)), none, none], ⟨i0, Same.refl _, 0, rfl, Nat.zero_le _, rfl⟩, fun m σ H3 q => ?_⟩
      obtain ⟨s3, j, rfl, hj, rfl⟩ := q
      have hmod : ((j : Int) + 1) % 27 = (j : Int) + 1 := Int.emod_eq_of_lt (by omega) (by omega)
      refine ⟨_, rfl, _, _, rfl, rfl, (by show (0 : Int) < 27; decide), rfl, _, rfl, iteD (k' := false) ?_ (iteF ?_)⟩
      · rw [intD, hmod]
        exact decide_eq_false (by omega)
      refine ⟨_, rfl, j, rfl, by omega, fun H4 s4 => ⟨_, rfl, D, _, rfl, DGet.k (k := Sum.inr (letter j)) (s4 _ _ (s3 _ _ hD)), _, rfl, ?_⟩⟩
      rw [hK.has inr_inj]
      by_cases hjj : j = i0
      · subst hjj
        refine iteD (k' := false) (decide_eq_false hn0) ?_
        refine ⟨_, rfl, D, kvs, rfl, s4 _ _ (s3 _ _ hD), fun q nq => ?_⟩
        refine ⟨_, rfl, j, rfl, hi0, fun H5 s5 => ⟨(by show 1 ≤ sizeLine; decide), fun l nl => ?_⟩⟩
        have ek : (kvs.map fun kv => kV kv.1) = S.map V.str := by
          have e := congrArg (List.map kV) hK.1
          rw [List.map_map, List.map_map] at e
          exact e
        have hq5 : (upd H5 l (.lst [.str (letter j)])) q = some (.lst (S.map V.str)) := sNew nl _ _ (s5 _ _ (by rw [upd_same, ek]))
        refine ⟨q, l, _, _, rfl, rfl, hq5, upd_same, by rw [List.length_map]; show S.length + 1 ≤ sizeLine; omega, fun c nc => ?_⟩
        refine ⟨c, S ++ [letter j], rfl, SqL.of (by rw [upd_same, List.map_append]; rfl), by rw [List.length_append, List.length_singleton]; omega, fun ys p perm so np => ?_⟩
        have nd : (S ++ [letter j]).Nodup := List.nodup_append.mpr ⟨hK.2, (List.pairwise_singleton _ _), fun a ha b hb e => hn0 (by rw [← List.mem_singleton.mp hb, ← e]; exact ha)⟩
        have sAll : Same H2 (upd (upd (upd H5 l (.lst [.str (letter j)])) c (.lst (S.map V.str ++ [.str (letter j)]))) p (.lst (ys.map V.str))) := (s3.trans (s4.trans ((sNew nq).trans s5))).trans ((sNew nl).trans ((sNew nc).trans (sNew np)))
        refine k _ p ys (s2.trans sAll) ⟨so, perm.nodup_iff.mpr nd, j, ⟨hi0, fun z => hn0 ((hS _).mpr z), fun i hi => (hS _).mp (hb0 i hi)⟩, fun x => ?_⟩ ?_ upd_same
        · rw [perm.mem_iff, List.mem_append, List.mem_singleton, hS]
        · exact (s2.trans (s3.trans (s4.trans ((sNew nq).trans s5)))).free ((sNew nl).free ((sNew nc).free np))
      · refine iteD (k' := true) (decide_eq_true (hb0 j (by omega))) (iteT ?_)
        refine ⟨fun σ' H' => Same H2 H' ∧ σ' = [some (.ref a), some (.ref D), some (.int (((j + 1 : Nat) : Int) + 1)), none, none], fun σ' H' h => ⟨i0 - (j + 1), by omega, h.1, j + 1, rfl, by omega, h.2⟩, ?_⟩
        refine ⟨_, rfl, _, _, rfl, rfl, s3.trans s4, ?_⟩
        show [some (V.ref a), some (V.ref D), some (V.int ((j : Int) + 1 + 1)), none, none] = _
        rw [Int.natCast_add]
        rfl
end
end Sk
set_option Elab.async false
set_option linter.all false
set_option maxRecDepth 100000
namespace Sk
open PySem PySem.Spec PyProof.Rows L2 Sl Bf Zs Sr Dc2 Nd
theorem firstK_some (S : List Int) : ∃ i, FirstK S i := by
  have ex : ∃ i : Nat, i ≤ S.length ∧ ¬ (i : Int) ∈ S := by
    apply Classical.byContradiction
    intro hn
    have all : ∀ i : Nat, i ≤ S.length → (i : Int) ∈ S := fun i hi => Classical.byContradiction fun c => hn ⟨i, hi, c⟩
    have hnd : ((List.range (S.length + 1)).map fun j : Nat => (j : Int)).Nodup := List.Pairwise.map _ (fun a b hne e => hne (Int.ofNat_inj.mp e)) List.nodup_range
    have q := Bf.length_le_of_nodup hnd (s := S) fun x hx => by
      obtain ⟨i, hi, rfl⟩ := List.mem_map.mp hx
      exact all i (by have := List.mem_range.mp hi; omega)
    rw [List.length_map, List.length_range] at q
    omega
  obtain ⟨i, _, hi2⟩ := ex
  have key : ∀ n, ∀ i : Nat, i ≤ n → ¬ (i : Int) ∈ S → ∃ j, FirstK S j := by
    intro n
    induction n with
    | zero => intro i hi h2; exact ⟨i, h2, fun j hj => by omega⟩
    | succ n ih =>
      intro i hi h2
      by_cases q : ∃ j : Nat, j < i ∧ ¬ (j : Int) ∈ S
      · obtain ⟨j, hj, hj2⟩ := q
        exact ih j (by omega) hj2
      · exact ⟨i, h2, fun j hj => Classical.byContradiction fun c => q ⟨j, hj, c⟩⟩
  exact key i i (Nat.le_refl _) hi2
abbrev s_notes_had : Stmt := top 20
abbrev N_notes_had : List Str := ["rules", "name", "had", "least", "rule", "note"]
theorem sc_notes_had : FnScope N_notes_had ["rules", "name"] (defScope s_notes_had) := ⟨rfl, rfl, rfl, by decide +kernel, rfl, by decide +kernel, by decide +kernel⟩
-- slots: 0 rules, 1 name*, 2 had, 3 least, 4 rule, 5 note
def sp_notes_had : Sp := fun vs H Q _ => ∃ (A : List Ru) (a : Addr) (n : Str), vs = [.ref a, .str n] ∧ RulesAt H a A ∧ (notesAll A n).length ≤ 24 ∧ A.length ≤ 1000 ∧ ∀ H' p ks, Same H H' → IsNotes A n ks → H p = none → H' p = some (.lst (ks.map V.int)) → Q (.ref p) H'
section
variable {P : Program} {w : World} {K : PySem.W.Frag} {mg : Str → Option Value} {base : Heap}
theorem ok_notes_had {f : Addr} {fd : FuncData} (F : Fun K "notes_had" "notes_had" s_notes_had f fd) (T : Top K mg) : FnOk P w K mg base CX0 1 f fd ["rules", "name"] sp_notes_had := by
  refine F.ok sc_notes_had (fun vs H Q E h => ?_) (fun cdv A outer s H vs Q E hr h => ?_)
  · obtain ⟨A, a, n, rfl, _⟩ := h
    rfl
  · obtain ⟨R, a, n, rfl, ⟨vs, ha, hp⟩, hfew, hz, k⟩ := h
    refine ⟨_, (pss_cons (ps_setDc2 (i := 2) (own := [("rule", 4), ("note", 5)]) (vs1 := [5]) (by rfl) sc_notes_had.nd rfl rfl (swD_true rfl rfl rfl (by decide +kernel)) (pi_list (pv 0)) (blkOk_by (own := [("rule", 4), ("note", 5)]) (N := N_notes_had) (sc := defScope s_notes_had) (by decide +kernel)) (by decide) (fun _ _ _ _ _ => (pg_name (i := 4) sc_notes_had.nd rfl (Or.inl rfl))) (fun _ _ _ _ _ => (pts_one (PW.pt (pw_and (pt_cmpR op_eq (pe_ix (r := rIxT K) ix_tup (pv 4) pe_int (fun _ _ => rfl)) pe_str (nomark _)) (pw_and1 (pt_cmpR op_eq (pe_ix (r := rIxT K) ix_tup (pv 4) pe_int (fun _ _ => rfl)) (pv 1) (nomark _))))))) (fun _ _ _ _ _ => (pi_tupK (K := K) rfl (pe_ix (r := rIxT K) ix_tup (pv 4) pe_int (fun _ _ => rfl)))) (fun _ _ _ _ _ => (pg_name (i := 5) sc_notes_had.nd rfl (Or.inl rfl))) (fun _ _ _ _ _ => pts_nil) (fun _ _ _ _ _ => (pv 5)) (fun _ _ _ _ _ => pe_bl))
      (pss_cons (ps_set (i := 3) sc_notes_had.nd rfl (Or.inl rfl) pe_int)
      (pss_cons (ps_while PassesOwn.never (pt_cmp (pc_din (hu_of hr) (pv 3) (pv 2)))
        (pss_one (ps_aug (i := 3) sc_notes_had.nd rfl (Or.inl rfl) pe_int ip_add)))
      (pss_one (ps_ret (pe_callB cr_sorted (by rfl) T.sorted (by decide +kernel) (pa_cons (pe_op op_cat (pe_callTy (call_list_dK rfl) (by rfl) T.list (by decide +kernel) (pa_cons (pv 2) pa_nil)) (pe_lst (pa_cons (pv 3) pa_nil))) pa_nil))))))), ?_⟩
    have hline : (200000 : Nat) ≤ sizeLine := by decide
    have pre : ∀ {i : Nat} {r : Ru}, R[i]? = some r → (R.take (i + 1)).flatMap (notesR n) = (R.take i).flatMap (notesR n) ++ notesR n r := fun {i r} h => by
      rw [List.take_succ, h, List.flatMap_append]
      simp
    have tot : ∀ i : Nat, ((R.take i).flatMap (notesR n)).length ≤ 24 := fun i => by
      have e : notesAll R n = (R.take i).flatMap (notesR n) ++ (R.drop i).flatMap (notesR n) := by
        rw [← List.flatMap_append, List.take_append_drop]
        rfl
      have := congrArg List.length e
      rw [List.length_append] at this
      omega
    refine ⟨_, rfl, a, rfl, ⟨vs, SqL.of ha⟩, fun D nD => it_list (xs := vs) (fun i H2 => Same H H2 ∧ ∃ kvs S, H2 D = some (.dK kvs) ∧ KeysAre Sum.inl kvs S ∧ ∀ x, x ∈ S ↔ x ∈ (R.take i).flatMap (notesR n)) ⟨sNew nD, [], [], upd_same, ⟨rfl, List.nodup_nil⟩, fun x => Iff.rfl⟩ (fun i H2 p => SqL.of (p.1 _ _ ha)) (fun i x H2 hx p => ?_) (fun H2 p => ?_)⟩
    · obtain ⟨s2, kvs, S, hD, hK, hS⟩ := p
      obtain ⟨r, hr1, hv⟩ := paired_at hp hx
      have hv2 := hv.same (tOf s2)
      have none_of : notesR n r = [] → (Same H H2 ∧ ∃ kvs S, H2 D = some (.dK kvs) ∧ KeysAre Sum.inl kvs S ∧ ∀ x, x ∈ S ↔ x ∈ (R.take (i + 1)).flatMap (notesR n)) := fun e => ⟨s2, kvs, S, hD, hK, fun x => by rw [hS, pre hr1, e, List.append_nil]⟩
      refine ⟨rfl, ?_⟩
      by_cases hnote : ∃ m ks, r = .note m ks
      · obtain ⟨m, ks, rfl⟩ := hnote
        obtain ⟨p0, rfl, t, hp0, ht⟩ := hv2
        refine ⟨_, rfl, p0, _, _, _, rfl, rfl, SqT.of hp0, rfl, rfl, _, rfl, eqT ⟨_, rfl, p0, _, _, _, rfl, rfl, SqT.of hp0, rfl, _, rfl, rfl, _, rfl, iteD (strD _ _) (ite2 (fun e => ?_) (fun e => ?_))⟩⟩
        · have e := of_decide_eq_true e
          have en : notesR n (.note m ks) = ks := by show (if m = n then ks else []) = ks; rw [if_pos e]
          refine ⟨_, rfl, p0, _, _, _, rfl, rfl, SqT.of hp0, rfl, t, rfl, ⟨_, SqT.of ht⟩, it_tup (xs := ks.map V.int) (fun j H4 => Same H H4 ∧ H4 t = some (.tup (ks.map V.int)) ∧ ∃ kvs S, H4 D = some (.dK kvs) ∧ KeysAre Sum.inl kvs S ∧ ∀ x, x ∈ S ↔ x ∈ (R.take i).flatMap (notesR n) ++ ks.take j) ⟨s2, ht, kvs, S, hD, hK, fun x => by rw [List.take_zero, List.append_nil]; exact hS x⟩ (fun j H4 p => SqT.of p.2.1) (fun j y H4 hy p => ?_) (fun H4 p => ?_)⟩
          · obtain ⟨s4, hq4, kvs4, S4, hD4, hK4, hS4⟩ := p
            rw [List.getElem?_map] at hy
            obtain ⟨z, hz1, rfl⟩ := Option.map_eq_some_iff.mp hy
            obtain ⟨S5, hK5, hS5⟩ := hK4.put inl_inj z (.bl true)
            have hlen : kvs4.length ≤ 24 := by
              rw [hK4.len]
              have h1 := Bf.length_le_of_nodup hK4.2 fun x hx => (hS4 x).mp hx
              have h2 := tot (i + 1)
              rw [pre hr1, List.length_append, en] at h2
              rw [List.length_append, List.length_take] at h1
              omega
            refine ⟨rfl, _, rfl, kvs4, Sum.inl z, rfl, hD4, by omega, fun b o e => ?_, ?_, _, S5, upd_same, hK5, fun x => ?_⟩
            · rw [upd_ne (ne_of_none e nD)]
              exact s4 _ _ e
            · rw [upd_ne (ne_of hq4 hD4 (by intro z; cases z))]
              exact hq4
            · rw [hS5, hS4, List.take_succ, hz1, List.mem_append, List.mem_append, List.mem_append]
              show _ ∨ x = z ↔ _ ∨ _ ∨ x ∈ [z]
              rw [List.mem_singleton, or_assoc]
          · obtain ⟨s4, hq4, kvs4, S4, hD4, hK4, hS4⟩ := p
            rw [List.length_map, List.take_length] at hS4
            exact ⟨s4, kvs4, S4, hD4, hK4, fun x => by rw [hS4, pre hr1, en]⟩
        · have e : ¬ m = n := fun z => e (decide_eq_true z)
          exact none_of (if_neg e)
      · obtain ⟨p0, rest, rfl, hp0⟩ := hv2.head
        refine ⟨_, rfl, p0, _, ((0 : Nat) : Int), _, rfl, rfl, SqT.of hp0, atI_nat (j := 0) rfl, rfl, _, rfl, eqF (strNe ?_) (none_of ?_)⟩
        · cases r with
          | note m ks => exact absurd ⟨m, ks, rfl⟩ hnote
          | _ => dsimp only [wordR]; decide +kernel
        · cases r with
          | note m ks => exact absurd ⟨m, ks, rfl⟩ hnote
          | _ => rfl
    · obtain ⟨s2, kvs, S, hD, hK, hS⟩ := p
      rw [← hp.length, List.take_length] at hS
      have hS : ∀ x, x ∈ S ↔ x ∈ notesAll R n := hS
      have hSl : S.length ≤ 24 := Nat.le_trans (Bf.length_le_of_nodup hK.2 fun x hx => (hS x).mp hx) hfew
      obtain ⟨i0, hn0, hb0⟩ := firstK_some S
      refine ⟨fun m σ H3 => Same H2 H3 ∧ ∃ j : Nat, m = i0 - j ∧ j ≤ i0 ∧ σ = [some (.ref a), some (.str n), some (.ref D), some (.int (j : Int)), none, none], ⟨i0, Same.refl _, 0, rfl, Nat.zero_le _, rfl⟩, fun m σ H3 q => ?_⟩
      obtain ⟨s3, j, rfl, hj, rfl⟩ := q
      refine ⟨_, rfl, _, rfl, D, _, rfl, DGet.k (k := Sum.inl (j : Int)) (s3 _ _ hD), _, rfl, ?_⟩
      rw [hK.has inl_inj]
      by_cases hjj : j = i0
      · subst hjj
        refine iteD (k' := false) (decide_eq_false hn0) (iteF ?_)
        refine ⟨_, rfl, D, kvs, rfl, s3 _ _ hD, fun q nq => ?_⟩
        refine ⟨_, rfl, (by show 1 ≤ sizeLine; decide), fun l nl => ?_⟩
        have ek : (kvs.map fun kv => kV kv.1) = S.map V.int := by
          have e := congrArg (List.map kV) hK.1
          rw [List.map_map, List.map_map] at e
          exact e
        have hq5 : (upd (upd H3 q (.lst (kvs.map fun kv => kV kv.1))) l (.lst [.int (j : Int)])) q = some (.lst (S.map V.int)) := sNew nl _ _ (by rw [upd_same, ek])
        refine ⟨q, l, _, _, rfl, rfl, hq5, upd_same, by rw [List.length_map]; show S.length + 1 ≤ sizeLine; omega, fun c nc => ?_⟩
        refine ⟨c, S ++ [(j : Int)], rfl, SqL.of (by rw [upd_same, List.map_append]; rfl), by rw [List.length_append, List.length_singleton]; omega, fun ys p perm so np => ?_⟩
        have nd : (S ++ [(j : Int)]).Nodup := List.nodup_append.mpr ⟨hK.2, (List.pairwise_singleton _ _), fun a ha b hb e => hn0 (by rw [← List.mem_singleton.mp hb, ← e]; exact ha)⟩
        have sF := s3.trans ((sNew (o := .lst (kvs.map fun kv => kV kv.1)) nq).trans ((sNew nl).trans ((sNew nc).trans (sNew (o := .lst (ys.map V.int)) np))))
        refine k _ p ys (s2.trans sF) ⟨lt_of_le_nodup ys so (perm.nodup_iff.mpr nd), j, ⟨fun z => hn0 ((hS _).mpr z), fun i hi => (hS _).mp (hb0 i hi)⟩, fun x => ?_⟩ ?_ upd_same
        · rw [perm.mem_iff, List.mem_append, List.mem_singleton, hS]
        · exact (s2.trans s3).free ((sNew nq).free ((sNew nl).free ((sNew nc).free np)))
      · refine iteD (k' := true) (decide_eq_true (hb0 j (by omega))) (iteT ?_)
        refine ⟨fun σ' H' => Same H2 H' ∧ σ' = [some (.ref a), some (.str n), some (.ref D), some (.int ((j + 1 : Nat) : Int)), none, none], fun σ' H' h => ⟨i0 - (j + 1), by omega, h.1, j + 1, rfl, by omega, h.2⟩, ?_⟩
        refine ⟨_, rfl, _, _, rfl, rfl, s3, ?_⟩
        show [some (V.ref a), some (V.str n), some (V.ref D), some (V.int ((j : Int) + 1)), none, none] = _
        rw [Int.natCast_add]
        rfl
end
end Sk
set_option Elab.async false
set_option linter.all false
set_option maxRecDepth 100000
namespace Sk
open PySem PySem.Spec PyProof.Rows L2 Sl Bf Zs Sr Dc2 Nd
theorem pol_len {K : PySem.W.Frag} {H : Hp} {b : Bool} {A : List Ru} {a : Addr} (h : PolV H b A a) : ∃ vs, (SqL K H a vs ∨ SqT K H a vs) ∧ Paired (RulV H) A vs := by
  obtain ⟨vs, h1, h2⟩ := h
  refine ⟨vs, ?_, h2⟩
  cases b
  · exact .inr (SqT.of h1)
  · exact .inl (SqL.of h1)
theorem take_old {α : Type} {l : List α} (nd : l.Nodup) {i : Nat} {x : α} (h : l[i]? = some x) : ¬ x ∈ l.take i := fun hm => by
  obtain ⟨j, hj⟩ := List.getElem?_of_mem hm
  have hji : j < i := by
    have := (List.getElem?_eq_some_iff.mp hj).1
    rw [List.length_take] at this
    omega
  rw [List.getElem?_take_of_lt hji] at hj
  have := nd_ix nd hj h
  omega
abbrev s_letters_of : Stmt := top 21
abbrev N_letters_of : List Str := ["policy", "other", "rules", "name", "note"]
theorem sc_letters_of : FnScope N_letters_of ["policy", "other"] (defScope s_letters_of) := ⟨rfl, rfl, rfl, by decide +kernel, rfl, by decide +kernel, by decide +kernel⟩
-- slots: 0 policy, 1 other, 2 rules*, 3 name, 4 note
def sp_letters_of : Sp := fun vs H Q _ => ∃ (A B : List Ru) (b1 b2 : Bool) (q1 q2 : Addr), vs = [.ref q1, .ref q2] ∧ PolV H b1 A q1 ∧ PolV H b2 B q2 ∧ A.length ≤ 3 ∧ B.length ≤ 3 ∧ (∀ r, r ∈ A → RuleOk r) ∧ (∀ r, r ∈ B → RuleOk r) ∧
  ∀ H' p L, Same H H' → IsLetters (A ++ B) L → H p = none → LogV H' L p → Q (.ref p) H'
section
variable {P : Program} {w : World} {K : PySem.W.Frag} {mg : Str → Option Value} {base : Heap}
theorem ok_letters_of {f : Addr} {fd : FuncData} (F : Fun K "letters_of" "letters_of" s_letters_of f fd) (T : Top K mg) (C_names_had : Cal P w K mg base 2 "names_had" ["rules"] sp_names_had) (C_notes_had : Cal P w K mg base 1 "notes_had" ["rules", "name"] sp_notes_had) : FnOk P w K mg base CX0 3 f fd ["policy", "other"] sp_letters_of := by
  refine F.ok sc_letters_of (fun vs H Q E h => ?_) (fun cdv A outer s H vs Q E hr h => ?_)
  · obtain ⟨A, B, b1, b2, q1, q2, rfl, _⟩ := h
    rfl
  · obtain ⟨R, B, b1, b2, q1, q2, rfl, hA, hB, lA, lB, oA, oB, k⟩ := h
    obtain ⟨tD, mBOARD⟩ := T.gBOARD
    obtain ⟨tW, mWORD⟩ := T.gWORD
    refine ⟨_, (pss_cons (ps_set (i := 2) sc_letters_of.nd rfl (Or.inr rfl) (pe_op op_cat (pe_callTy call_list_of (by rfl) T.list (by decide +kernel) (pa_cons (pv 0) pa_nil)) (pe_callTy call_list_of (by rfl) T.list (by decide +kernel) (pa_cons (pv 1) pa_nil))))
      (pss_one (ps_ret (pe_lc2 (vs1 := [4]) (own := [("name", 3), ("note", 4)]) (by rfl) sc_letters_of.nd (pi_list (pe_cal C_names_had (hr.mono (by decide)) rfl (pa_cons (pv 2) pa_nil))) (blkOk_by (own := [("name", 3), ("note", 4)]) (N := N_letters_of) (sc := defScope s_letters_of) (by decide +kernel)) (by decide) (fun _ _ _ _ _ => (pg_name (i := 3) sc_letters_of.nd rfl (Or.inl rfl))) (fun _ _ _ _ _ => pts_nil) (fun _ _ _ _ _ => (pi_listK (K := K) rfl (pe_cal C_notes_had (hr.mono (by decide)) rfl (pa_cons (pv 2) (pa_cons (pv 3) pa_nil))))) (fun _ _ _ _ _ => (pg_name (i := 4) sc_letters_of.nd rfl (Or.inl rfl))) (fun _ _ _ _ _ => pts_nil) (fun _ _ _ _ _ => (pe_tup (pa_cons (pe_glob (v := .int 0) rfl mBOARD ⟨_, rfl⟩) (pa_cons (pe_glob (v := .str "load") rfl mWORD ⟨_, rfl⟩) (pa_cons (pv 3) (pa_cons (pv 4) pa_nil)))))))))), ?_⟩
    have hline : (200000 : Nat) ≤ sizeLine := by decide
    obtain ⟨vs, ha, hp⟩ := pol_len (K := K) hA
    refine ⟨_, rfl, q1, vs, rfl, ha, fun l1 nl1 => ?_⟩
    obtain ⟨us, hb, hq⟩ := pol_len (K := K) (hB.same (sNew (o := .lst vs) nl1))
    refine ⟨_, rfl, q2, us, rfl, hb, fun l2 nl2 => ?_⟩
    have hl1 := sNew (o := .lst us) nl2 _ _ (upd_same (H := H) (a := l1) (o := .lst vs))
    have e1 := hp.length
    have e2 := hq.length
    refine ⟨l1, l2, vs, us, rfl, rfl, hl1, upd_same, by omega, fun c nc => ?_⟩
    have s3 : Same H (upd (upd (upd H l1 (.lst vs)) l2 (.lst us)) c (.lst (vs ++ us))) := ((sNew nl1).trans (sNew nl2)).trans (sNew nc)
    have hR : RulesAt (upd (upd (upd H l1 (.lst vs)) l2 (.lst us)) c (.lst (vs ++ us))) c (R ++ B) := ⟨_, upd_same, paired_app (rulesSame hp (tOf s3)) (rulesSame hq (tOf ((sNew nl2).trans (sNew nc))))⟩
    revert s3 hR
    generalize upd (upd (upd H l1 (.lst vs)) l2 (.lst us)) c (.lst (vs ++ us)) = H3
    intro s3 hR
    have oR : ∀ r, r ∈ R ++ B → RuleOk r := fun r h => (List.mem_append.mp h).elim (oA r) (oB r)
    have lR : (R ++ B).length ≤ 6 := by rw [List.length_append]; omega
    refine ⟨_, rfl, R ++ B, c, rfl, hR, namesAll_few oR lR, by omega, fun H4 p ys s4 hys np hp4 => ⟨p, rfl, ⟨_, SqL.of hp4⟩, fun D nD => ?_⟩⟩
    have hR4 := hR.same s4
    have hyl := hys.few oR lR
    refine it_list (xs := ys.map V.str) (fun i H5 => Same H4 H5 ∧ ∃ (f : Str → List Int) (acc : List V), (∀ y, y ∈ ys.take i → IsNotes (R ++ B) y (f y)) ∧ H5 D = some (.lst acc) ∧ Paired (RowV H5) ((ys.take i).flatMap fun y => (f y).map fun k => (y, k)) acc) ⟨sNew nD, fun _ => [], [], (fun y h => by cases h), upd_same, .nil⟩ (fun i H5 p => SqL.of (p.1 _ _ hp4)) (fun i x H5 hx q => ?_) (fun H5 q => ?_)
    · obtain ⟨s5, f, acc, hf, hD, hacc⟩ := q
      rw [List.getElem?_map] at hx
      obtain ⟨y, hy, rfl⟩ := Option.map_eq_some_iff.mp hx
      have hnew := take_old hys.2.1 hy
      refine ⟨rfl, _, rfl, _, rfl, R ++ B, c, y, rfl, hR4.same s5, notesAll_few oR lR y, by omega, fun H6 t ks s6 hks nt ht => ⟨t, rfl, ⟨_, SqL.of ht⟩, ?_⟩⟩
      have hkl := hks.few oR lR
      have hlen0 : ((ys.take i).flatMap fun y => (f y).map fun k => (y, k)).length ≤ 625 := by
        have h1 := flat_few (fun y => (f y).map fun k => ((y, k) : Le)) 25 (ys.take i) fun z hz => by rw [List.length_map]; exact (hf z hz).few oR lR
        rw [List.length_take] at h1
        have h2 : min i ys.length * 25 ≤ 25 * 25 := Nat.mul_le_mul_right _ (by omega)
        omega
      have hDt : D ≠ t := ne_of_none hD nt
      refine it_list (xs := ks.map V.int) (fun j H7 => Same H4 H7 ∧ H7 t = some (.lst (ks.map V.int)) ∧ ∃ acc, H7 D = some (.lst acc) ∧ Paired (RowV H7) (((ys.take i).flatMap fun y => (f y).map fun k => (y, k)) ++ (ks.take j).map fun k => (y, k)) acc) ⟨s5.trans s6, ht, acc, s6 _ _ hD, by rw [List.take_zero, List.map_nil, List.append_nil]; exact rowsSame hacc (tOf s6)⟩ (fun j H7 p => SqL.of p.2.1) (fun j z H7 hz q7 => ?_) (fun H7 q7 => ?_)
      · obtain ⟨s7, ht7, acc7, hD7, hacc7⟩ := q7
        rw [List.getElem?_map] at hz
        obtain ⟨k0, hk0, rfl⟩ := Option.map_eq_some_iff.mp hz
        have hjk : j < ks.length := (List.getElem?_eq_some_iff.mp hk0).1
        have hal : acc7.length ≤ 650 := by
          rw [← hacc7.length, List.length_append, List.length_map, List.length_take]
          omega
        refine ⟨rfl, _, rfl, _, rfl, (by show 4 ≤ sizeLine; decide), fun u nu => ⟨acc7, sNew nu _ _ hD7, by omega, fun b o e => ?_, ?_, acc7 ++ [.ref u], upd_same, ?_⟩⟩
        · rw [upd_ne (ne_of_none e nD)]
          exact sNew nu _ _ (s7 _ _ e)
        · rw [upd_ne hDt.symm]
          exact sNew nu _ _ ht7
        · have st : SameT (upd H7 u (.tup [.int 0, .str "load", .str y, .int k0])) (upd (upd H7 u (.tup [.int 0, .str "load", .str y, .int k0])) D (.lst (acc7 ++ [.ref u]))) := tLst (sNew nu _ _ hD7)
          have et : (ks.take (j + 1)).map (fun k => ((y, k) : Le)) = (ks.take j).map (fun k => (y, k)) ++ [(y, k0)] := by
            rw [List.take_succ, hk0, List.map_append]
            rfl
          rw [et, ← List.append_assoc]
          exact paired_app (rowsSame hacc7 ((tNew nu).trans st)) (.cons ⟨u, rfl, st _ _ upd_same⟩ .nil)
      · obtain ⟨s7, ht7, acc7, hD7, hacc7⟩ := q7
        rw [List.length_map, List.take_length] at hacc7
        have e0 : ∀ z, z ∈ ys.take i → (if z = y then ks else f z) = f z := fun z hz => if_neg (fun e : z = y => hnew (by rw [← e]; exact hz))
        have et : (ys.take (i + 1)) = ys.take i ++ [y] := by rw [List.take_succ, hy]; rfl
        refine ⟨s7, fun z => if z = y then ks else f z, acc7, fun z hz => ?_, hD7, ?_⟩
        · rw [et] at hz
          rcases List.mem_append.mp hz with hz | hz
          · show IsNotes _ z (if z = y then ks else f z)
            rw [e0 z hz]
            exact hf z hz
          · rw [List.mem_singleton.mp hz]
            show IsNotes _ y (if y = y then ks else f y)
            rw [if_pos rfl]
            exact hks
        · have ef : ((ys.take (i + 1)).flatMap fun z => (if z = y then ks else f z).map fun k => ((z, k) : Le)) = ((ys.take i).flatMap fun z => (f z).map fun k => (z, k)) ++ ks.map fun k => (y, k) := by
            rw [et, List.flatMap_append]
            congr 1
            · apply congrArg List.flatten
              apply List.map_congr_left
              intro z hz
              rw [e0 z hz]
            · simp
          rw [ef]
          exact hacc7
    · obtain ⟨s5, f, acc, hf, hD, hacc⟩ := q
      rw [List.length_map, List.take_length] at hf hacc
      exact k H5 D _ (s3.trans (s4.trans s5)) ⟨ys, f, hys, hf, rfl⟩ ((s3.trans s4).free nD) ⟨acc, hD, hacc⟩
end
end Sk
set_option Elab.async false
set_option linter.all false
set_option maxRecDepth 100000
namespace Sk
open PySem PySem.Spec PyProof.Rows L2 Sl Bf Zs Sr Dc2 Nd
def namesR1 : Ru → List Str
  | .must n => [n] | .only ns => ns | .note n _ => [n] | .ahead a _ => [a] | .never a _ => [a] | .most n _ => [n] | .next a _ => [a]
def namesR2 : Ru → List Str
  | .must _ => [] | .only _ => [] | .note _ _ => [] | .ahead _ b => [b] | .never _ b => [b] | .most _ _ => [] | .next _ b => [b]
theorem namesR_12 (r : Ru) : namesR r = namesR1 r ++ namesR2 r := by
  cases r with
  | only ns => exact (List.append_nil ns).symm
  | _ => rfl
theorem abc_all : (Str.ofString "abcdefghijklmnopqrstuvwxyz").cps.toList = (List.range 26).map fun i => 97 + i := by decide +kernel
theorem abc_vals : ((Str.ofString "abcdefghijklmnopqrstuvwxyz").cps.toList.map fun c => V.str ⟨#[c]⟩) = ((List.range 26).map letter).map V.str := by
  rw [abc_all, List.map_map, List.map_map]
  rfl
theorem filter_first {α : Type} (p : α → Bool) : ∀ (l : List α) (i : Nat) (x : α), l[i]? = some x → p x = true → (∀ (j : Nat) (y : α), j < i → l[j]? = some y → p y = false) → (l.filter p)[0]? = some x
  | [], i, x, h, _, _ => by simp at h
  | a :: l, 0, x, h, hp, _ => by
    have e : a = x := Option.some.inj h
    subst e
    rw [List.filter_cons_of_pos hp]
    rfl
  | a :: l, i + 1, x, h, hp, hb => by
    have ha := hb 0 a (Nat.succ_pos i) rfl
    rw [List.filter_cons_of_neg (by rw [ha]; exact Bool.false_ne_true)]
    exact filter_first p l i x h hp fun j y hj hy => hb (j + 1) y (Nat.succ_lt_succ hj) hy
theorem it_str {z : Str} {Bd : (Hp → Prop) → V → Hp → Prop} {H0 : Hp} {Qd : Hp → Prop} (Pv : Nat → Hp → Prop) (h0 : Pv 0 H0) (hs : ∀ i c H, z.cps[i]? = some c → Pv i H → Bd (Pv (i + 1)) (.str ⟨#[c]⟩) H) (hd : ∀ H, Pv z.cps.size H → Qd H) :
    ∃ W : Nat → Nat → Hp → Prop, (∃ m, W 0 m H0) ∧ ∀ i m H, W i m H → ((Its z).stop i H ∧ Qd H) ∨ ((Its z).go i H ∧ ∃ Nx : Hp → Prop, (∀ H', Nx H' → ∃ m', m' < m ∧ W (i + 1) m' H') ∧ ∀ x H', (Its z).yld i H x H' → Bd Nx x H') := by
  refine ⟨fun i m H => m = z.cps.size - i ∧ i ≤ z.cps.size ∧ Pv i H, ⟨z.cps.size, by simp, Nat.zero_le _, h0⟩, ?_⟩
  rintro i m H ⟨rfl, hi, p⟩
  by_cases hlt : i < z.cps.size
  · refine .inr ⟨hlt, Pv (i + 1), fun H' p' => ⟨z.cps.size - (i + 1), by omega, rfl, hlt, p'⟩, fun x H' y => ?_⟩
    obtain ⟨e, c, hc, e2⟩ := y
    subst e e2
    exact hs i c _ hc p
  · have e : i = z.cps.size := by omega
    subst e
    exact .inl ⟨Nat.le_refl _, hd H p⟩
abbrev s_law_names_had : Stmt := top 39
abbrev N_law_names_had : List Str := ["_law_rules", "_law_found", "_law_rule_here", "_law_letters_here", "_law_least", "_law_one"]
theorem sc_law_names_had : FnScope N_law_names_had ["_law_rules"] (defScope s_law_names_had) := ⟨rfl, rfl, rfl, by decide +kernel, rfl, by decide +kernel, by decide +kernel⟩
-- slots: 0 _law_rules, 1 _law_found*, 2 _law_rule_here, 3 _law_letters_here, 4 _law_least, 5 _law_one
def sp_law_names_had : Sp := fun vs H Q _ => ∃ (A : List Ru) (a : Addr), vs = [.ref a] ∧ RulesAt H a A ∧ (namesAll A).length ≤ 24 ∧ ∀ H' p ys, Same H H' → IsNames A ys → H p = none → H' p = some (.lst (ys.map V.str)) → Q (.ref p) H'
section
variable {P : Program} {w : World} {K : PySem.W.Frag} {mg : Str → Option Value} {base : Heap}
theorem ok_law_names_had {f : Addr} {fd : FuncData} (F : Fun K "_law_names_had" "_law_names_had" s_law_names_had f fd) (T : Top K mg) : FnOk P w K mg base CX0 1 f fd ["_law_rules"] sp_law_names_had := by
  refine F.ok sc_law_names_had (fun vs H Q E h => ?_) (fun cdv A outer s H vs Q E hr h => ?_)
  · obtain ⟨A, a, rfl, _⟩ := h
    rfl
  · obtain ⟨R, a, rfl, ⟨vs, ha, hp⟩, hfew, k⟩ := h
    refine ⟨_, (pss_cons (ps_set (i := 1) sc_law_names_had.nd rfl (Or.inr rfl) (pe_lst pa_nil))
      (pss_cons (ps_for PassesOwn.never rfl (pi_list (pv 0)) (pg_name (i := 2) sc_law_names_had.nd rfl (Or.inl rfl))
        (pss_cons (ps_set (i := 1) sc_law_names_had.nd rfl (Or.inr rfl) (pe_op op_cat (pv 1) (pe_ifExp (pt_cmpR op_eq (pe_ix ix_tup (pv 2) pe_int (fun _ _ => rfl)) pe_str (nomark _)) (pe_callTy call_list_of (by rfl) T.list (by decide +kernel) (pa_cons (pe_ix ix_tup (pv 2) pe_int (fun _ _ => rfl)) pa_nil)) (pe_lst (pa_cons (pe_ix ix_tup (pv 2) pe_int (fun _ _ => rfl)) pa_nil)))))
        (pss_one (ps_set (i := 1) sc_law_names_had.nd rfl (Or.inr rfl) (pe_op op_cat (pv 1) (pe_ifExp (pt_cmpR op_in_seq (pe_ix ix_tup (pv 2) pe_int (fun _ _ => rfl)) (pe_tup (pa_cons pe_str (pa_cons pe_str (pa_cons pe_str pa_nil)))) (by rfl)) (pe_lst (pa_cons (pe_ix ix_tup (pv 2) pe_int (fun _ _ => rfl)) pa_nil)) (pe_lst pa_nil)))))))
      (pss_cons (ps_set (i := 3) sc_law_names_had.nd rfl (Or.inl rfl) pe_str)
      (pss_cons (ps_set (i := 4) sc_law_names_had.nd rfl (Or.inl rfl) (pe_ix ix_list (pe_lc (own := [("_law_one", 5)]) (by rfl) sc_law_names_had.nd (pi_list (pe_op op_cat (pe_callTy (Ls.cr_listStr rfl) (by rfl) T.list (by decide +kernel) (pa_cons (pv 3) pa_nil)) (pe_lc (own := [("_law_one", 5)]) (by rfl) sc_law_names_had.nd (pi_str (pv 3)) (blkOk_by (own := [("_law_one", 5)]) (N := N_law_names_had) (sc := defScope s_law_names_had) (by decide +kernel)) (fun _ _ _ _ _ => (pg_name (i := 5) sc_law_names_had.nd rfl (Or.inl rfl))) (fun _ _ _ _ _ => pts_nil) (fun _ _ _ _ _ => (pe_op op_add_str pe_str (pv 5)))))) (blkOk_by (own := [("_law_one", 5)]) (N := N_law_names_had) (sc := defScope s_law_names_had) (by decide +kernel)) (fun _ _ _ _ _ => (pg_name (i := 5) sc_law_names_had.nd rfl (Or.inl rfl))) (fun _ _ _ _ _ => (pts_one (pt_cmpR (r := rIn K true) op_notIn_seq (pv 5) (pv 1) (by rfl)))) (fun _ _ _ _ _ => (pv 5))) pe_int (fun _ _ => rfl)))
      (pss_one (ps_ret (pe_callB (Ss.cr_sortedGS rfl) (by rfl) T.sorted (by decide +kernel) (pa_cons (pe_callTy (Ss.cr_setG rfl) (by rfl) T.set (by decide +kernel) (pa_cons (pe_op op_cat (pv 1) (pe_lst (pa_cons (pv 4) pa_nil))) pa_nil)) pa_nil)))))))), ?_⟩
    have hline : (200000 : Nat) ≤ sizeLine := by decide
    have tot : ∀ i : Nat, ((R.take i).flatMap namesR).length ≤ 24 := fun i => by
      have e : namesAll R = (R.take i).flatMap namesR ++ (R.drop i).flatMap namesR := by
        rw [← List.flatMap_append, List.take_append_drop]
        rfl
      have := congrArg List.length e
      rw [List.length_append] at this
      omega
    refine ⟨Nat.zero_le _, fun f0 nf0 => ?_⟩
    refine ⟨_, rfl, a, rfl, ⟨vs, SqL.of (sNew nf0 _ _ ha)⟩, for_list (K := K) (a := a) (xs := vs) (fun i σ H2 => Same H H2 ∧ ∃ fnd x2, σ = [some (.ref a), some (.ref fnd), x2, none, none, none] ∧ H2 fnd = some (.lst (((R.take i).flatMap namesR).map V.str)))
      ⟨sNew nf0, f0, _, rfl, upd_same⟩ (fun i σ H2 _ p => SqL.of (p.1 _ _ ha)) (fun i x σ H2 hx p => ?_) (fun σ H2 p => ?_)⟩
    · obtain ⟨s2, fnd, x2, rfl, hf⟩ := p
      obtain ⟨r, hr1, hv⟩ := paired_at hp hx
      have pre : (R.take (i + 1)).flatMap namesR = (R.take i).flatMap namesR ++ namesR r := by
        rw [List.take_succ, hr1, List.flatMap_append]
        simp
      have tot1 := tot (i + 1)
      have tot0 := tot i
      have hv2 := hv.same (tOf s2)
      have n12 := congrArg List.length (namesR_12 r)
      rw [pre, List.length_append] at tot1
      rw [List.length_append] at n12
      -- the second half, for any second part
      have fin : ∀ (H4 : Hp) (c1 e c2 : Addr) (zs : List Str) (x2 : Option V), Same H H4 → H4 c1 = some (.lst (((R.take i).flatMap namesR).map V.str ++ (namesR1 r).map V.str)) → namesR2 r = zs → H4 c2 = none →
          Same H (upd H4 c2 (.lst ((((R.take i).flatMap namesR).map V.str ++ (namesR1 r).map V.str) ++ zs.map V.str))) ∧ ∃ fnd x2', [some (.ref a), some (.ref c2), x2, none, none, none] = [some (.ref a), some (.ref fnd), x2', none, none, none] ∧ upd H4 c2 (.lst ((((R.take i).flatMap namesR).map V.str ++ (namesR1 r).map V.str) ++ zs.map V.str)) fnd = some (.lst (((R.take (i + 1)).flatMap namesR).map V.str)) := fun H4 c1 e c2 zs x2 sm h1 h2 nc => by
        refine ⟨sm.trans (sNew nc), c2, x2, rfl, ?_⟩
        rw [upd_same, pre, namesR_12, h2, List.map_append, List.map_append, List.append_assoc]
      cases r with
      | must m =>
        obtain ⟨p0, rfl, h0⟩ := hv2
        refine ⟨_, rfl, _, rfl, p0, _, _, _, rfl, rfl, SqT.of h0, rfl, rfl, _, rfl, eqF (strNe (by decide +kernel)) ⟨_, rfl, p0, _, _, _, rfl, rfl, SqT.of h0, rfl, (by show 1 ≤ sizeLine; decide), fun l nl => ?_⟩⟩
        have g1 : Same H2 (upd H2 l (.lst [.str m])) := sNew nl
        have e1 : (upd H2 l (.lst [.str m])) l = some (.lst ((namesR1 (.must m)).map V.str)) := upd_same
        revert g1 e1
        generalize upd H2 l (.lst [.str m]) = H3
        intro g1 e1
        have h0 := g1 _ _ h0
        refine ⟨fnd, l, _, _, rfl, rfl, g1 _ _ hf, e1, by rw [List.length_map, List.length_map]; omega, fun c1 nc1 => ?_⟩
        have h0 := sNew (o := .lst (((R.take i).flatMap namesR).map V.str ++ (namesR1 (.must m)).map V.str)) nc1 _ _ h0
        have e4 : (upd H3 c1 (.lst (((R.take i).flatMap namesR).map V.str ++ (namesR1 (.must m)).map V.str))) c1 = some (.lst (((R.take i).flatMap namesR).map V.str ++ (namesR1 (.must m)).map V.str)) := upd_same
        have s4 : Same H (upd H3 c1 (.lst (((R.take i).flatMap namesR).map V.str ++ (namesR1 (.must m)).map V.str))) := s2.trans (g1.trans (sNew nc1))
        revert h0 e4 s4
        generalize upd H3 c1 (.lst (((R.take i).flatMap namesR).map V.str ++ (namesR1 (.must m)).map V.str)) = H4
        intro h0 e4 s4
        refine ⟨_, rfl, _, rfl, p0, _, _, _, rfl, rfl, SqT.of h0, rfl, (by show 3 ≤ sizeLine; decide), fun t3 nt3 => ⟨t3, _, rfl, .inr (SqT.of upd_same), rfl, rfl, _, rfl, iteD (k' := false) (by decide +kernel) (iteF ?_)⟩⟩
        have h0 := sNew (o := .tup [.str "ahead", .str "never", .str "next"]) nt3 _ _ h0
        have e5 := sNew (o := .tup [.str "ahead", .str "never", .str "next"]) nt3 _ _ e4
        refine ⟨Nat.zero_le _, fun e ne => ⟨c1, e, _, _, rfl, rfl, sNew ne _ _ e5, upd_same, by rw [List.length_append, List.length_map, List.length_map]; show _ + 0 ≤ sizeLine; omega, fun c2 nc2 => ?_⟩⟩
        exact fin _ c1 e c2 [] _ (s4.trans ((sNew nt3).trans (sNew ne))) (sNew ne _ _ e5) rfl nc2
      | only ns =>
        obtain ⟨p0, rfl, t, h0, ht⟩ := hv2
        refine ⟨_, rfl, _, rfl, p0, _, _, _, rfl, rfl, SqT.of h0, rfl, rfl, _, rfl, eqT ⟨_, rfl, p0, _, _, _, rfl, rfl, SqT.of h0, rfl, t, _, rfl, .inr (SqT.of ht), fun l nl => ?_⟩⟩
        have g1 : Same H2 (upd H2 l (.lst (ns.map V.str))) := sNew nl
        have e1 : (upd H2 l (.lst (ns.map V.str))) l = some (.lst ((namesR1 (.only ns)).map V.str)) := upd_same
        revert g1 e1
        generalize upd H2 l (.lst (ns.map V.str)) = H3
        intro g1 e1
        have h0 := g1 _ _ h0
        refine ⟨fnd, l, _, _, rfl, rfl, g1 _ _ hf, e1, by rw [List.length_map, List.length_map]; omega, fun c1 nc1 => ?_⟩
        have h0 := sNew (o := .lst (((R.take i).flatMap namesR).map V.str ++ (namesR1 (.only ns)).map V.str)) nc1 _ _ h0
        have e4 : (upd H3 c1 (.lst (((R.take i).flatMap namesR).map V.str ++ (namesR1 (.only ns)).map V.str))) c1 = some (.lst (((R.take i).flatMap namesR).map V.str ++ (namesR1 (.only ns)).map V.str)) := upd_same
        have s4 : Same H (upd H3 c1 (.lst (((R.take i).flatMap namesR).map V.str ++ (namesR1 (.only ns)).map V.str))) := s2.trans (g1.trans (sNew nc1))
        revert h0 e4 s4
        generalize upd H3 c1 (.lst (((R.take i).flatMap namesR).map V.str ++ (namesR1 (.only ns)).map V.str)) = H4
        intro h0 e4 s4
        refine ⟨_, rfl, _, rfl, p0, _, _, _, rfl, rfl, SqT.of h0, rfl, (by show 3 ≤ sizeLine; decide), fun t3 nt3 => ⟨t3, _, rfl, .inr (SqT.of upd_same), rfl, rfl, _, rfl, iteD (k' := false) (by decide +kernel) (iteF ?_)⟩⟩
        have h0 := sNew (o := .tup [.str "ahead", .str "never", .str "next"]) nt3 _ _ h0
        have e5 := sNew (o := .tup [.str "ahead", .str "never", .str "next"]) nt3 _ _ e4
        refine ⟨Nat.zero_le _, fun e ne => ⟨c1, e, _, _, rfl, rfl, sNew ne _ _ e5, upd_same, by rw [List.length_append, List.length_map, List.length_map]; show _ + 0 ≤ sizeLine; omega, fun c2 nc2 => ?_⟩⟩
        exact fin _ c1 e c2 [] _ (s4.trans ((sNew nt3).trans (sNew ne))) (sNew ne _ _ e5) rfl nc2
      | note m ks =>
        obtain ⟨p0, rfl, t, h0, ht⟩ := hv2
        refine ⟨_, rfl, _, rfl, p0, _, _, _, rfl, rfl, SqT.of h0, rfl, rfl, _, rfl, eqF (strNe (by decide +kernel)) ⟨_, rfl, p0, _, _, _, rfl, rfl, SqT.of h0, rfl, (by show 1 ≤ sizeLine; decide), fun l nl => ?_⟩⟩
        have g1 : Same H2 (upd H2 l (.lst [.str m])) := sNew nl
        have e1 : (upd H2 l (.lst [.str m])) l = some (.lst ((namesR1 (.note m ks)).map V.str)) := upd_same
        revert g1 e1
        generalize upd H2 l (.lst [.str m]) = H3
        intro g1 e1
        have h0 := g1 _ _ h0
        refine ⟨fnd, l, _, _, rfl, rfl, g1 _ _ hf, e1, by rw [List.length_map, List.length_map]; omega, fun c1 nc1 => ?_⟩
        have h0 := sNew (o := .lst (((R.take i).flatMap namesR).map V.str ++ (namesR1 (.note m ks)).map V.str)) nc1 _ _ h0
        have e4 : (upd H3 c1 (.lst (((R.take i).flatMap namesR).map V.str ++ (namesR1 (.note m ks)).map V.str))) c1 = some (.lst (((R.take i).flatMap namesR).map V.str ++ (namesR1 (.note m ks)).map V.str)) := upd_same
        have s4 : Same H (upd H3 c1 (.lst (((R.take i).flatMap namesR).map V.str ++ (namesR1 (.note m ks)).map V.str))) := s2.trans (g1.trans (sNew nc1))
        revert h0 e4 s4
        generalize upd H3 c1 (.lst (((R.take i).flatMap namesR).map V.str ++ (namesR1 (.note m ks)).map V.str)) = H4
        intro h0 e4 s4
        refine ⟨_, rfl, _, rfl, p0, _, _, _, rfl, rfl, SqT.of h0, rfl, (by show 3 ≤ sizeLine; decide), fun t3 nt3 => ⟨t3, _, rfl, .inr (SqT.of upd_same), rfl, rfl, _, rfl, iteD (k' := false) (by decide +kernel) (iteF ?_)⟩⟩
        have h0 := sNew (o := .tup [.str "ahead", .str "never", .str "next"]) nt3 _ _ h0
        have e5 := sNew (o := .tup [.str "ahead", .str "never", .str "next"]) nt3 _ _ e4
        refine ⟨Nat.zero_le _, fun e ne => ⟨c1, e, _, _, rfl, rfl, sNew ne _ _ e5, upd_same, by rw [List.length_append, List.length_map, List.length_map]; show _ + 0 ≤ sizeLine; omega, fun c2 nc2 => ?_⟩⟩
        exact fin _ c1 e c2 [] _ (s4.trans ((sNew nt3).trans (sNew ne))) (sNew ne _ _ e5) rfl nc2
      | ahead a0 b0 =>
        obtain ⟨p0, rfl, h0⟩ := hv2
        refine ⟨_, rfl, _, rfl, p0, _, _, _, rfl, rfl, SqT.of h0, rfl, rfl, _, rfl, eqF (strNe (by decide +kernel)) ⟨_, rfl, p0, _, _, _, rfl, rfl, SqT.of h0, rfl, (by show 1 ≤ sizeLine; decide), fun l nl => ?_⟩⟩
        have g1 : Same H2 (upd H2 l (.lst [.str a0])) := sNew nl
        have e1 : (upd H2 l (.lst [.str a0])) l = some (.lst ((namesR1 (.ahead a0 b0)).map V.str)) := upd_same
        revert g1 e1
        generalize upd H2 l (.lst [.str a0]) = H3
        intro g1 e1
        have h0 := g1 _ _ h0
        refine ⟨fnd, l, _, _, rfl, rfl, g1 _ _ hf, e1, by rw [List.length_map, List.length_map]; omega, fun c1 nc1 => ?_⟩
        have h0 := sNew (o := .lst (((R.take i).flatMap namesR).map V.str ++ (namesR1 (.ahead a0 b0)).map V.str)) nc1 _ _ h0
        have e4 : (upd H3 c1 (.lst (((R.take i).flatMap namesR).map V.str ++ (namesR1 (.ahead a0 b0)).map V.str))) c1 = some (.lst (((R.take i).flatMap namesR).map V.str ++ (namesR1 (.ahead a0 b0)).map V.str)) := upd_same
        have s4 : Same H (upd H3 c1 (.lst (((R.take i).flatMap namesR).map V.str ++ (namesR1 (.ahead a0 b0)).map V.str))) := s2.trans (g1.trans (sNew nc1))
        revert h0 e4 s4
        generalize upd H3 c1 (.lst (((R.take i).flatMap namesR).map V.str ++ (namesR1 (.ahead a0 b0)).map V.str)) = H4
        intro h0 e4 s4
        refine ⟨_, rfl, _, rfl, p0, _, _, _, rfl, rfl, SqT.of h0, rfl, (by show 3 ≤ sizeLine; decide), fun t3 nt3 => ⟨t3, _, rfl, .inr (SqT.of upd_same), rfl, rfl, _, rfl, iteD (k' := true) (by decide +kernel) (iteT ?_)⟩⟩
        have h0 := sNew (o := .tup [.str "ahead", .str "never", .str "next"]) nt3 _ _ h0
        have e5 := sNew (o := .tup [.str "ahead", .str "never", .str "next"]) nt3 _ _ e4
        refine ⟨_, rfl, p0, _, _, _, rfl, rfl, SqT.of h0, rfl, (by show 1 ≤ sizeLine; decide), fun e ne => ⟨c1, e, _, _, rfl, rfl, sNew ne _ _ e5, upd_same, by rw [List.length_append, List.length_map, List.length_map]; show _ + 1 ≤ sizeLine; omega, fun c2 nc2 => ?_⟩⟩
        exact fin _ c1 e c2 [b0] _ (s4.trans ((sNew nt3).trans (sNew ne))) (sNew ne _ _ e5) rfl nc2
      | never a0 b0 =>
        obtain ⟨p0, rfl, h0⟩ := hv2
        refine ⟨_, rfl, _, rfl, p0, _, _, _, rfl, rfl, SqT.of h0, rfl, rfl, _, rfl, eqF (strNe (by decide +kernel)) ⟨_, rfl, p0, _, _, _, rfl, rfl, SqT.of h0, rfl, (by show 1 ≤ sizeLine; decide), fun l nl => ?_⟩⟩
        have g1 : Same H2 (upd H2 l (.lst [.str a0])) := sNew nl
        have e1 : (upd H2 l (.lst [.str a0])) l = some (.lst ((namesR1 (.never a0 b0)).map V.str)) := upd_same
        revert g1 e1
        generalize upd H2 l (.lst [.str a0]) = H3
        intro g1 e1
        have h0 := g1 _ _ h0
        refine ⟨fnd, l, _, _, rfl, rfl, g1 _ _ hf, e1, by rw [List.length_map, List.length_map]; omega, fun c1 nc1 => ?_⟩
        have h0 := sNew (o := .lst (((R.take i).flatMap namesR).map V.str ++ (namesR1 (.never a0 b0)).map V.str)) nc1 _ _ h0
        have e4 : (upd H3 c1 (.lst (((R.take i).flatMap namesR).map V.str ++ (namesR1 (.never a0 b0)).map V.str))) c1 = some (.lst (((R.take i).flatMap namesR).map V.str ++ (namesR1 (.never a0 b0)).map V.str)) := upd_same
        have s4 : Same H (upd H3 c1 (.lst (((R.take i).flatMap namesR).map V.str ++ (namesR1 (.never a0 b0)).map V.str))) := s2.trans (g1.trans (sNew nc1))
        revert h0 e4 s4
        generalize upd H3 c1 (.lst (((R.take i).flatMap namesR).map V.str ++ (namesR1 (.never a0 b0)).map V.str)) = H4
        intro h0 e4 s4
        refine ⟨_, rfl, _, rfl, p0, _, _, _, rfl, rfl, SqT.of h0, rfl, (by show 3 ≤ sizeLine; decide), fun t3 nt3 => ⟨t3, _, rfl, .inr (SqT.of upd_same), rfl, rfl, _, rfl, iteD (k' := true) (by decide +kernel) (iteT ?_)⟩⟩
        have h0 := sNew (o := .tup [.str "ahead", .str "never", .str "next"]) nt3 _ _ h0
        have e5 := sNew (o := .tup [.str "ahead", .str "never", .str "next"]) nt3 _ _ e4
        refine ⟨_, rfl, p0, _, _, _, rfl, rfl, SqT.of h0, rfl, (by show 1 ≤ sizeLine; decide), fun e ne => ⟨c1, e, _, _, rfl, rfl, sNew ne _ _ e5, upd_same, by rw [List.length_append, List.length_map, List.length_map]; show _ + 1 ≤ sizeLine; omega, fun c2 nc2 => ?_⟩⟩
        exact fin _ c1 e c2 [b0] _ (s4.trans ((sNew nt3).trans (sNew ne))) (sNew ne _ _ e5) rfl nc2
      | most m c =>
        obtain ⟨p0, rfl, h0⟩ := hv2
        refine ⟨_, rfl, _, rfl, p0, _, _, _, rfl, rfl, SqT.of h0, rfl, rfl, _, rfl, eqF (strNe (by decide +kernel)) ⟨_, rfl, p0, _, _, _, rfl, rfl, SqT.of h0, rfl, (by show 1 ≤ sizeLine; decide), fun l nl => ?_⟩⟩
        have g1 : Same H2 (upd H2 l (.lst [.str m])) := sNew nl
        have e1 : (upd H2 l (.lst [.str m])) l = some (.lst ((namesR1 (.most m c)).map V.str)) := upd_same
        revert g1 e1
        generalize upd H2 l (.lst [.str m]) = H3
        intro g1 e1
        have h0 := g1 _ _ h0
        refine ⟨fnd, l, _, _, rfl, rfl, g1 _ _ hf, e1, by rw [List.length_map, List.length_map]; omega, fun c1 nc1 => ?_⟩
        have h0 := sNew (o := .lst (((R.take i).flatMap namesR).map V.str ++ (namesR1 (.most m c)).map V.str)) nc1 _ _ h0
        have e4 : (upd H3 c1 (.lst (((R.take i).flatMap namesR).map V.str ++ (namesR1 (.most m c)).map V.str))) c1 = some (.lst (((R.take i).flatMap namesR).map V.str ++ (namesR1 (.most m c)).map V.str)) := upd_same
        have s4 : Same H (upd H3 c1 (.lst (((R.take i).flatMap namesR).map V.str ++ (namesR1 (.most m c)).map V.str))) := s2.trans (g1.trans (sNew nc1))
        revert h0 e4 s4
        generalize upd H3 c1 (.lst (((R.take i).flatMap namesR).map V.str ++ (namesR1 (.most m c)).map V.str)) = H4
        intro h0 e4 s4
        refine ⟨_, rfl, _, rfl, p0, _, _, _, rfl, rfl, SqT.of h0, rfl, (by show 3 ≤ sizeLine; decide), fun t3 nt3 => ⟨t3, _, rfl, .inr (SqT.of upd_same), rfl, rfl, _, rfl, iteD (k' := false) (by decide +kernel) (iteF ?_)⟩⟩
        have h0 := sNew (o := .tup [.str "ahead", .str "never", .str "next"]) nt3 _ _ h0
        have e5 := sNew (o := .tup [.str "ahead", .str "never", .str "next"]) nt3 _ _ e4
        refine ⟨Nat.zero_le _, fun e ne => ⟨c1, e, _, _, rfl, rfl, sNew ne _ _ e5, upd_same, by rw [List.length_append, List.length_map, List.length_map]; show _ + 0 ≤ sizeLine; omega, fun c2 nc2 => ?_⟩⟩
        exact fin _ c1 e c2 [] _ (s4.trans ((sNew nt3).trans (sNew ne))) (sNew ne _ _ e5) rfl nc2
      | next a0 b0 =>
        obtain ⟨p0, rfl, h0⟩ := hv2
        refine ⟨_, rfl, _, rfl, p0, _, _, _, rfl, rfl, SqT.of h0, rfl, rfl, _, rfl, eqF (strNe (by decide +kernel)) ⟨_, rfl, p0, _, _, _, rfl, rfl, SqT.of h0, rfl, (by show 1 ≤ sizeLine; decide), fun l nl => ?_⟩⟩
        have g1 : Same H2 (upd H2 l (.lst [.str a0])) := sNew nl
        have e1 : (upd H2 l (.lst [.str a0])) l = some (.lst ((namesR1 (.next a0 b0)).map V.str)) := upd_same
        revert g1 e1
        generalize upd H2 l (.lst [.str a0]) = H3
        intro g1 e1
        have h0 := g1 _ _ h0
        refine ⟨fnd, l, _, _, rfl, rfl, g1 _ _ hf, e1, by rw [List.length_map, List.length_map]; omega, fun c1 nc1 => ?_⟩
        have h0 := sNew (o := .lst (((R.take i).flatMap namesR).map V.str ++ (namesR1 (.next a0 b0)).map V.str)) nc1 _ _ h0
        have e4 : (upd H3 c1 (.lst (((R.take i).flatMap namesR).map V.str ++ (namesR1 (.next a0 b0)).map V.str))) c1 = some (.lst (((R.take i).flatMap namesR).map V.str ++ (namesR1 (.next a0 b0)).map V.str)) := upd_same
        have s4 : Same H (upd H3 c1 (.lst (((R.take i).flatMap namesR).map V.str ++ (namesR1 (.next a0 b0)).map V.str))) := s2.trans (g1.trans (sNew nc1))
        revert h0 e4 s4
        generalize upd H3 c1 (.lst (((R.take i).flatMap namesR).map V.str ++ (namesR1 (.next a0 b0)).map V.str)) = H4
        intro h0 e4 s4
        refine ⟨_, rfl, _, rfl, p0, _, _, _, rfl, rfl, SqT.of h0, rfl, (by show 3 ≤ sizeLine; decide), fun t3 nt3 => ⟨t3, _, rfl, .inr (SqT.of upd_same), rfl, rfl, _, rfl, iteD (k' := true) (by decide +kernel) (iteT ?_)⟩⟩
        have h0 := sNew (o := .tup [.str "ahead", .str "never", .str "next"]) nt3 _ _ h0
        have e5 := sNew (o := .tup [.str "ahead", .str "never", .str "next"]) nt3 _ _ e4
        refine ⟨_, rfl, p0, _, _, _, rfl, rfl, SqT.of h0, rfl, (by show 1 ≤ sizeLine; decide), fun e ne => ⟨c1, e, _, _, rfl, rfl, sNew ne _ _ e5, upd_same, by rw [List.length_append, List.length_map, List.length_map]; show _ + 1 ≤ sizeLine; omega, fun c2 nc2 => ?_⟩⟩
        exact fin _ c1 e c2 [b0] _ (s4.trans ((sNew nt3).trans (sNew ne))) (sNew ne _ _ e5) rfl nc2
    · obtain ⟨s2, fnd, x2, rfl, hf⟩ := p
      rw [← hp.length, List.take_length] at hf
      have hf : H2 fnd = some (.lst ((namesAll R).map V.str)) := hf
      obtain ⟨i0, hi0, hn0, hb0⟩ := firstL_some (S := namesAll R) (by omega)
      refine ⟨_, rfl, _, rfl, by decide +kernel, fun l1 nl1 => ⟨_, rfl, _, rfl, fun D nD => ?_⟩⟩
      have hl1 : (upd H2 l1 (.lst ((Str.ofString "abcdefghijklmnopqrstuvwxyz").cps.toList.map fun c => V.str ⟨#[c]⟩))) l1 = some (.lst (((List.range 26).map letter).map V.str)) := by rw [upd_same, abc_vals]
      have s23 : Same H2 (upd H2 l1 (.lst ((Str.ofString "abcdefghijklmnopqrstuvwxyz").cps.toList.map fun c => V.str ⟨#[c]⟩))) := sNew nl1
      revert s23 hl1 nD
      generalize upd H2 l1 (.lst ((Str.ofString "abcdefghijklmnopqrstuvwxyz").cps.toList.map fun c => V.str ⟨#[c]⟩)) = H3
      intro nD hl1 s23
      refine it_str (z := Str.ofString "abcdefghijklmnopqrstuvwxyz") (fun i H4 => Same H3 H4 ∧ ∃ ys : List Str, H4 D = some (.lst (ys.map V.str)) ∧ ys.length = i) ⟨sNew nD, [], upd_same, rfl⟩ (fun i c H4 hc q => ?_) (fun H4 q => ?_)
      · obtain ⟨s4, ys, hD, hyl⟩ := q
        have hi : i < 26 := by
          have h1 := (Array.getElem?_eq_some_iff.mp hc).1
          have h2 : (Str.ofString "abcdefghijklmnopqrstuvwxyz").cps.size = 26 := by decide +kernel
          omega
        refine ⟨rfl, _, rfl, _, _, rfl, rfl, ?_, ys.map V.str, hD, by rw [List.length_map]; omega, fun b o e => ?_, ys ++ [_], by rw [upd_same, List.map_append]; rfl, by rw [List.length_append, List.length_singleton, hyl]⟩
        · rw [sign_len]
          exact Nat.le_trans (by decide +kernel : (Str.ofString "a").length + 1 ≤ 10) (by omega)
        · rw [upd_ne (ne_of_none e nD)]
          exact s4 _ _ e
      · obtain ⟨s4, ys, hD, hyl⟩ := q
        have hy26 : ys.length = 26 := by
          have h2 : (Str.ofString "abcdefghijklmnopqrstuvwxyz").cps.size = 26 := by decide +kernel
          omega
        refine ⟨l1, D, _, _, rfl, rfl, s4 _ _ hl1, hD, by rw [List.length_map, List.length_map, List.length_map, List.length_range]; omega, fun c nc => ⟨c, rfl, ⟨_, SqL.of upd_same⟩, fun D2 nD2 => ?_⟩⟩
        have hc5 : (upd H4 c (.lst (((List.range 26).map letter).map V.str ++ ys.map V.str))) c = some (.lst (((List.range 26).map letter ++ ys).map V.str)) := by rw [upd_same, List.map_append]
        have s45 : Same H4 (upd H4 c (.lst (((List.range 26).map letter).map V.str ++ ys.map V.str))) := sNew nc
        revert s45 hc5 nD2
        generalize upd H4 c (.lst (((List.range 26).map letter).map V.str ++ ys.map V.str)) = H5
        intro nD2 hc5 s45
        have s25 := s23.trans (s4.trans s45)
        have hf5 := s25 _ _ hf
        refine it_list (xs := ((List.range 26).map letter ++ ys).map V.str) (fun i H6 => Same H5 H6 ∧ H6 D2 = some (.lst ((((((List.range 26).map letter) ++ ys).take i).filter fun x => decide (¬ x ∈ namesAll R)).map V.str))) ⟨sNew nD2, upd_same⟩ (fun i H6 p => SqL.of (p.1 _ _ hc5)) (fun i x H6 hx q6 => ?_) (fun H6 q6 => ?_)
        · obtain ⟨s6, hD6⟩ := q6
          rw [List.getElem?_map] at hx
          obtain ⟨y, hy, rfl⟩ := Option.map_eq_some_iff.mp hx
          have hi : i < 52 := by
            have h1 := (List.getElem?_eq_some_iff.mp hy).1
            rw [List.length_append, List.length_map, List.length_range] at h1
            omega
          have et : (((List.range 26).map letter) ++ ys).take (i + 1) = (((List.range 26).map letter) ++ ys).take i ++ [y] := by rw [List.take_succ, hy]; rfl
          refine ⟨rfl, _, rfl, _, rfl, fnd, _, rfl, .inl (SqL.of (s6 _ _ hf5)), rfl, flat_strs _, _, rfl, iteD (congrArg not (in_strs _ _)) (ite2 (fun d => ?_) (fun d => ?_))⟩
          · have d : ¬ y ∈ namesAll R := by simpa using d
            refine ⟨_, rfl, _, hD6, ?_, fun b o e => ?_, ?_⟩
            · rw [List.length_map]
              have h1 := List.length_filter_le (fun x => decide (¬ x ∈ namesAll R)) ((((List.range 26).map letter) ++ ys).take i)
              rw [List.length_take] at h1
              omega
            · rw [upd_ne (ne_of_none e nD2)]
              exact s6 _ _ e
            · rw [upd_same, et, List.filter_append, List.map_append]
              have e1 : [y].filter (fun x => decide (¬ x ∈ namesAll R)) = [y] := List.filter_cons_of_pos (decide_eq_true d)
              rw [e1]
              rfl
          · have d : y ∈ namesAll R := by simpa using d
            refine ⟨s6, ?_⟩
            rw [et, List.filter_append]
            have e1 : [y].filter (fun x => decide (¬ x ∈ namesAll R)) = [] := List.filter_cons_of_neg (fun z => (of_decide_eq_true z) d)
            rw [e1, List.append_nil]
            exact hD6
        · obtain ⟨s6, hD6⟩ := q6
          rw [List.length_map, List.take_length] at hD6
          have hfirst : ((((List.range 26).map letter) ++ ys).filter fun x => decide (¬ x ∈ namesAll R))[0]? = some (letter i0) := by
            refine filter_first _ _ i0 (letter i0) ?_ (decide_eq_true hn0) fun j y hj hy => ?_
            · rw [List.getElem?_append_left (by rw [List.length_map, List.length_range]; exact hi0), List.getElem?_map, List.getElem?_range hi0]
              rfl
            · rw [List.getElem?_append_left (by rw [List.length_map, List.length_range]; omega), List.getElem?_map, List.getElem?_range (by omega)] at hy
              have hy : letter j = y := Option.some.inj hy
              rw [← hy]
              exact decide_eq_false fun z => z (hb0 j hj)
          refine ⟨D2, _, ((0 : Nat) : Int), .str (letter i0), rfl, rfl, SqL.of hD6, atI_nat (by rw [List.getElem?_map, hfirst]; rfl), ?_⟩
          have hf6 := s6 _ _ hf5
          refine ⟨_, rfl, _, rfl, (by show 1 ≤ sizeLine; decide), fun e ne => ⟨fnd, e, _, _, rfl, rfl, sNew ne _ _ hf6, upd_same, by rw [List.length_map]; show (namesAll R).length + 1 ≤ sizeLine; omega, fun g ng => ?_⟩⟩
          refine ⟨g, (namesAll R ++ [letter i0]).map Sum.inr, rfl, SqL.of (by rw [upd_same, List.map_map, List.map_append]; rfl), by rw [List.length_map, List.length_append, List.length_singleton]; omega, fun p1 np1 => ?_⟩
          refine ⟨p1, namesAll R ++ [letter i0], rfl, upd_same, by rw [List.length_append, List.length_singleton]; omega, fun p zs np so nd mem => ?_⟩
          have sAll := ((s2.trans s25).trans s6).trans (((sNew (o := .lst [.str (letter i0)]) ne).trans (sNew (o := .lst ((namesAll R).map V.str ++ [.str (letter i0)])) ng)).trans ((sNew (o := Ss.SetGO w p1 ((namesAll R ++ [letter i0]).map Sum.inr)) np1).trans (sNew (o := .lst (zs.map V.str)) np)))
          refine k _ p zs sAll ⟨so, nd, i0, ⟨hi0, hn0, hb0⟩, fun x => by rw [mem, List.mem_append, List.mem_singleton]⟩ ?_ upd_same
          exact ((s2.trans s25).trans s6).free ((sNew ne).free ((sNew ng).free ((sNew np1).free np)))
end
end Sk
set_option Elab.async false
set_option linter.all false
set_option maxRecDepth 100000
namespace Sk
open PySem PySem.Spec PyProof.Rows L2 Sl Bf Zs Sr Dc2 Nd
abbrev s_law_letters : Stmt := top 40
abbrev N_law_letters : List Str := ["_law_rules", "_law_found", "_law_name", "_law_notes", "_law_rule_here", "_law_least", "_law_note_here"]
theorem sc_law_letters : FnScope N_law_letters ["_law_rules"] (defScope s_law_letters) := ⟨rfl, rfl, rfl, by decide +kernel, rfl, by decide +kernel, by decide +kernel⟩
-- slots: 0 _law_rules, 1 _law_found, 2 _law_name*, 3 _law_notes*, 4 _law_rule_here, 5 _law_least, 6 _law_note_here
def sp_law_letters : Sp := fun vs H Q _ => ∃ (A : List Ru) (a : Addr), vs = [.ref a] ∧ RulesAt H a A ∧ A.length ≤ 6 ∧ (∀ r, r ∈ A → RuleOk r) ∧ ∀ H' p L, Same H H' → IsLetters A L → LogV H' L p → Q (.ref p) H'
section
variable {P : Program} {w : World} {K : PySem.W.Frag} {mg : Str → Option Value} {base : Heap}
theorem ok_law_letters {f : Addr} {fd : FuncData} (F : Fun K "_law_letters" "_law_letters" s_law_letters f fd) (T : Top K mg) (C_law_names_had : Cal P w K mg base 1 "_law_names_had" ["_law_rules"] sp_law_names_had) : FnOk P w K mg base CX0 2 f fd ["_law_rules"] sp_law_letters := by
  refine F.ok sc_law_letters (fun vs H Q E h => ?_) (fun cdv A outer s H vs Q E hr h => ?_)
  · obtain ⟨A, a, rfl, _⟩ := h
    rfl
  · obtain ⟨R, a, rfl, hR, lR, oR, k⟩ := h
    refine ⟨_, (pss_cons (ps_set (i := 1) sc_law_letters.nd rfl (Or.inl rfl) (pe_lst pa_nil))
      (pss_cons (ps_for PassesOwn.never rfl (pi_list (pe_cal C_law_names_had (hr.mono (by decide)) rfl (pa_cons (pv 0) pa_nil))) (pg_name (i := 2) sc_law_letters.nd rfl (Or.inr rfl))
        (pss_cons (ps_set (i := 3) sc_law_letters.nd rfl (Or.inr rfl) (pe_lst pa_nil))
        (pss_cons (ps_for PassesOwn.never rfl (pi_list (pv 0)) (pg_name (i := 4) sc_law_letters.nd rfl (Or.inl rfl))
          (pss_one (ps_if (PW.pt (pw_and (pt_cmpR op_eq (pe_ix ix_tup (pv 4) pe_int (fun _ _ => rfl)) pe_str (nomark _)) (pw_and1 (pt_cmpR op_eq (pe_ix ix_tup (pv 4) pe_int (fun _ _ => rfl)) (pv 2) (nomark _)))))
            (pss_one (ps_set (i := 3) sc_law_letters.nd rfl (Or.inr rfl) (pe_op op_cat (pv 3) (pe_callTy call_list_of (by rfl) T.list (by decide +kernel) (pa_cons (pe_ix ix_tup (pv 4) pe_int (fun _ _ => rfl)) pa_nil)))))
            pss_nil)))
        (pss_cons (ps_set (i := 5) sc_law_letters.nd rfl (Or.inl rfl) (pe_ix ix_list (pe_lc (own := [("_law_note_here", 6)]) (by rfl) sc_law_letters.nd (pi_range1 (by rfl) T.range (pa_cons (pe_op op_add (pe_callB call_len_seq (by rfl) T.len (by decide +kernel) (pa_cons (pv 3) pa_nil)) pe_int) pa_nil)) (blkOk_by (own := [("_law_note_here", 6)]) (N := N_law_letters) (sc := defScope s_law_letters) (by decide +kernel)) (fun _ _ _ _ _ => (pg_name (i := 6) sc_law_letters.nd rfl (Or.inl rfl))) (fun _ _ _ _ _ => (pts_one (pt_cmpR (r := rIn K true) op_notIn_seq (pv 6) (pv 3) (by rfl)))) (fun _ _ _ _ _ => (pv 6))) pe_int (fun _ _ => rfl)))
        (pss_one (ps_set (i := 1) sc_law_letters.nd rfl (Or.inl rfl) (pe_op op_cat (pv 1) (pe_lc (own := [("_law_note_here", 6)]) (by rfl) sc_law_letters.nd (pi_list (pe_callB (Ss.cr_sortedG rfl) (by rfl) T.sorted (by decide +kernel) (pa_cons (pe_callTy (Ss.cr_setG rfl) (by rfl) T.set (by decide +kernel) (pa_cons (pe_op op_cat (pv 3) (pe_lst (pa_cons (pv 5) pa_nil))) pa_nil)) pa_nil))) (blkOk_by (own := [("_law_note_here", 6)]) (N := N_law_letters) (sc := defScope s_law_letters) (by decide +kernel)) (fun _ _ _ _ _ => (pg_name (i := 6) sc_law_letters.nd rfl (Or.inl rfl))) (fun _ _ _ _ _ => pts_nil) (fun _ _ _ _ _ => (pe_tup (pa_cons pe_int (pa_cons pe_str (pa_cons (pv 2) (pa_cons (pv 6) pa_nil))))))))))))))
      (pss_one (ps_ret (pv 1))))), ?_⟩
    have hline : (200000 : Nat) ≤ sizeLine := by decide
    refine ⟨Nat.zero_le _, fun f0 nf0 => ?_⟩
    refine ⟨_, rfl, R, a, rfl, hR.same (sNew nf0), namesAll_few oR lR, fun H4 p ys s4 hys np hp4 => ⟨p, rfl, ⟨_, SqL.of hp4⟩, ?_⟩⟩
    have s04 : Same H H4 := (sNew nf0).trans s4
    have hf4 := s4 _ _ (upd_same (H := H) (a := f0) (o := .lst []))
    have hyl := hys.few oR lR
    refine for_list (K := K) (a := p) (xs := ys.map V.str) (fun i σ H5 => Same H4 H5 ∧ ∃ (f : Str → List Int) (fnd : Addr) (x2 x3 x4 x5 : Option V), σ = [some (.ref a), some (.ref fnd), x2, x3, x4, x5, none] ∧ (∀ y, y ∈ ys.take i → IsNotes R y (f y)) ∧ LogV H5 ((ys.take i).flatMap fun y => (f y).map fun k => (y, k)) fnd)
      ⟨Same.refl _, fun _ => [], f0, _, _, _, _, rfl, (fun y h => by cases h), [], hf4, .nil⟩ (fun i σ H5 _ q => SqL.of (q.1 _ _ hp4)) (fun i x σ H5 hx q => ?_) (fun σ H5 q => ?_)
    · obtain ⟨s5, f, fnd, x2, x3, x4, x5, rfl, hf, acc, hacc, haccp⟩ := q
      rw [List.getElem?_map] at hx
      obtain ⟨y, hy, rfl⟩ := Option.map_eq_some_iff.mp hx
      have hnew := take_old hys.2.1 hy
      have hlen0 : acc.length ≤ 625 := by
        rw [← haccp.length]
        have h1 := flat_few (fun y => (f y).map fun k => ((y, k) : Le)) 25 (ys.take i) fun z hz => by rw [List.length_map]; exact (hf z hz).few oR lR
        rw [List.length_take] at h1
        have h2 : min i ys.length * 25 ≤ 25 * 25 := Nat.mul_le_mul_right _ (by omega)
        omega
      have s05 := s04.trans s5
      obtain ⟨rs, hrs, hrp⟩ := id hR
      refine ⟨Nat.zero_le _, fun n0 nn0 => ?_⟩
      refine ⟨_, rfl, a, rfl, ⟨rs, SqL.of (sNew nn0 _ _ (s05 _ _ hrs))⟩, for_list (K := K) (a := a) (xs := rs) (fun j σ H6 => Same H5 H6 ∧ ∃ (nt : Addr) (x4 : Option V), σ = [some (.ref a), some (.ref fnd), some (.str y), some (.ref nt), x4, x5, none] ∧ H6 nt = some (.lst (((R.take j).flatMap (notesR y)).map V.int)))
        ⟨sNew nn0, n0, _, rfl, upd_same⟩ (fun j σ H6 _ q => SqL.of (q.1 _ _ (s05 _ _ hrs))) (fun j x σ H6 hx q => ?_) (fun σ H6 q => ?_)⟩
      · obtain ⟨s6, nt, x4', rfl, hnt⟩ := q
        obtain ⟨r, hr1, hv⟩ := paired_at hrp hx
        have hv6 := hv.same (tOf (s05.trans s6))
        have pre : (R.take (j + 1)).flatMap (notesR y) = (R.take j).flatMap (notesR y) ++ notesR y r := by
          rw [List.take_succ, hr1, List.flatMap_append]
          simp
        have tot1 : ((R.take (j + 1)).flatMap (notesR y)).length ≤ 24 := by
          have e : notesAll R y = (R.take (j + 1)).flatMap (notesR y) ++ (R.drop (j + 1)).flatMap (notesR y) := by
            rw [← List.flatMap_append, List.take_append_drop]
            rfl
          have h1 := congrArg List.length e
          have h2 := notesAll_few oR lR y
          rw [List.length_append] at h1
          omega
        have none_of : notesR y r = [] → ∀ x4'', (Same H5 H6 ∧ ∃ (nt' : Addr) (x4 : Option V), [some (.ref a), some (.ref fnd), some (.str y), some (.ref nt), x4'', x5, none] = [some (.ref a), some (.ref fnd), some (.str y), some (.ref nt'), x4, x5, none] ∧ H6 nt' = some (.lst (((R.take (j + 1)).flatMap (notesR y)).map V.int))) := fun e x4'' => ⟨s6, nt, _, rfl, by rw [pre, e, List.append_nil]; exact hnt⟩
        by_cases hnote : ∃ m ks, r = .note m ks
        · obtain ⟨m, ks, rfl⟩ := hnote
          obtain ⟨p0, rfl, t, hp0, ht⟩ := hv6
          refine ⟨_, rfl, p0, _, _, _, rfl, rfl, SqT.of hp0, rfl, rfl, _, rfl, eqT ⟨_, rfl, p0, _, _, _, rfl, rfl, SqT.of hp0, rfl, _, rfl, rfl, _, rfl, iteD (strD _ _) (ite2 (fun e => ?_) (fun e => ?_))⟩⟩
          · have e := of_decide_eq_true e
            have en : notesR y (.note m ks) = ks := by show (if m = y then ks else []) = ks; rw [if_pos e]
            rw [pre, en, List.length_append] at tot1
            refine ⟨_, rfl, _, rfl, p0, _, _, _, rfl, rfl, SqT.of hp0, rfl, t, _, rfl, .inr (SqT.of ht), fun l nl => ⟨nt, l, _, _, rfl, rfl, sNew nl _ _ hnt, upd_same, by rw [List.length_map, List.length_map]; omega, fun c nc => ?_⟩⟩
            exact ⟨s6.trans ((sNew nl).trans (sNew nc)), c, _, rfl, by rw [upd_same, pre, en, List.map_append]⟩
          · have e : ¬ m = y := fun z => e (decide_eq_true z)
            exact none_of (if_neg e) _
        · obtain ⟨p0, rest, rfl, hp0⟩ := hv6.head
          refine ⟨_, rfl, p0, _, ((0 : Nat) : Int), _, rfl, rfl, SqT.of hp0, atI_nat (j := 0) rfl, rfl, _, rfl, eqF (strNe ?_) (none_of ?_ _)⟩
          · cases r with
            | note m ks => exact absurd ⟨m, ks, rfl⟩ hnote
            | _ => dsimp only [wordR]; decide +kernel
          · cases r with
            | note m ks => exact absurd ⟨m, ks, rfl⟩ hnote
            | _ => rfl
      · obtain ⟨s6, nt, x4', rfl, hnt⟩ := q
        rw [← hrp.length, List.take_length] at hnt
        have hnt : H6 nt = some (.lst ((notesAll R y).map V.int)) := hnt
        have hnl := notesAll_few oR lR y
        obtain ⟨i0, hn0, hb0⟩ := firstK_some (notesAll R y)
        have hi0 := firstK_le (S := notesAll R y) ⟨hn0, hb0⟩
        refine ⟨_, rfl, nt, _, rfl, .inl (SqL.of hnt), _, _, rfl, rfl, _, rfl, by rw [List.length_map]; omega, by rw [List.length_map]; omega, fun D nD => ?_⟩
        have hN : (((notesAll R y).map V.int).length : Int) + 1 = (((notesAll R y).length + 1 : Nat) : Int) := by rw [List.length_map]; rfl
        rw [hN]
        refine lc_range (lo := 0) (n := ((((notesAll R y).length + 1 : Nat) : Int)).toNat) (fun i H7 => Same H6 H7 ∧ H7 D = some (.lst ((((List.range i).map fun j : Nat => (j : Int)).filter fun x => decide (¬ x ∈ notesAll R y)).map V.int))) ⟨sNew nD, upd_same⟩ (fun i7 H7 hi7 q7 => ⟨rfl, ?_⟩) (fun H7 q7 => ?_)
        · obtain ⟨s7, hD7⟩ := q7
          have et : (List.range (i7 + 1)).map (fun j : Nat => (j : Int)) = (List.range i7).map (fun j : Nat => (j : Int)) ++ [(i7 : Int)] := by rw [List.range_succ, List.map_append]; rfl
          refine ⟨_, rfl, _, rfl, nt, _, rfl, .inl (SqL.of (s7 _ _ hnt)), rfl, flat_ints _, _, rfl, iteD (congrArg not (in_ints _ _)) (ite2 (fun d => ?_) (fun d => ?_))⟩
          · have d : ¬ (i7 : Int) ∈ notesAll R y := by simpa using d
            refine ⟨_, rfl, _, hD7, ?_, fun b o e => ?_, ?_⟩
            · rw [List.length_map]
              have h1 := List.length_filter_le (fun x => decide (¬ x ∈ notesAll R y)) ((List.range i7).map fun j : Nat => (j : Int))
              rw [List.length_map, List.length_range] at h1
              omega
            · rw [upd_ne (ne_of_none e nD)]
              exact s7 _ _ e
            · rw [upd_same, et, List.filter_append, List.map_append]
              have e1 : [(i7 : Int)].filter (fun x => decide (¬ x ∈ notesAll R y)) = [(i7 : Int)] := List.filter_cons_of_pos (decide_eq_true d)
              rw [e1]
              show _ = some (HO.lst (_ ++ [V.int (i7 : Int)]))
              rw [Int.zero_add]
          · have d : (i7 : Int) ∈ notesAll R y := by simpa using d
            refine ⟨s7, ?_⟩
            rw [et, List.filter_append]
            have e1 : [(i7 : Int)].filter (fun x => decide (¬ x ∈ notesAll R y)) = [] := List.filter_cons_of_neg (fun z => (of_decide_eq_true z) d)
            rw [e1, List.append_nil]
            exact hD7
        · obtain ⟨s7, hD7⟩ := q7
          rw [Int.toNat_natCast] at hD7
          have hfirst : (((List.range ((notesAll R y).length + 1)).map fun j : Nat => (j : Int)).filter fun x => decide (¬ x ∈ notesAll R y))[0]? = some (i0 : Int) := by
            refine filter_first _ _ i0 (i0 : Int) ?_ (decide_eq_true hn0) fun j y hj hy => ?_
            · rw [List.getElem?_map, List.getElem?_range (by omega)]
              rfl
            · rw [List.getElem?_map, List.getElem?_range (by omega)] at hy
              have hy := Option.some.inj hy
              rw [← hy]
              exact decide_eq_false fun z => z (hb0 j hj)
          refine ⟨D, _, ((0 : Nat) : Int), .int (i0 : Int), rfl, rfl, SqL.of hD7, atI_nat (by rw [List.getElem?_map, hfirst]; rfl), ?_⟩
          have hnt7 := s7 _ _ hnt
          refine ⟨_, rfl, _, rfl, _, rfl, (by show 1 ≤ sizeLine; decide), fun e ne => ⟨nt, e, _, _, rfl, rfl, sNew ne _ _ hnt7, upd_same, by rw [List.length_map]; show (notesAll R y).length + 1 ≤ sizeLine; omega, fun g ng => ?_⟩⟩
          refine ⟨g, (notesAll R y ++ [(i0 : Int)]).map Sum.inl, rfl, SqL.of (by rw [upd_same, List.map_map, List.map_append]; rfl), by rw [List.length_map, List.length_append, List.length_singleton]; omega, fun p1 np1 => ?_⟩
          refine ⟨p1, notesAll R y ++ [(i0 : Int)], rfl, upd_same, by rw [List.length_append, List.length_singleton]; omega, fun p2 ks np2 so mem => ?_⟩
          have s78 := ((sNew (o := .lst [.int (i0 : Int)]) ne).trans (sNew (o := .lst ((notesAll R y).map V.int ++ [.int (i0 : Int)])) ng)).trans ((sNew (o := Ss.SetGO w p1 ((notesAll R y ++ [(i0 : Int)]).map Sum.inl)) np1).trans (sNew (o := .lst (ks.map V.int)) np2))
          have hks : IsNotes R y ks := ⟨so, i0, ⟨hn0, hb0⟩, fun x => by rw [mem, List.mem_append, List.mem_singleton]⟩
          have hkl := hks.few oR lR
          have e78 := upd_same (H := upd (upd (upd H7 e (.lst [.int (i0 : Int)])) g (.lst ((notesAll R y).map V.int ++ [.int (i0 : Int)]))) p1 (Ss.SetGO w p1 ((notesAll R y ++ [(i0 : Int)]).map Sum.inl))) (a := p2) (o := .lst (ks.map V.int))
          have s58 := s6.trans (s7.trans s78)
          refine ⟨p2, rfl, ⟨_, SqL.of e78⟩, fun D2 nD2 => it_list (xs := ks.map V.int) (Made (fun j H v => ∃ k0, ks[j]? = some k0 ∧ RowV H (y, k0) v) _ D2) (made0 nD2) (fun i H9 q => SqL.of (q.1 _ _ e78)) (fun i9 x H9 hx9 q9 => ?_) (fun H9 q9 => ?_)⟩
          · rw [List.getElem?_map] at hx9
            obtain ⟨k0, hk0, rfl⟩ := Option.map_eq_some_iff.mp hx9
            have hi9 : i9 < ks.length := (List.getElem?_eq_some_iff.mp hk0).1
            refine ⟨rfl, _, rfl, _, rfl, (by show 4 ≤ sizeLine; decide), fun u nu => ?_⟩
            exact made_step (fun j H H' v st g => by obtain ⟨k0, h1, h2⟩ := g; exact ⟨k0, h1, h2.same st⟩) nD2 (by omega) q9 (sNew nu) ⟨k0, hk0, u, rfl, upd_same⟩
          · obtain ⟨s9, acc9, hD9, hl9, hacc9⟩ := q9
            rw [List.length_map] at hl9
            have hfnd := s9 _ _ (s58 _ _ hacc)
            refine ⟨fnd, D2, acc, acc9, rfl, rfl, hfnd, hD9, by omega, fun c nc => ?_⟩
            have s5c := s58.trans (s9.trans (sNew (o := .lst (acc ++ acc9)) nc))
            have e0 : ∀ z, z ∈ ys.take i → (if z = y then ks else f z) = f z := fun z hz => if_neg (fun e : z = y => hnew (by rw [← e]; exact hz))
            have et : (ys.take (i + 1)) = ys.take i ++ [y] := by rw [List.take_succ, hy]; rfl
            refine ⟨s5.trans s5c, fun z => if z = y then ks else f z, c, _, _, _, _, rfl, fun z hz => ?_, _, upd_same, ?_⟩
            · rw [et] at hz
              rcases List.mem_append.mp hz with hz | hz
              · show IsNotes _ z (if z = y then ks else f z)
                rw [e0 z hz]
                exact hf z hz
              · rw [List.mem_singleton.mp hz]
                show IsNotes _ y (if y = y then ks else f y)
                rw [if_pos rfl]
                exact hks
            · have ef : ((ys.take (i + 1)).flatMap fun z => (if z = y then ks else f z).map fun k => ((z, k) : Le)) = ((ys.take i).flatMap fun z => (f z).map fun k => (z, k)) ++ ks.map fun k => (y, k) := by
                rw [et, List.flatMap_append]
                congr 1
                · apply congrArg List.flatten
                  apply List.map_congr_left
                  intro z hz
                  rw [e0 z hz]
                · simp
              rw [ef]
              refine paired_app (rowsSame haccp (tOf s5c)) (paired_of (by rw [List.length_map, hl9]) fun j' l' v' h1 h2 => ?_)
              obtain ⟨k0, h3, h4⟩ := hacc9 j' v' h2
              rw [List.getElem?_map, h3] at h1
              have h1 : (y, k0) = l' := Option.some.inj h1
              subst h1
              exact h4.same (tNew nc)
    · obtain ⟨s5, f, fnd, x2, x3, x4, x5, rfl, hf, hL⟩ := q
      rw [List.length_map, List.take_length] at hf hL
      exact ⟨_, rfl, k H5 fnd _ (s04.trans s5) ⟨ys, f, hys, hf, rfl⟩ hL⟩
end
end Sk
set_option Elab.async false
set_option linter.all false
set_option maxRecDepth 100000
namespace Sk
open PySem PySem.Spec PyProof.Rows L2 Sl Bf Zs Sr Dc2 Nd
theorem addK_len {κ : Type} [DecidableEq κ] (kn : List (κ × List Nat)) (q : κ) (w : List Nat) : kn.length ≤ (addK kn q w).length := by
  obtain ⟨more, e⟩ := addK_pre kn q w
  rw [e, List.length_append]
  omega
theorem expand_len {κ : Type} [DecidableEq κ] (δ : κ → Nat → κ) (p : κ) (w : List Nat) (kn : List (κ × List Nat)) {t m : Nat} (h : t ≤ m) : (expand δ p w t kn).length ≤ (expand δ p w m kn).length := by
  induction m with
  | zero =>
    have : t = 0 := by omega
    subst this
    exact Nat.le_refl _
  | succ m ih =>
    by_cases e : t = m + 1
    · subst e
      exact Nat.le_refl _
    · rw [expand_succ]
      exact Nat.le_trans (ih (by omega)) (addK_len _ _ _)
theorem kns_long {κ : Type} [DecidableEq κ] (δ : κ → Nat → κ) (m : Nat) (p0 : κ) : ∀ i e, e ∈ kns δ m p0 i → e.2.length ≤ i := by
  intro i
  induction i with
  | zero => intro e he; rw [List.mem_singleton.mp he]; exact Nat.le_refl _
  | succ i ih =>
    intro e he
    have he : e ∈ (match (kns δ m p0 i)[i]? with | none => kns δ m p0 i | some (p, w) => expand δ p w m (kns δ m p0 i)) := he
    cases q : (kns δ m p0 i)[i]? with
    | none => rw [q] at he; exact Nat.le_succ_of_le (ih e he)
    | some x =>
      rw [q] at he
      rcases expand_mem he with he | ⟨d, _, rfl⟩
      · exact Nat.le_succ_of_le (ih e he)
      · show (x.2 ++ [d]).length ≤ i + 1
        rw [List.length_append]
        exact Nat.succ_le_succ (ih x (List.mem_of_getElem? q))
theorem spell_len {N : Type} (L : List (Ltr N)) (w : List Nat) : (spell L w).length ≤ w.length := List.length_filterMap_le _ _
/-- the standings that are reached stay within their rules -/
theorem capS_run (A : List Ru) (u : List Le) : CapS A (runS A u) := by
  rw [runS_eq]
  unfold gather
  split
  · exact True.intro
  · rename_i h
    refine ⟨by rw [List.length_map, List.length_map], fun i r s h1 h2 => ?_⟩
    rw [List.getElem?_map, List.getElem?_map, h1] at h2
    have h2 : (runR r u).getD 0 = s := Option.some.inj h2
    cases e : runR r u with
    | none => exact absurd (List.mem_map.mpr ⟨r, List.mem_of_getElem? h1, e⟩) h
    | some t =>
      rw [e] at h2
      rw [← h2]
      exact runR_cap r u t e
theorem caps_at {A B : List Ru} {L : List Le} {i : Nat} (hl : LiveQ A B L i) {e : Sl.Pr × List Nat} (he : e ∈ knQ A B L i) : CapS A e.1.1 ∧ CapS B e.1.2 := by
  obtain ⟨h1, h2⟩ := hl.ok.runs e he
  rw [h1, run_eq A B L e.2 h2]
  exact ⟨capS_run A _, capS_run B _⟩
theorem live_next {A B : List Ru} {L : List Le} {i : Nat} {e : Sl.Pr × List Nat} (hl : LiveQ A B L i) (h : (knQ A B L i)[i]? = some e) (hd : differs A B e.1 = false) : LiveQ A B L (i + 1) := by
  intro j hj
  by_cases q : j < i
  · exact hl j q
  · have q : j = i := by omega
    subst q
    unfold stop
    rw [h]
    exact hd
theorem kn_next {A B : List Ru} {L : List Le} {i : Nat} {p : Sl.Pr} {w : List Nat} (h : (knQ A B L i)[i]? = some (p, w)) : knQ A B L (i + 1) = expand (stepD A B L) p w L.length (knQ A B L i) := by
  unfold knQ at h ⊢
  rw [kns, h]
theorem told_none {A B : List Ru} {L : List Le} {i : Nat} (hl : LiveQ A B L i) (h : (knQ A B L i)[i]? = none) : Told A B L none := by
  refine ⟨i, hl, ?_, ?_⟩
  · unfold stop
    rw [h]
  · show none = ((knQ A B L i)[i]?).map (·.2)
    rw [h]
    rfl
theorem told_some {A B : List Ru} {L : List Le} {i : Nat} {p : Sl.Pr} {w : List Nat} (hl : LiveQ A B L i) (h : (knQ A B L i)[i]? = some (p, w)) (hd : differs A B p = true) : Told A B L (some w) := by
  refine ⟨i, hl, ?_, ?_⟩
  · unfold stop
    rw [h]
    exact hd
  · show some w = ((knQ A B L i)[i]?).map (·.2)
    rw [h]
    rfl
theorem live_le {A B : List Ru} {L : List Le} {i : Nat} (hl : LiveQ A B L i) : i ≤ (knQ A B L i).length := by
  cases i with
  | zero => exact Nat.zero_le _
  | succ i =>
    have h := hl.some i (Nat.lt_succ_self i)
    obtain ⟨more, e⟩ := kns_pre (stepD A B L) L.length (firstQ A B) i
    unfold knQ
    rw [e, List.length_append]
    have : ¬ (kns (stepD A B L) L.length (firstQ A B) i).length ≤ i := fun z => h (List.getElem?_eq_none z)
    omega
theorem bl_ne (a b : Bool) : (!decide (V.bl a = V.bl b)) = (a != b) := by cases a <;> cases b <;> rfl
/-! ### what is known, as a dict, and the front, as a list -/
abbrev EntV (lg : Hp → List Le → V → Prop) (L : List Le) (H : Hp) : Sl.Pr × List Nat → Sl.Pr × V → Prop := fun e kv => e.1 = kv.1 ∧ lg H (spell L e.2) kv.2
theorem ent_any {lg : Hp → List Le → V → Prop} {L : List Le} {H : Hp} : ∀ {kn : List (Sl.Pr × List Nat)} {kvs : List (Sl.Pr × V)}, Paired (EntV lg L H) kn kvs → ∀ q : Sl.Pr, (valV kvs q).isSome = kn.any fun e => decide (e.1 = q)
  | _, _, .nil, q => rfl
  | _, _, @Paired.cons _ _ _ e kv kn kvs r t, q => by
    rw [List.any_cons, ← ent_any t q]
    by_cases h : kv.1 = q
    · rw [valV_pos h, decide_eq_true (r.1.trans h)]
      rfl
    · rw [valV_neg h, decide_eq_false fun z => h (r.1.symm.trans z)]
      rfl
theorem ent_at {lg : Hp → List Le → V → Prop} {L : List Le} {H : Hp} : ∀ {kn : List (Sl.Pr × List Nat)} {kvs : List (Sl.Pr × V)}, Paired (EntV lg L H) kn kvs → ∀ {i : Nat} {p : Sl.Pr} {w : List Nat}, kn[i]? = some (p, w) → (∀ (j : Nat) (e : Sl.Pr × List Nat), j < i → kn[j]? = some e → e.1 ≠ p) → ∃ v, valV kvs p = some v ∧ lg H (spell L w) v
  | _, _, .nil, i, p, w, h, _ => by simp at h
  | _, _, @Paired.cons _ _ _ e kv kn kvs r t, 0, p, w, h, _ => by
    have h : e = (p, w) := Option.some.inj h
    subst h
    exact ⟨kv.2, valV_pos r.1.symm, r.2⟩
  | _, _, @Paired.cons _ _ _ e kv kn kvs r t, i + 1, p, w, h, hb => by
    have h0 := hb 0 e (Nat.succ_pos i) rfl
    obtain ⟨v, h1, h2⟩ := ent_at t (i := i) h fun j e' hj he => hb (j + 1) e' (Nat.succ_lt_succ hj) he
    exact ⟨v, by rw [valV_neg fun z => h0 (r.1.trans z)]; exact h1, h2⟩
theorem ent_here {lg : Hp → List Le → V → Prop} {A B : List Ru} {L : List Le} {H : Hp} {i : Nat} (hl : LiveQ A B L i) {more : List (Sl.Pr × List Nat)} {kvs : List (Sl.Pr × V)} (hp : Paired (EntV lg L H) (knQ A B L i ++ more) kvs) {p : Sl.Pr} {w : List Nat} (h : (knQ A B L i)[i]? = some (p, w)) : ∃ v, valV kvs p = some v ∧ lg H (spell L w) v := by
  have hi := (List.getElem?_eq_some_iff.mp h).1
  refine ent_at hp (i := i) (by rw [List.getElem?_append_left hi]; exact h) fun j e hj he => ?_
  rw [List.getElem?_append_left (by omega)] at he
  intro z
  have nd := hl.ok.nd
  have h1 : ((knQ A B L i).map (·.1))[i]? = some p := by rw [List.getElem?_map, h]; rfl
  have h2 : ((knQ A B L i).map (·.1))[j]? = some p := by rw [List.getElem?_map, he]; exact congrArg some z
  have := nd_ix nd h1 h2
  omega
theorem DictN.keep {P : Program} {w : World} {H H' : Hp} {d : Addr} {kvs : List (Sl.Pr × V)} (x : DictN P w H d kvs) (st : SameT H H') (hd : H' d = H d) : DictN P w H' d kvs := by
  obtain ⟨xs, r, h1, h2, h3⟩ := x
  exact ⟨xs, Paired.mapP r fun p q z => ⟨z.1, z.2.1.same fun b ys e => st _ _ e, z.2.2⟩, h1, h2, by rw [hd]; exact h3⟩
theorem DictN.neL {P : Program} {w : World} {H : Hp} {d a : Addr} {kvs : List (Sl.Pr × V)} {vs : List V} (x : DictN P w H d kvs) (h : H a = some (.lst vs)) : a ≠ d := by
  obtain ⟨xs, _, _, _, h3⟩ := x
  exact ne_of h h3 (by intro z; cases z)
theorem DictN.tE {P : Program} {w : World} {H : Hp} {d : Addr} {kvs : List (Sl.Pr × V)} (x : DictN P w H d kvs) (o : HO) : SameT H (upd H d o) := fun b ys e => by
  obtain ⟨xs, _, _, _, h3⟩ := x
  rw [upd_ne (ne_of e h3 (by intro z; cases z))]
  exact e
/-- what the walk tells, as a value -/
def ResV (H : Hp) (L : List Le) (r : Option (List Nat)) (z : V) : Prop := match r with
  | none => z = .non
  | some w => ∃ a, z = .ref a ∧ LogV H (spell L w) a
theorem ResV.same {H H' : Hp} {L : List Le} {r : Option (List Nat)} {z : V} (h : ResV H L r z) (s : Same H H') : ResV H' L r z := by
  cases r with
  | none => exact h
  | some w =>
    obtain ⟨a, e, h⟩ := h
    exact ⟨a, e, h.same s⟩
theorem polOk {A : List Ru} (h : ∀ r, r ∈ A → RuleOk r) (hl : A.length ≤ 3) : Pol A := ⟨hl, fun r hr => ruleSmall (h r hr)⟩
end Sk
set_option Elab.async false
set_option linter.all false
set_option maxRecDepth 100000
namespace Sk
open PySem PySem.Spec PyProof.Rows L2 Sl Bf Zs Sr Dc2 Nd
/-- a log kept in a list that is not the front -/
def LogL (fr : Addr) : Hp → List Le → V → Prop := fun H u v => ∃ a, v = .ref a ∧ a ≠ fr ∧ LogV H u a
theorem LogL.keep {fr : Addr} {H H' : Hp} {u : List Le} {v : V} (h : LogL fr H u v) (hk : ∀ b xs, H b = some (.lst xs) → b ≠ fr → H' b = some (.lst xs)) (st : SameT H H') : LogL fr H' u v := by
  obtain ⟨a, e, ne, vs, h1, h2⟩ := h
  exact ⟨a, e, ne, vs, hk _ _ h1 ne, rowsSame h2 st⟩
theorem entKeep {fr : Addr} {L : List Le} {H H' : Hp} {kn : List (Sl.Pr × List Nat)} {kvs : List (Sl.Pr × V)} (h : Paired (EntV (LogL fr) L H) kn kvs) (hk : ∀ b xs, H b = some (.lst xs) → b ≠ fr → H' b = some (.lst xs)) (st : SameT H H') : Paired (EntV (LogL fr) L H') kn kvs :=
  Paired.mapP h fun _ _ q => ⟨q.1, q.2.keep hk st⟩
theorem entSame {fr : Addr} {L : List Le} {H H' : Hp} {kn : List (Sl.Pr × List Nat)} {kvs : List (Sl.Pr × V)} (h : Paired (EntV (LogL fr) L H) kn kvs) (s : Same H H') : Paired (EntV (LogL fr) L H') kn kvs := entKeep h (fun _ _ e _ => s _ _ e) (tOf s)
theorem frontSame {H H' : Hp} {kn : List (Sl.Pr × List Nat)} {fs : List V} (h : Paired (fun (e : Sl.Pr × List Nat) v => PrV H e.1 v) kn fs) (st : SameT H H') : Paired (fun (e : Sl.Pr × List Nat) v => PrV H' e.1 v) kn fs := Paired.mapP h fun _ _ q => prSame q st
abbrev s_law_pairs : Stmt := top 41
abbrev N_law_pairs : List Str := ["_law_one", "_law_two", "_law_letters_here", "_law_begun", "_law_known", "_law_front", "_law_turn", "_law_here", "_law_row", "_law_later"]
theorem sc_law_pairs : FnScope N_law_pairs ["_law_one", "_law_two"] (defScope s_law_pairs) := ⟨rfl, rfl, rfl, by decide +kernel, rfl, by decide +kernel, by decide +kernel⟩
-- slots: 0 _law_one, 1 _law_two, 2 _law_letters_here, 3 _law_begun, 4 _law_known, 5 _law_front, 6 _law_turn, 7 _law_here, 8 _law_row, 9 _law_later
def sp_law_pairs : Sp := fun vs H Q _ => ∃ (A B : List Ru) (q1 q2 : Addr), vs = [.ref q1, .ref q2] ∧ RulesAt H q1 A ∧ RulesAt H q2 B ∧ A.length ≤ 3 ∧ B.length ≤ 3 ∧ (∀ r, r ∈ A → RuleOk r) ∧ (∀ r, r ∈ B → RuleOk r) ∧
  ∀ H' t d z L r, Same H H' → IsLetters (A ++ B) L → Told A B L r → ResV H' L r z → H' t = some (.tup [.ref d, z]) → Q (.ref t) H'
section
variable {P : Program} {w : World} {K : PySem.W.Frag} {mg : Str → Option Value} {base : Heap}
theorem ok_law_pairs {f : Addr} {fd : FuncData} (F : Fun K "_law_pairs" "_law_pairs" s_law_pairs f fd) (T : Top K mg) (C_law_letters : Cal P w K mg base 2 "_law_letters" ["_law_rules"] sp_law_letters) (C_law_ends : Cal P w K mg base 1 "_law_ends" ["_law_rules", "_law_standing"] sp_law_ends)
    (C_law_behind : Cal P w K mg base 2 "_law_behind" ["_law_rules", "_law_standing", "_law_row"] sp_law_behind) : FnOk P w K mg base CX0 3 f fd ["_law_one", "_law_two"] sp_law_pairs := by
  refine F.ok sc_law_pairs (fun vs H Q E h => ?_) (fun cdv A outer s H vs Q E hr h => ?_)
  · obtain ⟨A, B, q1, q2, rfl, _⟩ := h
    rfl
  · obtain ⟨R, B, q1, q2, rfl, ⟨rs1, h1, hp1⟩, ⟨rs2, h2, hp2⟩, lA, lB, oA, oB, k⟩ := h
    refine ⟨_, (pss_cons (ps_par (i := 2) (j := 3) (by rfl) sc_law_pairs.nd rfl rfl (by decide) rfl rfl (pa_cons (pe_cal C_law_letters (hr.mono (by decide)) rfl (pa_cons (pe_op op_cat (pv 0) (pv 1)) pa_nil)) (pa_cons (pe_tup (pa_cons (pe_op Tm.op_repV (pe_tup (pa_cons pe_int pa_nil)) (pe_callB call_len_seq (by rfl) T.len (by decide +kernel) (pa_cons (pv 0) pa_nil))) (pa_cons (pe_op Tm.op_repV (pe_tup (pa_cons pe_int pa_nil)) (pe_callB call_len_seq (by rfl) T.len (by decide +kernel) (pa_cons (pv 1) pa_nil))) pa_nil))) pa_nil)) (by rfl))
      (pss_cons (ps_par (i := 4) (j := 5) (by rfl) sc_law_pairs.nd rfl rfl (by decide) rfl rfl (pa_cons (Nd.pe_dispN hr.units (pv 3) (pe_lst pa_nil)) (pa_cons (pe_lst (pa_cons (pv 3) pa_nil)) pa_nil)) (by rfl))
      (pss_cons (ps_for PassesOwn.never rfl (pi_range1 (by rfl) T.range (pa_cons pe_int pa_nil)) (pg_name (i := 6) sc_law_pairs.nd rfl (Or.inl rfl))
        (pss_cons (ps_if (pt_cmpR op_eq (pv 6) (pe_callB call_len_seq (by rfl) T.len (by decide +kernel) (pa_cons (pv 5) pa_nil)) (nomark _))
          (pss_one (ps_ret (pe_tup (pa_cons (pv 4) (pa_cons pe_non pa_nil)))))
          pss_nil)
        (pss_cons (ps_set (i := 7) sc_law_pairs.nd rfl (Or.inl rfl) (pe_ix ix_list (pv 5) (pv 6) (fun _ _ => rfl)))
        (pss_cons (ps_if (pt_cmpR op_ne (pe_cal C_law_ends (hr.mono (by decide)) rfl (pa_cons (pv 0) (pa_cons (pe_ix ix_tup (pv 7) pe_int (fun _ _ => rfl)) pa_nil))) (pe_cal C_law_ends (hr.mono (by decide)) rfl (pa_cons (pv 1) (pa_cons (pe_ix ix_tup (pv 7) pe_int (fun _ _ => rfl)) pa_nil))) (nomark _))
          (pss_one (ps_ret (pe_tup (pa_cons (pv 4) (pa_cons (pe_ix (Nd.ix_getN hr.units) (pv 4) (pv 7) (fun _ _ => rfl)) pa_nil)))))
          pss_nil)
        (pss_one (ps_for PassesOwn.never rfl (pi_list (pv 2)) (pg_name (i := 8) sc_law_pairs.nd rfl (Or.inl rfl))
          (pss_cons (ps_set (i := 9) sc_law_pairs.nd rfl (Or.inl rfl) (pe_tup (pa_cons (pe_cal C_law_behind (hr.mono (by decide)) rfl (pa_cons (pv 0) (pa_cons (pe_ix ix_tup (pv 7) pe_int (fun _ _ => rfl)) (pa_cons (pv 8) pa_nil)))) (pa_cons (pe_cal C_law_behind (hr.mono (by decide)) rfl (pa_cons (pv 1) (pa_cons (pe_ix ix_tup (pv 7) pe_int (fun _ _ => rfl)) (pa_cons (pv 8) pa_nil)))) pa_nil))))
          (pss_one (ps_if (pt_cmpR (Nd.op_notInN hr.units) (pv 9) (pv 4) (by rfl))
            (pss_cons (ps_asg (pe_op op_cat (pe_ix (Nd.ix_getN hr.units) (pv 4) (pv 7) (fun _ _ => rfl)) (pe_lst (pa_cons (pv 8) pa_nil))) (pg_sub (pv 4) (pv 9) (Nd.set_N hr.units)))
            (pss_one (ps_expr (pe_bm PySem.F.plainAttrs_list PySem.F.slot_list_append PySem.F.type_list_append mt_append (pv 5) (pa_cons (pv 9) pa_nil)))))
            pss_nil)))))))))
      (pss_one (ps_ret (pe_tup (pa_cons (pv 4) (pa_cons pe_non pa_nil)))))))), ?_⟩
    have hline : (200000 : Nat) ≤ sizeLine := by decide
    have e1 := hp1.length
    have e2 := hp2.length
    refine ⟨_, rfl, _, rfl, q1, q2, rs1, rs2, rfl, rfl, h1, h2, by omega, fun c nc => ?_⟩
    have oR : ∀ r, r ∈ R ++ B → RuleOk r := fun r h => (List.mem_append.mp h).elim (oA r) (oB r)
    have lR : (R ++ B).length ≤ 6 := by rw [List.length_append]; omega
    refine ⟨R ++ B, c, rfl, ⟨_, upd_same, paired_app (rulesSame hp1 (tNew nc)) (rulesSame hp2 (tNew nc))⟩, lR, oR, fun H1 lp L s1 hL hLg => ?_⟩
    obtain ⟨ls, hls, hlp⟩ := hLg
    have s01 : Same H H1 := (sNew nc).trans s1
    have hLl := hL.few oR lR
    have hLo := hL.ok oR
    refine ⟨by show 1 ≤ sizeLine; decide, fun t1 nt1 => ?_⟩
    refine ⟨_, rfl, q1, rs1, rfl, .inl (SqL.of (sNew nt1 _ _ (s01 _ _ h1))), t1, rs1.length, _, rfl, rfl, upd_same, by omega, fun z1 H2 s2 hz1 => ?_⟩
    have s02 : Same H H2 := s01.trans ((sNew nt1).trans s2)
    refine ⟨by show 1 ≤ sizeLine; decide, fun t2 nt2 => ?_⟩
    refine ⟨_, rfl, q2, rs2, rfl, .inl (SqL.of (sNew nt2 _ _ (s02 _ _ h2))), t2, rs2.length, _, rfl, rfl, upd_same, by omega, fun z2 H3 s3 hz2 => ?_⟩
    have s23 : Same H2 H3 := (sNew nt2).trans s3
    refine ⟨by show 2 ≤ sizeLine; decide, fun b0 nb0 => ⟨_, _, rfl, ?_⟩⟩
    have s34 : Same H3 (upd H3 b0 (.tup [.ref z1, .ref z2])) := sNew nb0
    have eb : (upd H3 b0 (.tup [.ref z1, .ref z2])) b0 = some (.tup [.ref z1, .ref z2]) := upd_same
    have hz1' : H3 z1 = some (.tup ((List.replicate R.length 0).map fun (n : Nat) => V.int (n : Int))) := by
      rw [s23 _ _ hz1, List.map_replicate, e1]
      rfl
    have hz2' : H3 z2 = some (.tup ((List.replicate B.length 0).map fun (n : Nat) => V.int (n : Int))) := by
      rw [hz2, List.map_replicate, e2]
      rfl
    have hbeg : PrV (upd H3 b0 (.tup [.ref z1, .ref z2])) (firstQ R B) (.ref b0) := ⟨b0, _, _, rfl, eb, ⟨z1, rfl, s34 _ _ hz1'⟩, ⟨z2, rfl, s34 _ _ hz2'⟩⟩
    revert s34 hbeg eb
    generalize upd H3 b0 (.tup [.ref z1, .ref z2]) = H4
    intro s34 eb hbeg
    have s04 : Same H H4 := s02.trans (s23.trans s34)
    have hls4 : H4 lp = some (.lst ls) := s34 _ _ (s23 _ _ (s2 _ _ (sNew nt1 _ _ hls)))
    have s14 : Same H1 H4 := ((sNew nt1).trans s2).trans (s23.trans s34)
    have hlp4 := rowsSame hlp (tOf s14)
    -- the dict and the front
    refine fun d nd => ⟨_, rfl, Nat.zero_le _, fun g0 ng0 => ?_⟩
    have hgd : g0 ≠ d := (ne_of_none upd_same ng0).symm
    refine ⟨by rw [upd_ne hgd.symm]; exact upd_same, firstQ R B, prSame hbeg ((tNew nd).trans (tNew ng0)), fun ob hob => ?_⟩
    have hd5 : (upd (upd (upd H4 d (.dT [])) g0 (.lst [])) d ob) d = some ob := upd_same
    have hg5 : (upd (upd (upd H4 d (.dT [])) g0 (.lst [])) d ob) g0 = some (.lst []) := by rw [upd_ne hgd]; exact upd_same
    have s45 : Same H4 (upd (upd (upd H4 d (.dT [])) g0 (.lst [])) d ob) := fun b o e => by
      have n1 := ne_of_none e nd
      rw [upd_ne n1]
      exact sNew ng0 _ _ (sNew nd _ _ e)
    revert hd5 hg5 s45 hob
    generalize (upd (upd (upd H4 d (.dT [])) g0 (.lst [])) d ob) = H5
    intro hob hd5 hg5 s45
    refine ⟨_, rfl, by show 1 ≤ sizeLine; decide, fun fr nfr => ⟨_, _, rfl, ?_⟩⟩
    have nfr4 : H4 fr = none := s45.free nfr
    have s46 : Same H4 (upd H5 fr (.lst [.ref b0])) := s45.trans (sNew nfr)
    have hD6 : DictN P w (upd H5 fr (.lst [.ref b0])) d [(firstQ R B, .ref g0)] := DictN.keep hob (tNew nfr) (upd_ne (ne_of_none hd5 nfr))
    have hf6 : (upd H5 fr (.lst [.ref b0])) fr = some (.lst [.ref b0]) := upd_same
    have hE6 : Paired (EntV (LogL fr) L (upd H5 fr (.lst [.ref b0]))) (knQ R B L 0) [(firstQ R B, .ref g0)] := .cons ⟨rfl, g0, rfl, ne_of_none hg5 nfr, [], sNew nfr _ _ hg5, .nil⟩ .nil
    have hF6 : Paired (fun (e : Sl.Pr × List Nat) v => PrV (upd H5 fr (.lst [.ref b0])) e.1 v) (knQ R B L 0) [.ref b0] := .cons (prSame hbeg (tOf s46)) .nil
    refine ⟨20000, rfl, by decide, by decide, for_range (lo := 0) (n := 20000) (fun i σ H6 => Same H4 H6 ∧ LiveQ R B L i ∧ (∃ x6 x7 x8 x9, σ = [some (.ref q1), some (.ref q2), some (.ref lp), some (.ref b0), some (.ref d), some (.ref fr), x6, x7, x8, x9]) ∧ ∃ kvs fs, DictN P w H6 d kvs ∧ Paired (EntV (LogL fr) L H6) (knQ R B L i) kvs ∧ H6 fr = some (.lst fs) ∧ Paired (fun (e : Sl.Pr × List Nat) v => PrV H6 e.1 v) (knQ R B L i) fs)
      ⟨s46, (fun j hj => absurd hj (Nat.not_lt_zero _)), ⟨_, _, _, _, rfl⟩, _, _, hD6, hE6, hf6, hF6⟩ (fun i σ H6 hi p => ?_) (fun σ H6 p => ?_)⟩
    · obtain ⟨s6, hl, ⟨x6, x7, x8, x9, rfl⟩, kvs, fs, hD, hE, hf, hF⟩ := p
      have hfew := (live_few (polOk oA lA) (polOk oB lB) hl).2
      have hi4 := (live_few (polOk oA lA) (polOk oB lB) hl).1
      have hfl := hF.length
      have hle := live_le hl
      have r1 : RulesAt H6 q1 R := RulesAt.same ⟨rs1, h1, hp1⟩ (s04.trans s6)
      have r2 : RulesAt H6 q2 B := RulesAt.same ⟨rs2, h2, hp2⟩ (s04.trans s6)
      refine ⟨_, rfl, _, rfl, fr, fs, rfl, .inl (SqL.of hf), rfl, _, rfl, iteD (intD _ _) (ite2 (fun c0 => ?_) (fun c0 => ?_))⟩
      · have c0 := of_decide_eq_true c0
        have hnone : (knQ R B L i)[i]? = none := List.getElem?_eq_none (by omega)
        refine ⟨_, rfl, (by show 2 ≤ sizeLine; decide), fun t nt => ?_⟩
        exact k _ t d .non L none ((s04.trans s6).trans (sNew nt)) hL (told_none hl hnone) rfl upd_same
      · have hlt : i < (knQ R B L i).length := by
          apply Classical.byContradiction
          intro z
          exact c0 (decide_eq_true (by omega))
        obtain ⟨⟨p, u⟩, hpu⟩ : ∃ e, (knQ R B L i)[i]? = some e := ⟨_, List.getElem?_eq_getElem hlt⟩
        obtain ⟨hv, hvi, hpr⟩ := paired_to hF hpu
        obtain ⟨h0, x, y, rfl, hh, hx, hy⟩ := id hpr
        obtain ⟨cA, cB⟩ := caps_at hl (List.mem_of_getElem? hpu)
        refine ⟨_, rfl, _, rfl, fr, fs, ((i : Nat) : Int), .ref h0, rfl, by rw [Int.zero_add], SqL.of hf, atI_nat hvi, ?_⟩
        refine ⟨_, rfl, _, rfl, h0, _, _, _, rfl, rfl, SqT.of hh, rfl, R, q1, p.1, x, rfl, r1.pol, hx, cA, by omega, fun H7 s7 => ?_⟩
        refine ⟨_, rfl, _, rfl, h0, _, _, _, rfl, rfl, SqT.of (s7 _ _ hh), rfl, B, q2, p.2, y, rfl, (r2.same s7).pol, stdSame hy (tOf s7), cB, by omega, fun H8 s8 => ⟨rfl, _, rfl, iteD (bl_ne _ _) ?_⟩⟩
        have s68 := s7.trans s8
        have hD8 := DictN.same hD s68
        have hE8 := entSame hE s68
        have hf8 := s68 _ _ hf
        have hF8 := frontSame hF (tOf s68)
        have hpr8 := prSame hpr (tOf s68)
        refine ite2 (fun c1 => ?_) (fun c1 => ?_)
        · have c1 : differs R B p = true := c1
          obtain ⟨v, hv1, a, rfl, hne, hlog⟩ := ent_here (more := []) hl (by rw [List.append_nil]; exact hE8) hpu
          refine ⟨_, rfl, _, rfl, _, rfl, p, d, kvs, .ref a, rfl, hpr8, hD8, hv1, (by show 2 ≤ sizeLine; decide), fun t nt => ?_⟩
          exact k _ t d (.ref a) L (some u) ((s04.trans (s6.trans s68)).trans (sNew nt)) hL (told_some hl hpu c1) ⟨a, rfl, hlog.same (sNew nt)⟩ upd_same
        · have c1 : differs R B p = false := Bool.eq_false_iff.mpr c1
          have hl1 := live_next hl hpu c1
          have hk1 := kn_next (A := R) (B := B) (L := L) hpu
          have hfew1 := (live_few (polOk oA lA) (polOk oB lB) hl1).2
          rw [hk1] at hfew1
          have hul := kns_long (stepD R B L) L.length (firstQ R B) i _ (List.mem_of_getElem? hpu)
          have s48 := s6.trans s68
          refine ⟨_, rfl, lp, rfl, ⟨ls, SqL.of (s48 _ _ hls4)⟩, for_list (K := K) (a := lp) (xs := ls) (fun t σ H9 => Same H4 H9 ∧ (∃ x8 x9, σ = [some (.ref q1), some (.ref q2), some (.ref lp), some (.ref b0), some (.ref d), some (.ref fr), some (.int (0 + (i : Int))), some (.ref h0), x8, x9]) ∧ PrV H9 p (.ref h0) ∧ ∃ kvs fs, DictN P w H9 d kvs ∧ Paired (EntV (LogL fr) L H9) (expand (stepD R B L) p u t (knQ R B L i)) kvs ∧ H9 fr = some (.lst fs) ∧ Paired (fun (e : Sl.Pr × List Nat) v => PrV H9 e.1 v) (expand (stepD R B L) p u t (knQ R B L i)) fs)
            ⟨s48, ⟨_, _, rfl⟩, hpr8, kvs, fs, hD8, hE8, hf8, hF8⟩ (fun t σ H9 _ q => SqL.of (q.1 _ _ hls4)) (fun t xv σ H9 hxv q => ?_) (fun σ H9 q => ?_)⟩
          · obtain ⟨s9, ⟨x8, x9, rfl⟩, hpr9, kvs, fs, hD9, hE9, hf9, hF9⟩ := q
            obtain ⟨l, hl0, hrow⟩ := paired_at hlp4 hxv
            have htL : t < L.length := (List.getElem?_eq_some_iff.mp hl0).1
            have hlok := hLo l (List.mem_of_getElem? hl0)
            have hstep : stepD R B L p t = stepQ R B p l := by
              unfold stepD
              rw [hl0]
            have hlen9 : (expand (stepD R B L) p u t (knQ R B L i)).length ≤ 4225 := Nat.le_trans (expand_len _ p u _ (Nat.le_of_lt htL)) hfew1
            have s09 := s04.trans s9
            have r1 : RulesAt H9 q1 R := RulesAt.same ⟨rs1, h1, hp1⟩ s09
            have r2 : RulesAt H9 q2 B := RulesAt.same ⟨rs2, h2, hp2⟩ s09
            have hrow9 := hrow.same (tOf s9)
            obtain ⟨h0', x, y, eh, hh, hx, hy⟩ := id hpr9
            cases eh
            refine ⟨_, rfl, _, rfl, h0, _, _, _, rfl, rfl, SqT.of hh, rfl, _, rfl, R, q1, p.1, l, x, xv, rfl, r1.pol, hx, cA, hrow9, hlok, oA, by omega, fun H10 z3 s10 hz3 => ?_⟩
            refine ⟨_, rfl, _, rfl, h0, _, _, _, rfl, rfl, SqT.of (s10 _ _ hh), rfl, _, rfl, B, q2, p.2, l, y, xv, rfl, (r2.same s10).pol, stdSame hy (tOf s10), cB, hrow9.same (tOf s10), hlok, oB, by omega, fun H11 z4 s11 hz4 => ⟨(by show 2 ≤ sizeLine; decide), fun lt nlt => ?_⟩⟩
            have s9c : Same H9 (upd H11 lt (.tup [z3, z4])) := s10.trans (s11.trans (sNew nlt))
            have hlater : PrV (upd H11 lt (.tup [z3, z4])) (stepD R B L p t) (.ref lt) := by
              rw [hstep]
              exact ⟨lt, z3, z4, rfl, upd_same, stdSame hz3 (tOf (s11.trans (sNew nlt))), stdSame hz4 (tNew nlt)⟩
            revert s9c hlater
            generalize upd H11 lt (.tup [z3, z4]) = H12
            intro s9c hlater
            have hD12 := DictN.same hD9 s9c
            have hE12 := entSame hE9 s9c
            have hf12 := s9c _ _ hf9
            have hF12 := frontSame hF9 (tOf s9c)
            have hpr12 := prSame hpr9 (tOf s9c)
            have hany := ent_any hE12 (stepD R B L p t)
            refine ⟨_, rfl, _, rfl, stepD R B L p t, d, kvs, hlater, rfl, hD12, _, rfl, ?_⟩
            rw [if_pos rfl, hany]
            cases hq : (expand (stepD R B L) p u t (knQ R B L i)).any fun e => decide (e.1 = stepD R B L p t) with
            | true =>
              have e : expand (stepD R B L) p u (t + 1) (knQ R B L i) = expand (stepD R B L) p u t (knQ R B L i) := by
                rw [expand_succ]
                exact if_pos hq
              refine iteD (k' := false) rfl (iteF ?_)
              exact ⟨s9.trans s9c, ⟨_, _, rfl⟩, hpr12, kvs, fs, hD12, by rw [e]; exact hE12, hf12, by rw [e]; exact hF12⟩
            | false =>
              have e : expand (stepD R B L) p u (t + 1) (knQ R B L i) = expand (stepD R B L) p u t (knQ R B L i) ++ [(stepD R B L p t, u ++ [t])] := by
                rw [expand_succ]
                exact if_neg (by rw [hq]; exact Bool.false_ne_true)
              have hvn : valV kvs (stepD R B L p t) = none := by
                rw [hq] at hany
                cases z : valV kvs (stepD R B L p t) with
                | none => rfl
                | some v => rw [z] at hany; cases hany
              obtain ⟨more, hmore⟩ := expand_pre (stepD R B L) p u (knQ R B L i) t
              obtain ⟨v, hv1, a, rfl, hne, us, hus, husp⟩ := ent_here hl (by rw [← hmore]; exact hE12) hpu
              have husl : us.length ≤ 4225 := by
                rw [← husp.length]
                have := spell_len L u
                have hul : u.length ≤ i := hul
                omega
              refine iteD (k' := true) rfl (iteT ?_)
              refine ⟨_, rfl, _, rfl, p, d, kvs, .ref a, rfl, hpr12, hD12, hv1, ?_⟩
              refine ⟨_, rfl, (by show 1 ≤ sizeLine; decide), fun l1 nl1 => ⟨a, l1, us, _, rfl, rfl, sNew nl1 _ _ hus, upd_same, (by show us.length + 1 ≤ sizeLine; omega), fun c nc => ?_⟩⟩
              have s12c : Same H12 (upd (upd H12 l1 (.lst [xv])) c (.lst (us ++ [xv]))) := (sNew nl1).trans (sNew nc)
              have hc : (upd (upd H12 l1 (.lst [xv])) c (.lst (us ++ [xv]))) c = some (.lst (us ++ [xv])) := upd_same
              have ncf : c ≠ fr := (ne_of_none (sNew nl1 _ _ hf12) nc).symm
              revert s12c hc
              generalize upd (upd H12 l1 (.lst [xv])) c (.lst (us ++ [xv])) = H13
              intro s12c hc
              have hD13 := DictN.same hD12 s12c
              have hf13 := s12c _ _ hf12
              have hlater13 := prSame hlater (tOf s12c)
              have hkl : kvs.length ≤ 4225 := by rw [← hE12.length]; exact hlen9
              refine ⟨_, rfl, _, rfl, stepD R B L p t, d, kvs, rfl, hlater13, hD13, hvn, by omega, fun ob hob mu => ?_⟩
              have nfd : fr ≠ d := DictN.neL hD13 hf13
              have stD : SameT H13 (upd H13 d ob) := DictN.tE hD13 ob
              have hf14 : (upd H13 d ob) fr = some (.lst fs) := by rw [upd_ne nfd]; exact hf13
              have hfl9 : fs.length ≤ 4225 := by rw [← hF12.length]; exact hlen9
              refine ⟨_, rfl, .inl ⟨rfl, _, SqL.of hf14⟩, _, rfl, fr, fs, _, rfl, rfl, hf14, by omega, ?_⟩
              have stF : SameT (upd H13 d ob) (upd (upd H13 d ob) fr (.lst (fs ++ [.ref lt]))) := tLst hf14
              have st := stD.trans stF
              have keep : ∀ b xs, H13 b = some (.lst xs) → b ≠ fr → (upd (upd H13 d ob) fr (.lst (fs ++ [.ref lt]))) b = some (.lst xs) := fun b xs q nb => by
                rw [upd_ne nb, upd_ne (DictN.neL hD13 q)]
                exact q
              refine ⟨fun b o q => ?_, ⟨_, _, rfl⟩, prSame hpr12 ((tOf s12c).trans st), _, _, DictN.keep hob stF (upd_ne nfd.symm), ?_, upd_same, ?_⟩
              · have n1 : b ≠ fr := ne_of_none q nfr4
                have n2 : b ≠ d := ne_of_none q nd
                rw [upd_ne n1, upd_ne n2]
                exact s12c _ _ (s9c _ _ (s9 _ _ q))
              · rw [e]
                refine paired_app (entKeep (entSame hE12 s12c) keep st) (.cons ⟨rfl, c, rfl, ncf, _, keep _ _ hc ncf, ?_⟩ .nil)
                show Paired _ (spell L (u ++ [t])) _
                rw [spell_snoc L u hl0]
                exact paired_app (rowsSame husp ((tOf s12c).trans st)) (.cons ((hrow9.same (tOf s9c)).same ((tOf s12c).trans st)) .nil)
              · rw [e]
                exact paired_app (frontSame hF12 ((tOf s12c).trans st)) (.cons (prSame hlater13 st) .nil)
          · obtain ⟨s9, ⟨x8, x9, rfl⟩, hpr9, kvs, fs, hD9, hE9, hf9, hF9⟩ := q
            rw [← hlp.length, ← hk1] at hE9 hF9
            exact ⟨s9, hl1, ⟨_, _, _, _, rfl⟩, kvs, fs, hD9, hE9, hf9, hF9⟩
    · obtain ⟨_, hl, _⟩ := p
      have := (live_few (polOk oA lA) (polOk oB lB) hl).1
      omega
end
end Sk
set_option Elab.async false
set_option linter.all false
set_option maxRecDepth 100000
namespace Sk
open PySem PySem.Spec PyProof.Rows L2 Sl Bf Zs Sr Dc2 Nd
/-! ### the class Pairs -/
def pf1 (t : Addr) : List (Str × V) := putF "own_policies" (.ref t) []
def pf2 (t lp : Addr) : List (Str × V) := putF "own_letters" (.ref lp) (pf1 t)
def pf (t lp d : Addr) : List (Str × V) := putF "own_logs" (.ref d) (pf2 t lp)
theorem putF_len (f : Str) (v : V) : ∀ fs : List (Str × V), (putF f v fs).length ≤ fs.length + 1
  | [] => Nat.le_refl _
  | (g, x) :: r => by
    unfold putF
    split
    · exact Nat.le_succ _
    · exact Nat.succ_le_succ (putF_len f v r)
theorem pf1_few (t : Addr) : (pf1 t).length < 1000 := Nat.lt_of_le_of_lt (putF_len _ _ _) (by decide)
theorem pf2_few (t lp : Addr) : (pf2 t lp).length < 1000 := Nat.lt_of_le_of_lt (putF_len _ _ _) (Nat.lt_of_le_of_lt (Nat.succ_le_succ (putF_len _ _ _)) (by decide))
theorem nPL : ¬ (("own_policies" : Str) = "own_letters") := by decide +kernel
theorem nPD : ¬ (("own_policies" : Str) = "own_logs") := by decide +kernel
theorem nLD : ¬ (("own_letters" : Str) = "own_logs") := by decide +kernel
theorem pf_P (t lp d : Addr) : (pf t lp d).lookup ("own_policies" : Str) = some (.ref t) := by
  unfold pf pf2 pf1
  rw [lookup_putF, if_neg nPD, lookup_putF, if_neg nPL, lookup_putF, if_pos rfl]
theorem pf_L (t lp d : Addr) : (pf t lp d).lookup ("own_letters" : Str) = some (.ref lp) := by
  unfold pf pf2 pf1
  rw [lookup_putF, if_neg nLD, lookup_putF, if_pos rfl]
theorem pf_D (t lp d : Addr) : (pf t lp d).lookup ("own_logs" : Str) = some (.ref d) := by
  unfold pf
  rw [lookup_putF, if_pos rfl]
theorem pf_no (t lp d : Addr) {m : Str} (h1 : ¬ m = "own_logs") (h2 : ¬ m = "own_letters") (h3 : ¬ m = "own_policies") : (pf t lp d).lookup m = none := by
  unfold pf pf2 pf1
  rw [lookup_putF, if_neg h1, lookup_putF, if_neg h2, lookup_putF, if_neg h3]
  all_goals rfl
structure PTxt (K : PySem.W.Frag) (C : Addr) : Prop where
  cl : Cls K C
  nP : NoAttr K C "own_policies"
  nL : NoAttr K C "own_letters"
  nD : NoAttr K C "own_logs"
/-- a method -/
structure CalM (P : Program) (w : World) (K : PySem.W.Frag) (mg : Str → Option Value) (base : Heap) (n : Nat) (C : Addr) (m : Str) (ps : List Str) (sp : Sp) : Prop where
  ex : ∃ f fd, FnOk P w K mg base CX0 n f fd ps sp ∧ Meth K C m f ∧ Binds K fd ps []
/-- a class that is made -/
structure CalC (P : Program) (w : World) (K : PySem.W.Frag) (mg : Str → Option Value) (base : Heap) (n : Nat) (C : Addr) (x : Str) (ps : List Str) (sp : Sp) : Prop where
  ex : ∃ f fd, FnOk P w K mg base CX0 n f fd ps sp ∧ Mk K C f ∧ mg x = some (.ref C) ∧ Binds K fd ps []
section
variable {X : Cx} {n : Nat} {C : Addr} {m x : Str} {ps : List Str} {sp : Sp} {p apos pos : Pos} {o e : Expr} {es : List Expr} {ta : TE} {t : TA}
theorem pe_calm {pl : Sem Bool} (M : CalM X.prog X.w X.K X.mg X.base n C m ps sp) (c : Cls X.K C) (hr : Room n X.A) (he : PE X o ta) (ha : PA X (e :: es) t)
    (hst : starEach (e :: es) X.env = (false, eval e X.env) :: starEach es X.env := by rfl) (hpl : (backTo pos (starEach es X.env)).any (·.1) = false := by rfl)
    (ht : eval (.Call (.Attribute o m apos) (e :: es) [] pos) X.env = (do
      let ov ← eval o X.env
      standAt apos.atName
      let (f, first) ← holding [ov] (getMethod ov m pl)
      callWith pos f first (backTo pos (starEach (e :: es) X.env)) (backToKw pos (keywordEach [] X.env))) := by rfl) :
    PE X (.Call (.Attribute o m apos) (e :: es) [] pos) (tMeth C m sp [] E0 ta t) := by
  obtain ⟨f, fd, F, hm, hb⟩ := M.ex
  exact pe_meth he c hm F hr hb .nil pass0 ha hst hpl ht
theorem pe_calm0 {pl : Sem Bool} (M : CalM X.prog X.w X.K X.mg X.base n C m ps sp) (c : Cls X.K C) (hr : Room n X.A) (he : PE X o ta)
    (ht : eval (.Call (.Attribute o m apos) [] [] pos) X.env = (do
      let ov ← eval o X.env
      standAt apos.atName
      let (f, first) ← holding [ov] (getMethod ov m pl)
      callWith pos f first (backTo pos (starEach [] X.env)) (backToKw pos (keywordEach [] X.env))) := by rfl) :
    PE X (.Call (.Attribute o m apos) [] [] pos) (tMeth C m sp [] E0 ta tNil) := by
  obtain ⟨f, fd, F, hm, hb⟩ := M.ex
  exact pe_meth0 he c hm F hr hb .nil pass0 ht
theorem pe_calc (M : CalC X.prog X.w X.K X.mg X.base n C x ps sp) (hr : Room (n + 1) X.A) (hg : Gl X x) (ha : PA X (e :: es) t) (hdb : (x == ("__debug__" : Str)) = false := by decide)
    (he : starEach (e :: es) X.env = (false, eval e X.env) :: starEach es X.env := by rfl) (hpl : (backTo pos (starEach es X.env)).any (·.1) = false := by rfl) :
    PE X (.Call (.Name x p) (e :: es) [] pos) (tMake C sp [] E0 t) := by
  obtain ⟨f, fd, F, mk, hm, hb⟩ := M.ex
  exact pe_make mk F hr hg hm hb .nil pass0 ha hdb he hpl
end
theorem PolV.sameX {H H' : Hp} {b : Bool} {A : List Ru} {a p : Addr} (h : PolV H b A a) (s : SameX p H H') (n1 : ∀ xs, H p ≠ some (.lst xs)) (n2 : ∀ xs, H p ≠ some (.tup xs)) : PolV H' b A a := by
  obtain ⟨vs, h1, h2⟩ := h
  have ht : SameT H H' := fun c xs e => s _ _ e fun z => n2 xs (by rw [← z]; exact e)
  refine ⟨vs, s _ _ h1 fun z => ?_, rulesSame h2 ht⟩
  subst z
  cases b
  · exact n2 _ h1
  · exact n1 _ h1
theorem SameX.tt {H H' : Hp} {p : Addr} (s : SameX p H H') (n2 : ∀ xs, H p ≠ some (.tup xs)) : SameT H H' := fun c xs e => s _ _ e fun z => n2 xs (by rw [← z]; exact e)
theorem SameX.log {H H' : Hp} {p a : Addr} {u : List Le} (s : SameX p H H') (n1 : ∀ xs, H p ≠ some (.lst xs)) (n2 : ∀ xs, H p ≠ some (.tup xs)) (h : LogV H u a) : LogV H' u a := by
  obtain ⟨vs, h1, h2⟩ := h
  exact ⟨vs, s _ _ h1 fun z => n1 _ (by rw [← z]; exact h1), rowsSame h2 (s.tt n2)⟩
theorem notL {H : Hp} {p C dx : Addr} {fs : List (Str × V)} (h : H p = some (.ins C dx fs)) (xs : List V) : H p ≠ some (.lst xs) := by rw [h]; intro z; cases z
theorem notT {H : Hp} {p C dx : Addr} {fs : List (Str × V)} (h : H p = some (.ins C dx fs)) (xs : List V) : H p ≠ some (.tup xs) := by rw [h]; intro z; cases z
theorem dn_notL {P : Program} {w : World} {H : Hp} {d : Addr} {kvs : List (Sl.Pr × V)} (x : DictN P w H d kvs) (xs : List V) : H d ≠ some (.lst xs) := by
  obtain ⟨_, _, _, _, h3⟩ := x
  rw [h3]; intro z; cases z
theorem dn_notT {P : Program} {w : World} {H : Hp} {d : Addr} {kvs : List (Sl.Pr × V)} (x : DictN P w H d kvs) (xs : List V) : H d ≠ some (.tup xs) := by
  obtain ⟨_, _, _, _, h3⟩ := x
  rw [h3]; intro z; cases z
theorem dn_neI {P : Program} {w : World} {H : Hp} {d p C dx : Addr} {kvs : List (Sl.Pr × V)} {fs : List (Str × V)} (x : DictN P w H d kvs) (h : H p = some (.ins C dx fs)) : p ≠ d := by
  obtain ⟨_, _, _, _, h3⟩ := x
  exact ne_of h h3 (by intro z; cases z)
/-- Pairs stand at p -/
def PairsAt (C : Addr) (H : Hp) (p : Addr) (A B : List Ru) (L : List Le) (d : Addr) : Prop := ∃ dx t lp q1 q2 b1 b2, H p = some (.ins C dx (pf t lp d)) ∧ H t = some (.tup [.ref q1, .ref q2]) ∧ PolV H b1 A q1 ∧ PolV H b2 B q2 ∧ LogV H L lp
theorem PairsAt.same {C : Addr} {H H' : Hp} {p d : Addr} {A B : List Ru} {L : List Le} (h : PairsAt C H p A B L d) (s : Same H H') : PairsAt C H' p A B L d := by
  obtain ⟨dx, t, lp, q1, q2, b1, b2, h1, h2, h3, h4, h5⟩ := h
  exact ⟨dx, t, lp, q1, q2, b1, b2, s _ _ h1, s _ _ h2, h3.same s, h4.same s, h5.same s⟩
theorem PairsAt.sameX {P : Program} {w : World} {C : Addr} {H H' : Hp} {p d : Addr} {A B : List Ru} {L : List Le} {kvs : List (Sl.Pr × V)} (h : PairsAt C H p A B L d) (hd : DictN P w H d kvs) (s : SameX d H H') : PairsAt C H' p A B L d := by
  obtain ⟨dx, t, lp, q1, q2, b1, b2, h1, h2, h3, h4, h5⟩ := h
  exact ⟨dx, t, lp, q1, q2, b1, b2, s _ _ h1 (dn_neI hd h1), s.tt (dn_notT hd) _ _ h2, h3.sameX s (dn_notL hd) (dn_notT hd), h4.sameX s (dn_notL hd) (dn_notT hd), s.log (dn_notL hd) (dn_notT hd) h5⟩
abbrev s_Pairs___init__ : Stmt := inClass (top 24) 0
abbrev N_Pairs___init__ : List Str := ["self", "policy", "other"]
theorem sc_Pairs___init__ : FnScope N_Pairs___init__ ["self", "policy", "other"] (defScope s_Pairs___init__) := ⟨rfl, rfl, rfl, by decide +kernel, rfl, by decide +kernel, by decide +kernel⟩
-- slots: 0 self, 1 policy, 2 other
abbrev s_Pairs_differs : Stmt := inClass (top 24) 1
abbrev N_Pairs_differs : List Str := ["self", "pair", "one", "other"]
theorem sc_Pairs_differs : FnScope N_Pairs_differs ["self", "pair"] (defScope s_Pairs_differs) := ⟨rfl, rfl, rfl, by decide +kernel, rfl, by decide +kernel, by decide +kernel⟩
-- slots: 0 self, 1 pair, 2 one, 3 other
abbrev s_Pairs_behind : Stmt := inClass (top 24) 2
abbrev N_Pairs_behind : List Str := ["self", "pair", "row", "one", "other"]
theorem sc_Pairs_behind : FnScope N_Pairs_behind ["self", "pair", "row"] (defScope s_Pairs_behind) := ⟨rfl, rfl, rfl, by decide +kernel, rfl, by decide +kernel, by decide +kernel⟩
-- slots: 0 self, 1 pair, 2 row, 3 one, 4 other
def sp_init (P : Program) (w : World) (C : Addr) : Sp := fun vs H Q _ => ∃ (A B : List Ru) (b1 b2 : Bool) (p q1 q2 dx : Addr), vs = [.ref p, .ref q1, .ref q2] ∧ H p = some (.ins C dx []) ∧ PolV H b1 A q1 ∧ PolV H b2 B q2 ∧ A.length ≤ 3 ∧ B.length ≤ 3 ∧ (∀ r, r ∈ A → RuleOk r) ∧ (∀ r, r ∈ B → RuleOk r) ∧
  ∀ H' L d g, SameX p H H' → IsLetters (A ++ B) L → H d = none → PairsAt C H' p A B L d → DictN P w H' d [(firstQ A B, .ref g)] → H' g = some (.tup []) → Q .non H'
def sp_differs (C : Addr) : Sp := fun vs H Q _ => ∃ (A B : List Ru) (L : List Le) (p d : Addr) (pr : Sl.Pr) (v : V), vs = [.ref p, v] ∧ PairsAt C H p A B L d ∧ PrV H pr v ∧ CapS A pr.1 ∧ CapS B pr.2 ∧ ∀ H', Same H H' → Q (.bl (differs A B pr)) H'
def sp_behind (C : Addr) : Sp := fun vs H Q _ => ∃ (A B : List Ru) (L : List Le) (p d : Addr) (pr : Sl.Pr) (l : Le) (v y : V), vs = [.ref p, v, y] ∧ PairsAt C H p A B L d ∧ PrV H pr v ∧ CapS A pr.1 ∧ CapS B pr.2 ∧ A.length ≤ 1000 ∧ B.length ≤ 1000 ∧ RowV H l y ∧
  ∀ H' z, Same H H' → PrV H' (stepQ A B pr l) z → Q z H'
section
variable {P : Program} {w : World} {K : PySem.W.Frag} {mg : Str → Option Value} {base : Heap} {C : Addr}
theorem ok_init {f : Addr} {fd : FuncData} (F : Fun K "__init__" "Pairs.__init__" s_Pairs___init__ f fd) (T : Top K mg) (PT : PTxt K C) (C_letters_of : Cal P w K mg base 3 "letters_of" ["policy", "other"] sp_letters_of) (C_first_standing : Cal P w K mg base 1 "first_standing" ["policy"] sp_first_standing) :
    FnOk P w K mg base CX0 4 f fd ["self", "policy", "other"] (sp_init P w C) := by
  refine F.ok sc_Pairs___init__ (fun vs H Q E h => ?_) (fun cdv A outer s H vs Q E hr h => ?_)
  · obtain ⟨A, B, b1, b2, p, q1, q2, dx, rfl, _⟩ := h
    rfl
  · obtain ⟨R, B, b1, b2, p, q1, q2, dx, rfl, hp, h1, h2, lA, lB, oA, oB, k⟩ := h
    refine ⟨_, (pss_cons (ps_fld (pv 0) (pe_tup (pa_cons (pv 1) (pa_cons (pv 2) pa_nil))) rfl)
      (pss_cons (ps_fld (pv 0) (pe_cal C_letters_of (hr.mono (by decide)) rfl (pa_cons (pv 1) (pa_cons (pv 2) pa_nil))) rfl)
      (pss_one (ps_fld (pv 0) (Nd.pe_dispN hr.units (pe_tup (pa_cons (pe_cal C_first_standing (hr.mono (by decide)) rfl (pa_cons (pv 1) pa_nil)) (pa_cons (pe_cal C_first_standing (hr.mono (by decide)) rfl (pa_cons (pv 2) pa_nil)) pa_nil))) (pe_tup pa_nil)) rfl)))), ?_⟩
    refine ⟨_, rfl, _, rfl, (by show 2 ≤ sizeLine; decide), fun t nt => ?_⟩
    have npt : p ≠ t := ne_of_none hp nt
    refine ⟨_, rfl, p, C, dx, [], rfl, sNew nt _ _ hp, PT.cl, PT.nP, (by show 0 < 1000; decide), ?_⟩
    have x1 : SameX p H (upd (upd H t (.tup [.ref q1, .ref q2])) p (.ins C dx (pf1 t))) := (xOf (sNew nt)).trans xUpd
    have hp1 : (upd (upd H t (.tup [.ref q1, .ref q2])) p (.ins C dx (pf1 t))) p = some (.ins C dx (pf1 t)) := upd_same
    have ht1 : (upd (upd H t (.tup [.ref q1, .ref q2])) p (.ins C dx (pf1 t))) t = some (.tup [.ref q1, .ref q2]) := by rw [upd_ne npt.symm]; exact upd_same
    show (_ : Prop)
    revert x1 hp1 ht1
    unfold pf1
    generalize upd (upd H t (.tup [.ref q1, .ref q2])) p (.ins C dx (putF "own_policies" (.ref t) [])) = H1
    intro x1 hp1 ht1
    refine ⟨_, rfl, _, rfl, R, B, b1, b2, q1, q2, rfl, h1.sameX x1 (notL hp) (notT hp), h2.sameX x1 (notL hp) (notT hp), lA, lB, oA, oB, fun H2 lp L s2 hL nlp hLg => ?_⟩
    have hp2 := s2 _ _ hp1
    refine ⟨_, rfl, p, C, dx, _, rfl, hp2, PT.cl, PT.nL, pf1_few t, ?_⟩
    have x3 : SameX p H (upd H2 p (.ins C dx (pf2 t lp))) := x1.trans ((xOf s2).trans xUpd)
    have x23 : SameX p H2 (upd H2 p (.ins C dx (pf2 t lp))) := xUpd
    have hp3 : (upd H2 p (.ins C dx (pf2 t lp))) p = some (.ins C dx (pf2 t lp)) := upd_same
    have ht3 : (upd H2 p (.ins C dx (pf2 t lp))) t = some (.tup [.ref q1, .ref q2]) := by rw [upd_ne npt.symm]; exact s2 _ _ ht1
    have hLg3 := x23.log (notL hp2) (notT hp2) hLg
    revert x3 hp3 ht3 hLg3
    clear x23
    unfold pf2 pf1
    generalize upd H2 p (.ins C dx (putF "own_letters" (.ref lp) (putF "own_policies" (.ref t) []))) = H3
    intro x3 hp3 ht3 hLg3
    refine fun d nd => ?_
    have nd0 : H d = none := by
      cases e : H d with
      | none => rfl
      | some o =>
        by_cases z : d = p
        · rw [z, hp3] at nd; cases nd
        · have := x3 _ _ e z
          rw [nd] at this
          cases this
    have s3 := sNew (o := .dT []) nd
    have g1 := (h1.sameX x3 (notL hp) (notT hp)).same s3
    have g2 := (h2.sameX x3 (notL hp) (notT hp)).same s3
    refine ⟨_, rfl, b1, R, q1, rfl, g1, by omega, fun H4 y1 s4 v1 => ?_⟩
    refine ⟨_, rfl, b2, B, q2, rfl, g2.same s4, by omega, fun H5 y2 s5 v2 => ?_⟩
    refine ⟨(by show 2 ≤ sizeLine; decide), fun b0 nb0 => ⟨Nat.zero_le _, fun g ng => ?_⟩⟩
    have hd4 : H5 d = some (.dT []) := s5 _ _ (s4 _ _ upd_same)
    have ndb : d ≠ b0 := ne_of_none hd4 nb0
    have hd6 := sNew (o := .tup []) ng _ _ (sNew (o := .tup [y1, y2]) nb0 _ _ hd4)
    have hgd : g ≠ d := (ne_of_none (sNew (o := .tup [y1, y2]) nb0 _ _ hd4) ng).symm
    refine ⟨hd6, firstQ R B, ⟨b0, y1, y2, rfl, sNew ng _ _ upd_same, stdSame v1 (tOf (s5.trans ((sNew nb0).trans (sNew ng)))), stdSame v2 (tOf ((sNew nb0).trans (sNew ng)))⟩, fun ob hob => ?_⟩
    have s35 : Same (upd H3 d (.dT [])) (upd (upd H5 b0 (.tup [y1, y2])) g (.tup [])) := s4.trans (s5.trans ((sNew nb0).trans (sNew ng)))
    have s36 : Same H3 (upd (upd (upd H5 b0 (.tup [y1, y2])) g (.tup [])) d ob) := fun b o e => by
      rw [upd_ne (ne_of_none e nd)]
      exact s35 _ _ (s3 _ _ e)
    have hg6 : (upd (upd (upd H5 b0 (.tup [y1, y2])) g (.tup [])) d ob) g = some (.tup []) := by rw [upd_ne hgd]; exact upd_same
    revert hob s36 hg6
    generalize (upd (upd (upd H5 b0 (.tup [y1, y2])) g (.tup [])) d ob) = H6
    intro hob s36 hg6
    have hp6 := s36 _ _ hp3
    have x67 : SameX p H6 (upd H6 p (.ins C dx (pf t lp d))) := xUpd
    have x37 : SameX p H3 (upd H6 p (.ins C dx (pf t lp d))) := (xOf s36).trans x67
    have x07 : SameX p H (upd H6 p (.ins C dx (pf t lp d))) := x3.trans x37
    refine ⟨_, rfl, p, C, dx, _, rfl, hp6, PT.cl, PT.nD, pf2_few t lp, ?_⟩
    refine k _ L d g x07 hL nd0 ⟨dx, t, lp, q1, q2, b1, b2, upd_same, ?_, h1.sameX x07 (notL hp) (notT hp), h2.sameX x07 (notL hp) (notT hp), x37.log (notL hp3) (notT hp3) hLg3⟩ (DictN.keep hob (x67.tt (notT hp6)) (upd_ne (dn_neI hob hp6).symm)) ?_
    · exact x37.tt (notT hp3) _ _ ht3
    · exact x67.tt (notT hp6) _ _ hg6
theorem ok_differs {f : Addr} {fd : FuncData} (F : Fun K "differs" "Pairs.differs" s_Pairs_differs f fd) (T : Top K mg) (PT : PTxt K C) (C_one_ends : Cal P w K mg base 2 "one_ends" ["policy", "standing"] sp_one_ends) :
    FnOk P w K mg base CX0 3 f fd ["self", "pair"] (sp_differs C) := by
  refine F.ok sc_Pairs_differs (fun vs H Q E h => ?_) (fun cdv A outer s H vs Q E hr h => ?_)
  · obtain ⟨A, B, L, p, d, pr, v, rfl, _⟩ := h
    rfl
  · obtain ⟨R, B, L, p, d, pr, v, rfl, ⟨dx, t, lp, q1, q2, b1, b2, hp, ht, h1, h2, h5⟩, ⟨h0, x, y, rfl, hh, hx, hy⟩, cA, cB, k⟩ := h
    refine ⟨_, (pss_cons (ps_asg (pe_fld (pv 0) rfl) (pg_tup rfl (pgs_cons (pg_name (i := 2) sc_Pairs_differs.nd rfl (Or.inl rfl)) (pgs_cons (pg_name (i := 3) sc_Pairs_differs.nd rfl (Or.inl rfl)) pgs_nil))))
      (pss_one (ps_ret (pe_cmpR op_ne (pe_cal C_one_ends (hr.mono (by decide)) rfl (pa_cons (pv 2) (pa_cons (pe_ix ix_tup (pv 1) pe_int (fun _ _ => rfl)) pa_nil))) (pe_cal C_one_ends (hr.mono (by decide)) rfl (pa_cons (pv 3) (pa_cons (pe_ix ix_tup (pv 1) pe_int (fun _ _ => rfl)) pa_nil))) (nomark _))))), ?_⟩
    refine ⟨_, rfl, p, C, dx, _, _, rfl, hp, PT.cl, PT.nP, pf_P _ _ _, t, _, rfl, SqT.of ht, rfl, _, _, rfl, _, _, rfl, rfl, ?_⟩
    refine ⟨_, rfl, _, rfl, h0, _, _, _, rfl, rfl, SqT.of hh, rfl, b1, R, q1, pr.1, x, rfl, h1, hx, cA, fun H1 s1 => ?_⟩
    refine ⟨_, rfl, _, rfl, h0, _, _, _, rfl, rfl, SqT.of (s1 _ _ hh), rfl, b2, B, q2, pr.2, y, rfl, h2.same s1, stdSame hy (tOf s1), cB, fun H2 s2 => ⟨rfl, ?_⟩⟩
    rw [bl_ne]
    exact k H2 (s1.trans s2)
theorem ok_behind {f : Addr} {fd : FuncData} (F : Fun K "behind" "Pairs.behind" s_Pairs_behind f fd) (T : Top K mg) (PT : PTxt K C) (C_one_stepped : Cal P w K mg base 3 "one_stepped" ["policy", "standing", "row"] sp_one_stepped) :
    FnOk P w K mg base CX0 4 f fd ["self", "pair", "row"] (sp_behind C) := by
  refine F.ok sc_Pairs_behind (fun vs H Q E h => ?_) (fun cdv A outer s H vs Q E hr h => ?_)
  · obtain ⟨A, B, L, p, d, pr, l, v, z, rfl, _⟩ := h
    rfl
  · obtain ⟨R, B, L, p, d, pr, l, v, z, rfl, ⟨dx, t, lp, q1, q2, b1, b2, hp, ht, h1, h2, h5⟩, ⟨h0, x, y, rfl, hh, hx, hy⟩, cA, cB, lA, lB, hrow, k⟩ := h
    refine ⟨_, (pss_cons (ps_asg (pe_fld (pv 0) rfl) (pg_tup rfl (pgs_cons (pg_name (i := 3) sc_Pairs_behind.nd rfl (Or.inl rfl)) (pgs_cons (pg_name (i := 4) sc_Pairs_behind.nd rfl (Or.inl rfl)) pgs_nil))))
      (pss_one (ps_ret (pe_tup (pa_cons (pe_cal C_one_stepped (hr.mono (by decide)) rfl (pa_cons (pv 3) (pa_cons (pe_ix ix_tup (pv 1) pe_int (fun _ _ => rfl)) (pa_cons (pv 2) pa_nil)))) (pa_cons (pe_cal C_one_stepped (hr.mono (by decide)) rfl (pa_cons (pv 4) (pa_cons (pe_ix ix_tup (pv 1) pe_int (fun _ _ => rfl)) (pa_cons (pv 2) pa_nil)))) pa_nil)))))), ?_⟩
    refine ⟨_, rfl, p, C, dx, _, _, rfl, hp, PT.cl, PT.nP, pf_P _ _ _, t, _, rfl, SqT.of ht, rfl, _, _, rfl, _, _, rfl, rfl, ?_⟩
    refine ⟨_, rfl, _, rfl, h0, _, _, _, rfl, rfl, SqT.of hh, rfl, _, rfl, b1, R, q1, pr.1, l, x, z, rfl, h1, hx, cA, hrow, lA, fun H1 z1 s1 hz1 => ?_⟩
    refine ⟨_, rfl, _, rfl, h0, _, _, _, rfl, rfl, SqT.of (s1 _ _ hh), rfl, _, rfl, b2, B, q2, pr.2, l, y, z, rfl, h2.same s1, stdSame hy (tOf s1), cB, hrow.same (tOf s1), lB, fun H2 z2 s2 hz2 => ⟨(by show 2 ≤ sizeLine; decide), fun b nb => ?_⟩⟩
    exact k _ _ (s1.trans (s2.trans (sNew nb))) ⟨b, z1, z2, rfl, upd_same, stdSame hz1 (tOf (s2.trans (sNew nb))), stdSame hz2 (tNew nb)⟩
end
end Sk
set_option Elab.async false
set_option linter.all false
set_option maxRecDepth 100000
namespace Sk
open PySem PySem.Spec PyProof.Rows L2 Sl Bf Zs Sr Dc2 Nd
/-- a log kept in a tuple -/
def LogT : Hp → List Le → V → Prop := fun H u v => ∃ a vs, v = .ref a ∧ H a = some (.tup vs) ∧ Paired (RowV H) u vs
theorem LogT.same {H H' : Hp} {u : List Le} {v : V} (h : LogT H u v) (st : SameT H H') : LogT H' u v := by
  obtain ⟨a, vs, e, h1, h2⟩ := h
  exact ⟨a, vs, e, st _ _ h1, rowsSame h2 st⟩
theorem entT {L : List Le} {H H' : Hp} {kn : List (Sl.Pr × List Nat)} {kvs : List (Sl.Pr × V)} (h : Paired (EntV LogT L H) kn kvs) (st : SameT H H') : Paired (EntV LogT L H') kn kvs := Paired.mapP h fun _ _ q => ⟨q.1, q.2.same st⟩
theorem frontT {H H' : Hp} {kn : List (Sl.Pr × List Nat)} {fs : List V} (h : Paired (fun (e : Sl.Pr × List Nat) v => PrV H e.1 v) kn fs) (st : SameT H H') : Paired (fun (e : Sl.Pr × List Nat) v => PrV H' e.1 v) kn fs := Paired.mapP h fun _ _ q => prSame q st
theorem tenM : ((10 : Int) ^ ((6 : Int).toNat)) = 1000000 := by decide
theorem catOne {K : PySem.W.Frag} {H : Hp} {a l1 : Addr} {us : List V} {xv : V} {Q : VK} (hus : H a = some (.tup us)) (h1 : H l1 = some (.tup [xv])) (hn : us.length + 1 ≤ sizeLine) (rest : ∀ c H', Same H H' → H' c = some (.tup (us ++ [xv])) → Q (.ref c) H') : rCatA K (.ref a) (.ref l1) H Q :=
  ⟨a, l1, us, [xv], rfl, rfl, SqT.of hus, SqT.of h1, hn, fun z => rest l1 _ (fun _ _ e => e) (by rw [z]; exact h1), fun _ z => (by cases z), fun _ _ c nc => rest c _ (sNew nc) upd_same⟩
abbrev s_Pairs_first_parting : Stmt := inClass (top 24) 3
abbrev N_Pairs_first_parting : List Str := ["self", "waiting", "place", "pair", "row", "later"]
theorem sc_Pairs_first_parting : FnScope N_Pairs_first_parting ["self"] (defScope s_Pairs_first_parting) := ⟨rfl, rfl, rfl, by decide +kernel, rfl, by decide +kernel, by decide +kernel⟩
-- slots: 0 self, 1 waiting, 2 place, 3 pair, 4 row, 5 later
abbrev s_parted : Stmt := top 25
abbrev N_parted : List Str := ["policy", "other"]
theorem sc_parted : FnScope N_parted ["policy", "other"] (defScope s_parted) := ⟨rfl, rfl, rfl, by decide +kernel, rfl, by decide +kernel, by decide +kernel⟩
-- slots: 0 policy, 1 other
def sp_first_parting (P : Program) (w : World) (C : Addr) : Sp := fun vs H Q _ => ∃ (A B : List Ru) (L : List Le) (p d g : Addr), vs = [.ref p] ∧ PairsAt C H p A B L d ∧ DictN P w H d [(firstQ A B, .ref g)] ∧ H g = some (.tup []) ∧ IsLetters (A ++ B) L ∧ A.length ≤ 3 ∧ B.length ≤ 3 ∧ (∀ r, r ∈ A → RuleOk r) ∧ (∀ r, r ∈ B → RuleOk r) ∧
  ∀ H' z r, SameX d H H' → Told A B L r → ResV H' L r z → Q z H'
def sp_parted : Sp := fun vs H Q _ => ∃ (A B : List Ru) (b1 b2 : Bool) (q1 q2 : Addr), vs = [.ref q1, .ref q2] ∧ PolV H b1 A q1 ∧ PolV H b2 B q2 ∧ A.length ≤ 3 ∧ B.length ≤ 3 ∧ (∀ r, r ∈ A → RuleOk r) ∧ (∀ r, r ∈ B → RuleOk r) ∧
  ∀ H' z L r, Same H H' → IsLetters (A ++ B) L → Told A B L r → ResV H' L r z → Q z H'
section
variable {P : Program} {w : World} {K : PySem.W.Frag} {mg : Str → Option Value} {base : Heap} {C : Addr}
theorem ok_first_parting {f : Addr} {fd : FuncData} (F : Fun K "first_parting" "Pairs.first_parting" s_Pairs_first_parting f fd) (T : Top K mg) (PT : PTxt K C) (M_differs : CalM P w K mg base 3 C "differs" ["self", "pair"] (sp_differs C)) (M_behind : CalM P w K mg base 4 C "behind" ["self", "pair", "row"] (sp_behind C)) :
    FnOk P w K mg base CX0 5 f fd ["self"] (sp_first_parting P w C) := by
  refine F.ok sc_Pairs_first_parting (fun vs H Q E h => ?_) (fun cdv A outer s H vs Q E hr h => ?_)
  · obtain ⟨A, B, L, p, d, g, rfl, _⟩ := h
    rfl
  · obtain ⟨R, B, L, p, d, g, rfl, hPA, hD0, hg0, hL, lA, lB, oA, oB, k⟩ := h
    refine ⟨_, (pss_cons (ps_set (i := 1) sc_Pairs_first_parting.nd rfl (Or.inl rfl) (pe_callTy (Nd.call_listN rfl) (by rfl) T.list (by decide +kernel) (pa_cons (pe_fld (pv 0) rfl) pa_nil)))
      (pss_cons (ps_for PassesOwn.never rfl (pi_range1 (by rfl) T.range (pa_cons (pe_op op_pow pe_int pe_int) pa_nil)) (pg_name (i := 2) sc_Pairs_first_parting.nd rfl (Or.inl rfl))
        (pss_cons (ps_if (pt_cmpR op_eq (pv 2) (pe_callB call_len_seq (by rfl) T.len (by decide +kernel) (pa_cons (pv 1) pa_nil)) (nomark _))
          (pss_one (ps_ret pe_non))
          pss_nil)
        (pss_cons (ps_set (i := 3) sc_Pairs_first_parting.nd rfl (Or.inl rfl) (pe_ix ix_list (pv 1) (pv 2) (fun _ _ => rfl)))
        (pss_cons (ps_if (pt_val (pe_calm M_differs PT.cl (hr.mono (by decide)) (pv 0) (pa_cons (pv 3) pa_nil)))
          (pss_one (ps_ret (pe_callTy call_list_of (by rfl) T.list (by decide +kernel) (pa_cons (pe_ix (Nd.ix_getN hr.units) (pe_fld (pv 0) rfl) (pv 3) (fun _ _ => rfl)) pa_nil))))
          pss_nil)
        (pss_one (ps_for PassesOwn.never rfl (pi_list (pe_fld (pv 0) rfl)) (pg_name (i := 4) sc_Pairs_first_parting.nd rfl (Or.inl rfl))
          (pss_cons (ps_set (i := 5) sc_Pairs_first_parting.nd rfl (Or.inl rfl) (pe_calm M_behind PT.cl (hr.mono (by decide)) (pv 0) (pa_cons (pv 3) (pa_cons (pv 4) pa_nil))))
          (pss_one (ps_if (pt_cmpR (Nd.op_notInN hr.units) (pv 5) (pe_fld (pv 0) rfl) (by rfl))
            (pss_cons (ps_asg (pe_op op_catA (pe_ix (Nd.ix_getN hr.units) (pe_fld (pv 0) rfl) (pv 3) (fun _ _ => rfl)) (pe_tup (pa_cons (pv 4) pa_nil))) (pg_sub (pe_fld (pv 0) rfl) (pv 5) (Nd.set_N hr.units)))
            (pss_one (ps_expr (pe_bm PySem.F.plainAttrs_list PySem.F.slot_list_append PySem.F.type_list_append mt_append (pv 1) (pa_cons (pv 5) pa_nil)))))
            pss_nil)))))))))
      (pss_one (ps_ret pe_non)))), ?_⟩
    have hline : (200000 : Nat) ≤ sizeLine := by decide
    have oR : ∀ r, r ∈ R ++ B → RuleOk r := fun r h => (List.mem_append.mp h).elim (oA r) (oB r)
    have lR : (R ++ B).length ≤ 6 := by rw [List.length_append]; omega
    have hLl := hL.few oR lR
    have hLo := hL.ok oR
    obtain ⟨dx, t, lp, q1, q2, b1, b2, hp, ht, hq1, hq2, ls, hls, hlp⟩ := id hPA
    have pp : ∀ H', SameX d H H' → H' p = some (.ins C dx (pf t lp d)) := fun H' s => s _ _ hp (dn_neI hD0 hp)
    have pa : ∀ H', SameX d H H' → PairsAt C H' p R B L d := fun H' s => hPA.sameX hD0 s
    have pl : ∀ H', SameX d H H' → H' lp = some (.lst ls) := fun H' s => s _ _ hls fun z => dn_notL hD0 _ (by rw [← z]; exact hls)
    have hlpX : ∀ H', SameX d H H' → Paired (RowV H') L ls := fun H' s => rowsSame hlp (s.tt (dn_notT hD0))
    refine ⟨_, rfl, p, C, dx, _, _, rfl, hp, PT.cl, PT.nD, pf_D _ _ _, d, _, rfl, hD0, fun fr fs0 nfr hF0 => ?_⟩
    have hE0 : Paired (EntV LogT L H) (knQ R B L 0) [(firstQ R B, .ref g)] := .cons ⟨rfl, g, [], rfl, hg0, .nil⟩ .nil
    have hF1 : Paired (fun (e : Sl.Pr × List Nat) v => PrV (upd H fr (.lst fs0)) e.1 v) (knQ R B L 0) fs0 := by
      cases hF0 with
      | cons a t => cases t; exact .cons (prSame a (tNew nfr)) .nil
    refine ⟨_, _, rfl, rfl, ⟨by decide, by decide, by decide⟩, 1000000, by show [V.int ((10 : Int) ^ ((6 : Int).toNat))] = _; rw [tenM], by decide, by decide, for_range (lo := 0) (n := 1000000) (fun i σ H6 => SameX d H H6 ∧ LiveQ R B L i ∧ (∃ x2 x3 x4 x5, σ = [some (.ref p), some (.ref fr), x2, x3, x4, x5]) ∧ ∃ kvs fs, DictN P w H6 d kvs ∧ Paired (EntV LogT L H6) (knQ R B L i) kvs ∧ H6 fr = some (.lst fs) ∧ Paired (fun (e : Sl.Pr × List Nat) v => PrV H6 e.1 v) (knQ R B L i) fs)
      ⟨xOf (sNew nfr), (fun j hj => absurd hj (Nat.not_lt_zero _)), ⟨_, _, _, _, rfl⟩, _, _, DictN.same hD0 (sNew nfr), entT hE0 (tNew nfr), upd_same, hF1⟩ (fun i σ H6 hi p6 => ?_) (fun σ H6 p6 => ?_)⟩
    · obtain ⟨s6, hl, ⟨x2, x3, x4, x5, rfl⟩, kvs, fs, hD, hE, hf, hF⟩ := p6
      have hfew := (live_few (polOk oA lA) (polOk oB lB) hl).2
      have hi4 := (live_few (polOk oA lA) (polOk oB lB) hl).1
      have hfl := hF.length
      have hle := live_le hl
      refine ⟨_, rfl, _, rfl, fr, fs, rfl, .inl (SqL.of hf), rfl, _, rfl, iteD (intD _ _) (ite2 (fun c0 => ?_) (fun c0 => ?_))⟩
      · have c0 := of_decide_eq_true c0
        have hnone : (knQ R B L i)[i]? = none := List.getElem?_eq_none (by omega)
        exact k _ .non none s6 (told_none hl hnone) rfl
      · have hlt : i < (knQ R B L i).length := by
          apply Classical.byContradiction
          intro z
          exact c0 (decide_eq_true (by omega))
        obtain ⟨⟨pr, u⟩, hpu⟩ : ∃ e, (knQ R B L i)[i]? = some e := ⟨_, List.getElem?_eq_getElem hlt⟩
        obtain ⟨hv, hvi, hpr⟩ := paired_to hF hpu
        obtain ⟨cA, cB⟩ := caps_at hl (List.mem_of_getElem? hpu)
        refine ⟨_, rfl, _, rfl, fr, fs, ((i : Nat) : Int), hv, rfl, by rw [Int.zero_add], SqL.of hf, atI_nat hvi, ?_⟩
        refine ⟨_, rfl, p, dx, _, rfl, pp _ s6, pf_no _ _ _ (by decide +kernel) (by decide +kernel) (by decide +kernel), _, rfl, R, B, L, p, d, pr, hv, rfl, pa _ s6, hpr, cA, cB, fun H8 s68 => ⟨_, rfl, ?_⟩⟩
        have hD8 := DictN.same hD s68
        have hE8 := entT hE (tOf s68)
        have hf8 := s68 _ _ hf
        have hF8 := frontT hF (tOf s68)
        have hpr8 := prSame hpr (tOf s68)
        have s8 := s6.trans (xOf s68)
        have hp8 := pp _ s8
        refine ite2 (fun c1 => ?_) (fun c1 => ?_)
        · have c1 : differs R B pr = true := c1
          obtain ⟨v, hv1, a, vs, rfl, ha, hrows⟩ := ent_here (more := []) hl (by rw [List.append_nil]; exact hE8) hpu
          refine ⟨_, rfl, p, C, dx, _, _, rfl, hp8, PT.cl, PT.nD, pf_D _ _ _, _, rfl, pr, d, kvs, .ref a, rfl, hpr8, hD8, hv1, ?_⟩
          refine ⟨a, vs, rfl, .inr (SqT.of ha), fun l nl => ?_⟩
          exact k _ _ (some u) (s8.trans (xOf (sNew nl))) (told_some hl hpu c1) ⟨l, rfl, vs, upd_same, rowsSame hrows (tNew nl)⟩
        · have c1 : differs R B pr = false := Bool.eq_false_iff.mpr c1
          have hl1 := live_next hl hpu c1
          have hk1 := kn_next (A := R) (B := B) (L := L) hpu
          have hfew1 := (live_few (polOk oA lA) (polOk oB lB) hl1).2
          rw [hk1] at hfew1
          have hul := kns_long (stepD R B L) L.length (firstQ R B) i _ (List.mem_of_getElem? hpu)
          refine ⟨_, rfl, p, C, dx, _, _, rfl, hp8, PT.cl, PT.nL, pf_L _ _ _, lp, rfl, ⟨ls, SqL.of (pl _ s8)⟩, for_list (K := K) (a := lp) (xs := ls) (fun t σ H9 => SameX d H H9 ∧ (∃ x4 x5, σ = [some (.ref p), some (.ref fr), some (.int (0 + (i : Int))), some hv, x4, x5]) ∧ PrV H9 pr hv ∧ ∃ kvs fs, DictN P w H9 d kvs ∧ Paired (EntV LogT L H9) (expand (stepD R B L) pr u t (knQ R B L i)) kvs ∧ H9 fr = some (.lst fs) ∧ Paired (fun (e : Sl.Pr × List Nat) v => PrV H9 e.1 v) (expand (stepD R B L) pr u t (knQ R B L i)) fs)
            ⟨s8, ⟨_, _, rfl⟩, hpr8, kvs, fs, hD8, hE8, hf8, hF8⟩ (fun t σ H9 _ q => SqL.of (pl _ q.1)) (fun t xv σ H9 hxv q => ?_) (fun σ H9 q => ?_)⟩
          · obtain ⟨s9, ⟨x4, x5, rfl⟩, hpr9, kvs, fs, hD9, hE9, hf9, hF9⟩ := q
            obtain ⟨l, hl0, hrow⟩ := paired_at (hlpX _ s9) hxv
            have htL : t < L.length := (List.getElem?_eq_some_iff.mp hl0).1
            have hstep : stepD R B L pr t = stepQ R B pr l := by
              unfold stepD
              rw [hl0]
            have hlen9 : (expand (stepD R B L) pr u t (knQ R B L i)).length ≤ 4225 := Nat.le_trans (expand_len _ pr u _ (Nat.le_of_lt htL)) hfew1
            have hrow9 := hrow
            have hp9 := pp _ s9
            refine ⟨_, rfl, p, dx, _, rfl, hp9, pf_no _ _ _ (by decide +kernel) (by decide +kernel) (by decide +kernel), _, rfl, _, rfl, R, B, L, p, d, pr, l, hv, xv, rfl, pa _ s9, hpr9, cA, cB, by omega, by omega, hrow9, fun H12 z9 s9c hlater => ?_⟩
            rw [← hstep] at hlater
            have hlater' := hlater
            obtain ⟨lt, zx, zy, rfl, _⟩ := hlater'
            have hD12 := DictN.same hD9 s9c
            have hE12 := entT hE9 (tOf s9c)
            have hf12 := s9c _ _ hf9
            have hF12 := frontT hF9 (tOf s9c)
            have hpr12 := prSame hpr9 (tOf s9c)
            have hp12 := s9c _ _ hp9
            have hany := ent_any hE12 (stepD R B L pr t)
            refine ⟨_, rfl, _, rfl, p, C, dx, _, _, rfl, hp12, PT.cl, PT.nD, pf_D _ _ _, stepD R B L pr t, d, kvs, hlater, rfl, hD12, _, rfl, ?_⟩
            rw [if_pos rfl, hany]
            cases hq : (expand (stepD R B L) pr u t (knQ R B L i)).any fun e => decide (e.1 = stepD R B L pr t) with
            | true =>
              have e : expand (stepD R B L) pr u (t + 1) (knQ R B L i) = expand (stepD R B L) pr u t (knQ R B L i) := by
                rw [expand_succ]
                exact if_pos hq
              refine iteD (k' := false) rfl (iteF ?_)
              exact ⟨s9.trans (xOf s9c), ⟨_, _, rfl⟩, hpr12, kvs, fs, hD12, by rw [e]; exact hE12, hf12, by rw [e]; exact hF12⟩
            | false =>
              have e : expand (stepD R B L) pr u (t + 1) (knQ R B L i) = expand (stepD R B L) pr u t (knQ R B L i) ++ [(stepD R B L pr t, u ++ [t])] := by
                rw [expand_succ]
                exact if_neg (by rw [hq]; exact Bool.false_ne_true)
              have hvn : valV kvs (stepD R B L pr t) = none := by
                rw [hq] at hany
                cases z : valV kvs (stepD R B L pr t) with
                | none => rfl
                | some v => rw [z] at hany; cases hany
              obtain ⟨more, hmore⟩ := expand_pre (stepD R B L) pr u (knQ R B L i) t
              obtain ⟨v, hv1, a, us, rfl, hus, husp⟩ := ent_here hl (by rw [← hmore]; exact hE12) hpu
              have husl : us.length ≤ 4225 := by
                rw [← husp.length]
                have := spell_len L u
                have hul : u.length ≤ i := hul
                omega
              refine iteD (k' := true) rfl (iteT ?_)
              refine ⟨_, rfl, p, C, dx, _, _, rfl, hp12, PT.cl, PT.nD, pf_D _ _ _, _, rfl, pr, d, kvs, .ref a, rfl, hpr12, hD12, hv1, ?_⟩
              refine ⟨_, rfl, (by show 1 ≤ sizeLine; decide), fun l1 nl1 => catOne (sNew nl1 _ _ hus) upd_same (by omega) fun c H13 s113 hc => ?_⟩
              have s12c : Same H12 H13 := (sNew nl1).trans s113
              have hD13 := DictN.same hD12 s12c
              have hf13 := s12c _ _ hf12
              have hp13 := s12c _ _ hp12
              have hlater13 := prSame hlater (tOf s12c)
              have hkl : kvs.length ≤ 4225 := by rw [← hE12.length]; exact hlen9
              refine ⟨_, rfl, p, C, dx, _, _, rfl, hp13, PT.cl, PT.nD, pf_D _ _ _, _, rfl, stepD R B L pr t, d, kvs, rfl, hlater13, hD13, hvn, by omega, fun ob hob mu => ?_⟩
              have nfd : fr ≠ d := DictN.neL hD13 hf13
              have stD : SameT H13 (upd H13 d ob) := DictN.tE hD13 ob
              have hf14 : (upd H13 d ob) fr = some (.lst fs) := by rw [upd_ne nfd]; exact hf13
              have hfl9 : fs.length ≤ 4225 := by rw [← hF12.length]; exact hlen9
              refine ⟨_, rfl, .inl ⟨rfl, _, SqL.of hf14⟩, _, rfl, fr, fs, _, rfl, rfl, hf14, by omega, ?_⟩
              have stF : SameT (upd H13 d ob) (upd (upd H13 d ob) fr (.lst (fs ++ [.ref lt]))) := tLst hf14
              have st := stD.trans stF
              refine ⟨fun b o q nb => ?_, ⟨_, _, rfl⟩, prSame hpr12 ((tOf s12c).trans st), _, _, DictN.keep hob stF (upd_ne nfd.symm), ?_, upd_same, ?_⟩
              · have n1 : b ≠ fr := ne_of_none q nfr
                rw [upd_ne n1, upd_ne nb]
                exact s12c _ _ (s9c _ _ (s9 _ _ q nb))
              · rw [e]
                refine paired_app (entT hE12 ((tOf s12c).trans st)) (.cons ⟨rfl, c, _, rfl, st _ _ hc, ?_⟩ .nil)
                show Paired _ (spell L (u ++ [t])) _
                rw [spell_snoc L u hl0]
                exact paired_app (rowsSame husp ((tOf s12c).trans st)) (.cons ((hrow9.same (tOf s9c)).same ((tOf s12c).trans st)) .nil)
              · rw [e]
                exact paired_app (frontT hF12 ((tOf s12c).trans st)) (.cons (prSame hlater13 st) .nil)
          · obtain ⟨s9, ⟨x4, x5, rfl⟩, hpr9, kvs, fs, hD9, hE9, hf9, hF9⟩ := q
            rw [← hlp.length, ← hk1] at hE9 hF9
            exact ⟨s9, hl1, ⟨_, _, _, _, rfl⟩, kvs, fs, hD9, hE9, hf9, hF9⟩
    · obtain ⟨_, hl, _⟩ := p6
      have := (live_few (polOk oA lA) (polOk oB lB) hl).1
      omega
theorem ok_parted {f : Addr} {fd : FuncData} (F : Fun K "parted" "parted" s_parted f fd) (T : Top K mg) (PT : PTxt K C) (C_Pairs : CalC P w K mg base 4 C "Pairs" ["self", "policy", "other"] (sp_init P w C)) (M_first_parting : CalM P w K mg base 5 C "first_parting" ["self"] (sp_first_parting P w C)) :
    FnOk P w K mg base CX0 6 f fd ["policy", "other"] sp_parted := by
  refine F.ok sc_parted (fun vs H Q E h => ?_) (fun cdv A outer s H vs Q E hr h => ?_)
  · obtain ⟨A, B, b1, b2, q1, q2, rfl, _⟩ := h
    rfl
  · obtain ⟨R, B, b1, b2, q1, q2, rfl, h1, h2, lA, lB, oA, oB, k⟩ := h
    refine ⟨_, (pss_one (ps_ret (pe_calm0 M_first_parting PT.cl (hr.mono (by decide)) (pe_calc C_Pairs hr rfl (pa_cons (pv 0) (pa_cons (pv 1) pa_nil)))))), ?_⟩
    refine ⟨_, rfl, _, rfl, fun x dx nx ndx nxd => ?_⟩
    have s1 : Same H (upd (upd H dx (.own x)) x (.ins C dx [])) := fun b o e => by
      rw [upd_ne (ne_of_none e nx), upd_ne (ne_of_none e ndx)]
      exact e
    refine ⟨R, B, b1, b2, x, q1, q2, dx, rfl, upd_same, h1.same s1, h2.same s1, lA, lB, oA, oB, fun H2 L d g x2 hL nd hPA hD hg => ⟨rfl, ?_⟩⟩
    have s2 : Same H H2 := fun b o e => x2 _ _ (s1 _ _ e) (ne_of_none e nx)
    obtain ⟨dx2, t, lp, q12, q22, b12, b22, hp, _⟩ := id hPA
    refine ⟨x, dx2, _, rfl, hp, pf_no _ _ _ (by decide +kernel) (by decide +kernel) (by decide +kernel), R, B, L, x, d, g, rfl, hPA, hD, hg, hL, lA, lB, oA, oB, fun H3 z r s3 hT hR => ?_⟩
    exact k H3 z L r (fun b o e => s3 _ _ (s2 _ _ e) (ne_of_none (s1 _ _ e) nd)) hL hT hR
end
end Sk
set_option Elab.async false
set_option linter.all false
set_option maxRecDepth 100000
namespace Sk
open PySem PySem.Spec PyProof.Rows L2 Sl Bf Zs Sr Dc2 Nd
theorem spell_mem {L : List Le} {w : List Nat} {l : Le} (h : l ∈ spell L w) : l ∈ L := by
  unfold spell at h
  obtain ⟨d, _, hd⟩ := List.mem_filterMap.mp h
  exact List.mem_of_getElem? hd
/-- what is told, as data -/
def resD (L : List Le) : Option (List Nat) → PyData
  | none => .none
  | some w => .list ((spell L w).map datL)
theorem ResV.dp {K : PySem.W.Frag} {H : Hp} {L : List Le} {r : Option (List Nat)} {z : V} (h : ResV H L r z) : Dp K H z (resD L r) := by
  cases r with
  | none =>
    have h : z = .non := h
    subst h
    exact .non
  | some w =>
    obtain ⟨a, rfl, vs, h1, h2⟩ := h
    exact .lst (SqL.of h1) (dp_rows h2)
theorem res_shaped {L : List Le} (hL : ∀ l, l ∈ L → NameOk l.1) (r : Option (List Nat)) : SeqAt.shaped (resD L r) = true := by
  cases r with
  | none => show SeqAt.shaped .none = true; decide +kernel
  | some w => exact rows_shaped fun l hl => hL l (spell_mem hl)
theorem rows_can {u : List Le} (h : ∀ l, l ∈ u → NameOk l.1) : (PyData.list (u.map datL)).canLay0 = true := by
  simp only [PyData.canLay0]
  refine canAll fun d hd => ?_
  obtain ⟨l, hl, rfl⟩ := List.mem_map.mp hd
  exact (row_can (h l hl)).1
theorem pow_few {m i : Nat} (h : (m ≤ 6 ∧ i ≤ 3) ∨ (m ≤ 625 ∧ i ≤ 2)) : m ^ i ≤ 1000000 := by
  rcases h with ⟨h1, h2⟩ | ⟨h1, h2⟩
  · rcases Nat.eq_zero_or_pos m with e | e
    · subst e
      exact Nat.le_trans (Nat.pow_le_pow_left (Nat.zero_le 1) i) (by rw [Nat.one_pow]; decide)
    · exact Nat.le_trans (Nat.pow_le_pow_left h1 i) (Nat.le_trans (Nat.pow_le_pow_right (by decide) h2) (by decide))
  · exact Nat.le_trans (Nat.pow_le_pow_left h1 i) (Nat.le_trans (Nat.pow_le_pow_right (by decide) h2) (by decide))
/-- all that comes ahead has been seen -/
def Ahead (m : Nat) (r : Option (List Nat)) (k : Nat) : Prop := ∀ w, r = some w → k ≤ rank m w
theorem ahead_bad {A B : List Ru} {L : List Le} {r : Option (List Nat)} {k : Nat} {v : List Nat} (hT : Told A B L r) (ha : Ahead L.length r k) (hv : Dig L.length v) (hk : rank L.length v = k) (hne : r ≠ some v) : parts A B (spell L v) = false ∧ Ahead L.length r (k + 1) := by
  cases r with
  | none =>
    refine ⟨?_, fun w e => by cases e⟩
    rw [← differs_run A B L hv]
    exact Res.none_right hT v hv
  | some w =>
    obtain ⟨hw, _, hmin⟩ := Res.some_right hT
    have h1 := ha w rfl
    have h2 : rank L.length w ≠ k := fun e => hne (by rw [rank_inj w hw v hv (e.trans hk.symm)])
    refine ⟨?_, fun w' e => by cases e; omega⟩
    cases e : parts A B (spell L v) with
    | false => rfl
    | true =>
      have := hmin v hv (by rw [differs_run A B L hv]; exact e)
      omega
abbrev s_law_none_ahead : Stmt := top 46
abbrev N_law_none_ahead : List Str := ["_law_one", "_law_two", "_law_found", "_law_letters_here", "_law_size", "_law_rows"]
theorem sc_law_none_ahead : FnScope N_law_none_ahead ["_law_one", "_law_two", "_law_found"] (defScope s_law_none_ahead) := ⟨rfl, rfl, rfl, by decide +kernel, rfl, by decide +kernel, by decide +kernel⟩
-- slots: 0 _law_one, 1 _law_two, 2 _law_found, 3 _law_letters_here, 4 _law_size, 5 _law_rows
def sp_law_none_ahead : Sp := fun vs H Q _ => ∃ (A B : List Ru) (L : List Le) (r : Option (List Nat)) (q1 q2 : Addr) (z : V), vs = [.ref q1, .ref q2, z] ∧ RulesAt H q1 A ∧ RulesAt H q2 B ∧ A.length ≤ 3 ∧ B.length ≤ 3 ∧ (∀ r, r ∈ A → RuleOk r) ∧ (∀ r, r ∈ B → RuleOk r) ∧
  IsLetters (A ++ B) L ∧ Told A B L r ∧ ResV H L r z ∧ ∀ H', Same H H' → Q (.bl true) H'
section
variable {P : Program} {w : World} {K : PySem.W.Frag} {mg : Str → Option Value} {base : Heap}
theorem ok_law_none_ahead {f : Addr} {fd : FuncData} (F : Fun K "_law_none_ahead" "_law_none_ahead" s_law_none_ahead f fd) (T : Top K mg) (C_law_letters : Cal P w K mg base 2 "_law_letters" ["_law_rules"] sp_law_letters) (C_law_logs : Cal P w K mg base 1 "_law_logs" ["_law_letters_here", "_law_size"] sp_law_logs)
    (C_law_fits_one : Cal P w K mg base 3 "_law_fits_one" ["_law_one", "_law_two", "_law_rows"] sp_law_fits_one) : FnOk P w K mg base CX0 4 f fd ["_law_one", "_law_two", "_law_found"] sp_law_none_ahead := by
  refine F.ok sc_law_none_ahead (fun vs H Q E h => ?_) (fun cdv A outer s H vs Q E hr h => ?_)
  · obtain ⟨A, B, L, r, q1, q2, z, rfl, _⟩ := h
    rfl
  · obtain ⟨R, B, L, r, q1, q2, z, rfl, ⟨rs1, h1, hp1⟩, ⟨rs2, h2, hp2⟩, lA, lB, oA, oB, hL, hT, hR, k⟩ := h
    refine ⟨_, (pss_cons (ps_set (i := 3) sc_law_none_ahead.nd rfl (Or.inl rfl) (pe_cal C_law_letters (hr.mono (by decide)) rfl (pa_cons (pe_op op_cat (pv 0) (pv 1)) pa_nil)))
      (pss_cons (ps_for PassesOwn.never rfl (pi_range1 (by rfl) T.range (pa_cons (pe_ifExp (pt_cmpR op_lt (pe_callB call_len_seq (by rfl) T.len (by decide +kernel) (pa_cons (pv 3) pa_nil)) pe_int (nomark _)) pe_int pe_int) pa_nil)) (pg_name (i := 4) sc_law_none_ahead.nd rfl (Or.inl rfl))
        (pss_one (ps_for PassesOwn.never rfl (pi_list (pe_cal C_law_logs (hr.mono (by decide)) rfl (pa_cons (pv 3) (pa_cons (pv 4) pa_nil)))) (pg_name (i := 5) sc_law_none_ahead.nd rfl (Or.inl rfl))
          (pss_cons (ps_if (pt_cmpR (op_eqD hr.units) (pv 5) (pv 2) (nomark _))
            (pss_one (ps_ret pe_bl))
            pss_nil)
          (pss_one (ps_if (pt_val (pe_cal C_law_fits_one (hr.mono (by decide)) rfl (pa_cons (pv 0) (pa_cons (pv 1) (pa_cons (pv 5) pa_nil)))))
            (pss_one (ps_ret pe_bl))
            pss_nil))))))
      (pss_one (ps_ret pe_bl)))), ?_⟩
    have hline : (200000 : Nat) ≤ sizeLine := by decide
    have e1 := hp1.length
    have e2 := hp2.length
    have oR : ∀ r, r ∈ R ++ B → RuleOk r := fun r h => (List.mem_append.mp h).elim (oA r) (oB r)
    have lR : (R ++ B).length ≤ 6 := by rw [List.length_append]; omega
    have hLl := hL.few oR lR
    have hLo := hL.ok oR
    refine ⟨_, rfl, _, rfl, q1, q2, rs1, rs2, rfl, rfl, h1, h2, by omega, fun c nc => ?_⟩
    refine ⟨R ++ B, c, rfl, ⟨_, upd_same, paired_app (rulesSame hp1 (tNew nc)) (rulesSame hp2 (tNew nc))⟩, lR, oR, fun H1 lp L' s1 hL' hLg => ?_⟩
    have eL : L' = L := hL'.unique (fun _ => Iff.rfl) hL
    subst eL
    have s01 : Same H H1 := (sNew nc).trans s1
    obtain ⟨ls, hls, hlp⟩ := id hLg
    have hll := hlp.length
    refine ⟨_, rfl, lp, _, rfl, .inl (SqL.of hls), _, _, rfl, rfl, _, rfl, ?_⟩
    refine ite2 (fun c => have few : ∀ i, i < (4 : Int).toNat → (L'.length ≤ 6 ∧ i ≤ 3) ∨ (L'.length ≤ 625 ∧ i ≤ 2) := fun i hi => .inl ⟨by have := of_decide_eq_true c; omega, by have : i < 4 := hi; omega⟩; ?_) (fun c => have few : ∀ i, i < (3 : Int).toNat → (L'.length ≤ 6 ∧ i ≤ 3) ∨ (L'.length ≤ 625 ∧ i ≤ 2) := fun i hi => .inr ⟨hLl, by have : i < 3 := hi; omega⟩; ?_)
    all_goals
      clear c
      refine ⟨_, rfl, by decide, by decide, for_range (lo := 0) (n := _) (fun i σ H2 => Same H1 H2 ∧ (∃ x4 x5, σ = [some (.ref q1), some (.ref q2), some z, some (.ref lp), x4, x5]) ∧ Ahead L'.length r (first L'.length i))
        ⟨Same.refl _, ⟨_, _, rfl⟩, fun _ _ => Nat.zero_le _⟩ (fun i σ H2 hi p => ?_) (fun σ H2 p => ?_)⟩
      · obtain ⟨s2, ⟨x4, x5, rfl⟩, ha⟩ := p
        have hfew := few i hi
        have hi3 : i ≤ 3 := by omega
        refine ⟨_, rfl, _, rfl, L', lp, i, by rw [Int.zero_add]; rfl, hLg.same s2, hi3, fun j hj => pow_few (by omega), fun H3 p s3 hlogs => ?_⟩
        obtain ⟨vs, hv, hvp⟩ := hlogs
        refine ⟨p, rfl, ⟨vs, SqL.of hv⟩, for_list (K := K) (a := p) (xs := vs) (fun t σ H4 => Same H3 H4 ∧ (∃ x5, σ = [some (.ref q1), some (.ref q2), some z, some (.ref lp), some (.int (0 + (i : Int))), x5]) ∧ Ahead L'.length r (first L'.length i + t))
          ⟨Same.refl _, ⟨_, rfl⟩, ha⟩ (fun t σ H4 _ q => SqL.of (q.1 _ _ hv)) (fun t xv σ H4 hxv q => ?_) (fun σ H4 q => ?_)⟩
        · obtain ⟨s4, ⟨x5, rfl⟩, ha⟩ := q
          obtain ⟨u, hu, b, rfl, hub⟩ := paired_at hvp hxv
          rw [logs_words, List.getElem?_map] at hu
          obtain ⟨wd, hwd, rfl⟩ := Option.map_eq_some_iff.mp hu
          have hrk := words_at hwd
          have hdg := words_dig _ _ _ (List.mem_of_getElem? hwd)
          have s04 : Same H H4 := s01.trans (s2.trans (s3.trans s4))
          have hub4 := hub.same s4
          obtain ⟨us, hus, husp⟩ := id hub4
          have ho : ∀ l, l ∈ spell L' wd → NameOk l.1 := fun l hl => hLo l (spell_mem hl)
          refine ⟨_, rfl, _, rfl, _, _, .lst (SqL.of hus) (dp_rows husp), (hR.same s04).dp, rows_shaped ho, res_shaped hLo r, _, rfl, ite2 (fun c => ?_) (fun c => ?_)⟩
          · exact k _ s04
          · have hne : r ≠ some wd := fun e => c (by rw [e]; exact SeqAt.eqv_refl _ (rows_can ho))
            obtain ⟨g1, g2⟩ := ahead_bad hT ha hdg hrk hne
            have hwl : (spell L' wd).length ≤ 100000 := by
              have := logs_word L' i (spell L' wd) (by rw [logs_words]; exact List.mem_map_of_mem (List.mem_of_getElem? hwd))
              omega
            refine ⟨_, rfl, _, rfl, _, rfl, R, B, spell L' wd, q1, q2, b, rfl, RulesAt.same ⟨rs1, h1, hp1⟩ s04, RulesAt.same ⟨rs2, h2, hp2⟩ s04, hub4, oA, oB, ho, hwl, fun H5 s5 => ⟨_, rfl, iteD g1 (iteF ?_)⟩⟩
            exact ⟨s4.trans s5, ⟨_, rfl⟩, g2⟩
        · obtain ⟨s4, ⟨x5, rfl⟩, ha⟩ := q
          refine ⟨s2.trans (s3.trans s4), ⟨_, _, rfl⟩, ?_⟩
          rw [← first_succ, ← logs_len L' i, hvp.length]
          exact ha
      · exact k _ (s01.trans p.1)
end
end Sk
set_option Elab.async false
set_option linter.all false
set_option maxRecDepth 100000
namespace Sk
open PySem PySem.Spec PyProof.Rows L2 Sl Bf Zs Sr Dc2 Nd
/-- two values that are alike, kind by kind, to a depth -/
def flatV2 (x y : V) : Prop := (x = .non ∧ y = .non) ∨ (∃ i, x = .int i ∧ y = .int i) ∨ (∃ s, x = .str s ∧ y = .str s)
def SamV : Nat → Hp → V → V → Prop
  | 0, _, _, _ => False
  | n + 1, H, x, y => flatV2 x y ∨ ∃ (b : Bool) (a c : Addr) (xs ys : List V), x = .ref a ∧ y = .ref c ∧ H a = some (if b = true then .lst xs else .tup xs) ∧ H c = some (if b = true then .lst ys else .tup ys) ∧ xs.length < sizeLine ∧ Paired (SamV n H) xs ys
theorem SamV.same : ∀ {n : Nat} {H H' : Hp} {x y : V}, SamV n H x y → Same H H' → SamV n H' x y
  | 0, _, _, _, _, h, _ => h
  | n + 1, H, H', x, y, h, s => by
    rcases h with h | ⟨b, a, c, xs, ys, e1, e2, h1, h2, hl, hp⟩
    · exact .inl h
    · exact .inr ⟨b, a, c, xs, ys, e1, e2, s _ _ h1, s _ _ h2, hl, Paired.mapP hp fun _ _ q => SamV.same q s⟩
theorem TyX.of {K : PySem.W.Frag} {H : Hp} {b : Bool} {a : Addr} {xs : List V} (h : H a = some (if b = true then .lst xs else .tup xs)) : TyX K H (.ref a) (.type (if b = true then "list" else "tuple")) := by
  cases b
  · exact .base (.tup h)
  · exact .base (.lst h)
theorem kitNo {K : PySem.W.Frag} {t : String} (h1 : kitB t "list" = some false) (h2 : kitB t "tuple" = some false) : PySem.W.kitAny K (.type t) [.type "list", .type "tuple"] = some false :=
  kitAny_cons (kit_ty h1) (fun _ => kitAny_cons (kit_ty h2) (fun _ => rfl) (fun z => by cases z)) (fun z => by cases z)
theorem kitYes {K : PySem.W.Frag} (b : Bool) : PySem.W.kitAny K (.type (if b = true then "list" else "tuple")) [.type "list", .type "tuple"] = some true := by
  cases b
  · exact kitAny_cons (b := false) (kit_ty (by decide +kernel)) (fun _ => kitAny_cons (b := true) (kit_ty (by decide +kernel)) (fun z => by cases z) (fun _ => rfl)) (fun z => by cases z)
  · exact kitAny_cons (b := true) (kit_ty (by decide +kernel)) (fun z => by cases z) (fun _ => rfl)
theorem kitL {K : PySem.W.Frag} (b : Bool) : PySem.W.kitOne K (.type (if b = true then "list" else "tuple")) (.type "list") = some b := by
  cases b
  · exact kit_ty (by decide +kernel)
  · exact kit_ty (by decide +kernel)
theorem kitT {K : PySem.W.Frag} (b : Bool) : PySem.W.kitOne K (.type (if b = true then "list" else "tuple")) (.type "tuple") = some (!b) := by
  cases b
  · exact kit_ty (by decide +kernel)
  · exact kit_ty (by decide +kernel)
abbrev s_law_same : Stmt := top 31
abbrev N_law_same : List Str := ["_law_found", "_law_due", "_law_one", "_law_two"]
theorem sc_law_same : FnScope N_law_same ["_law_found", "_law_due"] (defScope s_law_same) := ⟨rfl, rfl, rfl, by decide +kernel, rfl, by decide +kernel, by decide +kernel⟩
-- slots: 0 _law_found, 1 _law_due, 2 _law_one, 3 _law_two
def sp_same (n : Nat) : Sp := fun vs H Q _ => ∃ (x y : V), vs = [x, y] ∧ SamV n H x y ∧ ∀ H', Same H H' → Q (.bl true) H'
section
variable {P : Program} {w : World} {K : PySem.W.Frag} {mg : Str → Option Value} {base : Heap}
theorem ok_law_same {f : Addr} {fd : FuncData} (F : Fun K "_law_same" "_law_same" s_law_same f fd) (hm : mg "_law_same" = some (.ref f)) (hb : Binds K fd ["_law_found", "_law_due"] []) (T : Top K mg) : ∀ n, FnOk P w K mg base CX0 n f fd ["_law_found", "_law_due"] (sp_same n)
  | 0 => ⟨fun vs H Q E h => (by obtain ⟨_, _, _, h, _⟩ := h; exact absurd h id), fun A outer s H args us vs Q E hr he hb hv h => (by obtain ⟨_, _, _, h, _⟩ := h; exact absurd h id)⟩
  | n + 1 => by
    have C_law_same : Cal P w K mg base n "_law_same" ["_law_found", "_law_due"] (sp_same n) := cal_mk F hm hb (ok_law_same F hm hb T n)
    refine F.ok sc_law_same (fun vs H Q E h => ?_) (fun cdv A outer s H vs Q E hr h => ?_)
    · obtain ⟨x, y, rfl, _⟩ := h
      rfl
    · obtain ⟨x, y, rfl, h, k⟩ := h
      obtain ⟨b, h⟩ : ∃ b : Bool, flatV2 x y ∨ ∃ (a c : Addr) (xs ys : List V), x = .ref a ∧ y = .ref c ∧ H a = some (if b = true then .lst xs else .tup xs) ∧ H c = some (if b = true then .lst ys else .tup ys) ∧ xs.length < sizeLine ∧ Paired (SamV n H) xs ys := by
        rcases h with h | ⟨b, h⟩
        · exact ⟨true, .inl h⟩
        · exact ⟨b, .inr h⟩
      refine ⟨_, (pss_cons (ps_if (pt_val (pe_callB call_isiT (by rfl) T.isinstance (by decide +kernel) (pa_cons (pv 1) (pa_cons (pe_tup (pa_cons (pe_bltn (v := .ty "list") (u := .type "list") (by rfl) T.list (by decide +kernel) rfl) (pa_cons (pe_bltn (v := .ty "tuple") (u := .type "tuple") (by rfl) T.tuple (by decide +kernel) rfl) pa_nil))) pa_nil))))
        (pss_cons (ps_if (PW.pt (pw_or (pt_cmpR op_ne (pe_callB call_isi (by rfl) T.isinstance (by decide +kernel) (pa_cons (pv 0) (pa_cons (pe_bltn (v := .ty "list") (u := .type "list") (by rfl) T.list (by decide +kernel) rfl) pa_nil))) (pe_callB call_isi (by rfl) T.isinstance (by decide +kernel) (pa_cons (pv 1) (pa_cons (pe_bltn (v := .ty "list") (u := .type "list") (by rfl) T.list (by decide +kernel) rfl) pa_nil))) (nomark _)) (pw_or1 (pt_cmpR op_ne (pe_callB call_isi (by rfl) T.isinstance (by decide +kernel) (pa_cons (pv 0) (pa_cons (pe_bltn (v := .ty "tuple") (u := .type "tuple") (by rfl) T.tuple (by decide +kernel) rfl) pa_nil))) (pe_callB call_isi (by rfl) T.isinstance (by decide +kernel) (pa_cons (pv 1) (pa_cons (pe_bltn (v := .ty "tuple") (u := .type "tuple") (by rfl) T.tuple (by decide +kernel) rfl) pa_nil))) (nomark _)))))
          (pss_one (ps_ret pe_bl))
          pss_nil)
        (pss_cons (ps_if (pt_cmpR op_ne (pe_callB call_len_seq (by rfl) T.len (by decide +kernel) (pa_cons (pv 0) pa_nil)) (pe_callB call_len_seq (by rfl) T.len (by decide +kernel) (pa_cons (pv 1) pa_nil)) (nomark _))
          (pss_one (ps_ret pe_bl))
          pss_nil)
        (pss_one (ps_ret (pe_callB (cr_all rfl) (by rfl) T.all (by decide +kernel) (pa_cons (pe_lc (own := [("_law_one", 2), ("_law_two", 3)]) (by rfl) sc_law_same.nd (g := gTup K 2 (gCons (gName 2) (gCons (gName 3) gNil))) (pi_zipN b b (by rfl) T.zip (pa_cons (pv 0) (pa_cons (pv 1) pa_nil))) (blkOk_by (own := [("_law_one", 2), ("_law_two", 3)]) (N := N_law_same) (sc := defScope s_law_same) (by decide +kernel)) (fun _ _ _ _ _ => (pg_tup rfl (pgs_cons (pg_name (i := 2) sc_law_same.nd rfl (Or.inl rfl)) (pgs_cons (pg_name (i := 3) sc_law_same.nd rfl (Or.inl rfl)) pgs_nil)))) (fun _ _ _ _ _ => pts_nil) (fun _ _ _ _ _ => (pe_cal C_law_same hr rfl (pa_cons (pv 2) (pa_cons (pv 3) pa_nil))))) pa_nil))))))
        pss_nil)
      (pss_cons (ps_if (PW.pt (pw_or (pt_cmpR op_isN (pv 1) pe_non (nomark _)) (pw_or1 (pt_val (pe_callB call_isi (by rfl) T.isinstance (by decide +kernel) (pa_cons (pv 1) (pa_cons (pe_bltn (v := .ty "str") (u := .type "str") (by rfl) T.str (by decide +kernel) rfl) pa_nil)))))))
        (pss_one (ps_ret (pe_and (pe_cmpR op_eq (pv 0) (pv 1) (nomark _)) (pe_one (pe_cmpR op_eq (pe_callB call_isi (by rfl) T.isinstance (by decide +kernel) (pa_cons (pv 0) (pa_cons (pe_bltn (v := .ty "str") (u := .type "str") (by rfl) T.str (by decide +kernel) rfl) pa_nil))) (pe_callB call_isi (by rfl) T.isinstance (by decide +kernel) (pa_cons (pv 1) (pa_cons (pe_bltn (v := .ty "str") (u := .type "str") (by rfl) T.str (by decide +kernel) rfl) pa_nil))) (nomark _))))))
        pss_nil)
      (pss_one (ps_ret (pe_and (pe_callB call_isi (by rfl) T.isinstance (by decide +kernel) (pa_cons (pv 0) (pa_cons (pe_bltn (v := .ty "int") (u := .type "int") (by rfl) T.int (by decide +kernel) rfl) pa_nil))) (pe_and (pe_cmpR op_eq (pe_callB call_isi (by rfl) T.isinstance (by decide +kernel) (pa_cons (pv 0) (pa_cons (pe_bltn (v := .ty "bool") (u := .type "bool") (by rfl) T.bool (by decide +kernel) rfl) pa_nil))) (pe_callB call_isi (by rfl) T.isinstance (by decide +kernel) (pa_cons (pv 1) (pa_cons (pe_bltn (v := .ty "bool") (u := .type "bool") (by rfl) T.bool (by decide +kernel) rfl) pa_nil))) (nomark _)) (pe_one (pe_cmpR op_eq (pv 0) (pv 1) (nomark _))))))))), ?_⟩
      refine ⟨_, rfl, (by show 2 ≤ sizeLine; decide), fun T1 nT1 => ?_⟩
      have s1 : Same H (upd H T1 (.tup [.ty "list", .ty "tuple"])) := sNew nT1
      have eT : (upd H T1 (.tup [.ty "list", .ty "tuple"])) T1 = some (.tup [.ty "list", .ty "tuple"]) := upd_same
      revert s1 eT
      generalize upd H T1 (.tup [.ty "list", .ty "tuple"]) = H1
      intro s1 eT
      rcases h with (⟨rfl, rfl⟩ | ⟨i, rfl, rfl⟩ | ⟨z, rfl, rfl⟩) | ⟨a, c, xs, ys, rfl, rfl, ha, hc, hl, hp⟩
      · refine ⟨_, T1, _, _, [.type "list", .type "tuple"], false, rfl, eT, .cons (.ty _) (.cons (.ty _) .nil), .base .non, kitNo (by decide +kernel) (by decide +kernel), _, rfl, iteF ?_⟩
        refine ⟨_, rfl, rfl, _, rfl, eqT ⟨_, rfl, _, rfl, rfl, _, rfl, ?_⟩⟩
        refine ⟨_, rfl, _, _, _, _, false, rfl, .ty _, .base .non, kit_ty (by decide +kernel), _, rfl, _, _, _, _, false, rfl, .ty _, .base .non, kit_ty (by decide +kernel), rfl, ?_⟩
        exact k _ s1
      · refine ⟨_, T1, _, _, [.type "list", .type "tuple"], false, rfl, eT, .cons (.ty _) (.cons (.ty _) .nil), .base (.int _), kitNo (by decide +kernel) (by decide +kernel), _, rfl, iteF ?_⟩
        refine ⟨_, rfl, rfl, _, rfl, eqF (fun z => by cases z) ⟨_, rfl, _, _, _, _, false, rfl, .ty _, .base (.int _), kit_ty (by decide +kernel), _, rfl, ?_⟩⟩
        refine iteF ?_
        refine ⟨_, rfl, _, _, _, _, true, rfl, .ty _, .base (.int _), kit_ty (by decide +kernel), _, rfl, iteT ?_⟩
        refine ⟨_, rfl, _, _, _, _, false, rfl, .ty _, .base (.int _), kit_ty (by decide +kernel), _, rfl, _, _, _, _, false, rfl, .ty _, .base (.int _), kit_ty (by decide +kernel), rfl, ?_⟩
        refine ⟨_, rfl, iteT ⟨_, rfl, _, rfl, rfl, ?_⟩⟩
        rw [decide_eq_true rfl]
        exact k _ s1
      · refine ⟨_, T1, _, _, [.type "list", .type "tuple"], false, rfl, eT, .cons (.ty _) (.cons (.ty _) .nil), .base (.str _), kitNo (by decide +kernel) (by decide +kernel), _, rfl, iteF ?_⟩
        refine ⟨_, rfl, rfl, _, rfl, eqF (fun z => by cases z) ⟨_, rfl, _, _, _, _, true, rfl, .ty _, .base (.str _), kit_ty (by decide +kernel), _, rfl, ?_⟩⟩
        refine iteT ⟨_, rfl, _, rfl, rfl, _, rfl, ?_⟩
        rw [if_pos (decide_eq_true rfl)]
        refine ⟨_, rfl, _, _, _, _, true, rfl, .ty _, .base (.str _), kit_ty (by decide +kernel), _, rfl, _, _, _, _, true, rfl, .ty _, .base (.str _), kit_ty (by decide +kernel), rfl, ?_⟩
        exact k _ s1
      · refine ⟨_, T1, _, _, [.type "list", .type "tuple"], true, rfl, eT, .cons (.ty _) (.cons (.ty _) .nil), TyX.of (s1 _ _ hc), kitYes b, _, rfl, iteT ?_⟩
        have ha1 := s1 _ _ ha
        have hc1 := s1 _ _ hc
        refine ⟨_, rfl, _, _, _, _, b, rfl, .ty _, TyX.of ha1, kitL b, _, rfl, _, _, _, _, b, rfl, .ty _, TyX.of hc1, kitL b, rfl, _, rfl, neT ?_⟩
        refine ⟨_, rfl, _, _, _, _, !b, rfl, .ty _, TyX.of ha1, kitT b, _, rfl, _, _, _, _, !b, rfl, .ty _, TyX.of hc1, kitT b, rfl, _, rfl, neT ?_⟩
        have hlen : xs.length = ys.length := hp.length
        have sq1 : SqL K H1 a xs ∨ SqT K H1 a xs := by
          cases b
          · exact .inr (SqT.of ha1)
          · exact .inl (SqL.of ha1)
        have sq2 : SqL K H1 c ys ∨ SqT K H1 c ys := by
          cases b
          · exact .inr (SqT.of hc1)
          · exact .inl (SqL.of hc1)
        refine ⟨_, rfl, a, xs, rfl, sq1, _, rfl, c, ys, rfl, sq2, rfl, _, rfl, ?_⟩
        rw [hlen]
        refine neT ?_
        refine ⟨_, rfl, _, rfl, a, c, xs, ys, rfl, sqB_of ha1, sqB_of hc1, fun D nD => lc_zipB (la := b) (lc := b) (xs := xs) (ys := ys) hlen (Made (fun j _ v => v = .bl true) H1 D) (made0 nD) (fun i H2 p => ⟨sqB_of (b := b) (p.1 _ _ ha1), sqB_of (b := b) (p.1 _ _ hc1)⟩) (fun i x y U H2 hx hy p nU => ?_) (fun H2 p => ?_)⟩
        · obtain ⟨y', hy', hxy⟩ := paired_to hp hx
          rw [hy] at hy'
          cases hy'
          have s2 : Same H (upd H2 U (.tup [x, y])) := s1.trans (p.1.trans (sNew nU))
          refine ⟨U, _, rfl, SqT.of upd_same, rfl, _, _, rfl, _, _, rfl, rfl, rfl, ?_⟩
          refine ⟨_, rfl, _, rfl, x, y, rfl, hxy.same s2, fun H3 s3 => ?_⟩
          have hi : i < sizeLine := by
            have h1 : i < xs.length := (List.getElem?_eq_some_iff.mp hx).1
            omega
          exact made_step (fun _ _ _ _ _ q => q) nD hi p ((sNew nU).trans s3) rfl
        · obtain ⟨s2, acc, hD, hal, hacc⟩ := p
          have e : acc = (List.replicate acc.length true).map V.bl := by
            rw [List.map_replicate]
            refine List.eq_replicate_iff.mpr ⟨rfl, fun v hv => ?_⟩
            obtain ⟨j, hj⟩ := List.getElem?_of_mem hv
            exact hacc j v hj
          rw [e] at hD
          refine ⟨D, _, rfl, SqL.of hD, ?_⟩
          have e2 : (List.replicate acc.length true).all id = true := by
            rw [List.all_eq_true]
            intro x hx
            rw [(List.mem_replicate.mp hx).2]
            rfl
          rw [e2]
          exact k _ (s1.trans s2)
end
end Sk
set_option Elab.async false
set_option linter.all false
set_option maxRecDepth 100000
namespace Sk
open PySem PySem.Spec PyProof.Rows L2 Sl Bf Zs Sr Dc2 Nd
theorem told_few {A B : List Ru} {L : List Le} {w : List Nat} (hA : Pol A) (hB : Pol B) (h : Told A B L (some w)) : w.length ≤ 4225 := by
  obtain ⟨i, hl, hs, hr⟩ := h
  have hi := (live_few hA hB hl).1
  cases e : (knQ A B L i)[i]? with
  | none =>
    have hr : some w = ((knQ A B L i)[i]?).map (·.2) := hr
    rw [e] at hr
    cases hr
  | some x =>
    have hr : some w = ((knQ A B L i)[i]?).map (·.2) := hr
    rw [e] at hr
    cases hr
    have h2 : x.2.length ≤ i := kns_long (stepD A B L) L.length (firstQ A B) i _ (List.mem_of_getElem? e)
    exact Nat.le_trans h2 hi
theorem row_sam {H : Hp} {l : Le} {x y : V} (h1 : RowV H l x) (h2 : RowV H l y) : SamV 2 H x y := by
  obtain ⟨a, rfl, h1⟩ := h1
  obtain ⟨c, rfl, h2⟩ := h2
  have fl : ∀ {u : V}, flatV2 u u → SamV 1 H u u := fun h => .inl h
  exact .inr ⟨false, a, c, _, _, rfl, rfl, h1, h2, (by show 4 < sizeLine; decide), .cons (fl (.inr (.inl ⟨_, rfl, rfl⟩))) (.cons (fl (.inr (.inr ⟨_, rfl, rfl⟩))) (.cons (fl (.inr (.inr ⟨_, rfl, rfl⟩))) (.cons (fl (.inr (.inl ⟨_, rfl, rfl⟩))) .nil)))⟩
theorem rows_sam {H : Hp} : ∀ {u : List Le} {xs ys : List V}, Paired (RowV H) u xs → Paired (RowV H) u ys → Paired (SamV 2 H) xs ys
  | _, _, _, .nil, .nil => .nil
  | _, _, _, .cons r t, .cons r' t' => .cons (row_sam r r') (rows_sam t t')
theorem res_sam {H : Hp} {L : List Le} {r : Option (List Nat)} {x y : V} (hf : ∀ w, r = some w → w.length ≤ 4225) (h1 : ResV H L r x) (h2 : ResV H L r y) : SamV 3 H x y := by
  cases r with
  | none =>
    have h1 : x = .non := h1
    have h2 : y = .non := h2
    exact .inl (.inl ⟨h1, h2⟩)
  | some w =>
    obtain ⟨a, rfl, us, h1, p1⟩ := h1
    obtain ⟨c, rfl, vs, h2, p2⟩ := h2
    have e1 := p1.length
    have := spell_len L w
    have := hf w rfl
    exact .inr ⟨true, a, c, us, vs, rfl, rfl, h1, h2, Nat.lt_of_le_of_lt (show us.length ≤ 4225 by omega) (by decide), rows_sam p1 p2⟩
theorem iteNe {A : Prop} {x : V} (h : A) : if (!decide (x = x)) = true then False else A := neT h
abbrev s_law_right : Stmt := top 49
abbrev N_law_right : List Str := ["_law_one", "_law_two", "_law_again", "_law_kept", "_law_due", "_law_found"]
theorem sc_law_right : FnScope N_law_right ["_law_one", "_law_two", "_law_again"] (defScope s_law_right) := ⟨rfl, rfl, rfl, by decide +kernel, rfl, by decide +kernel, by decide +kernel⟩
-- slots: 0 _law_one, 1 _law_two, 2 _law_again, 3 _law_kept, 4 _law_due, 5 _law_found
def sp_law_right : Sp := fun vs H Q _ => ∃ (A B : List Ru) (q1 q2 : Addr) (b : Bool), vs = [.ref q1, .ref q2, .bl b] ∧ RulesAt H q1 A ∧ RulesAt H q2 B ∧ A.length ≤ 3 ∧ B.length ≤ 3 ∧ (∀ r, r ∈ A → RuleOk r) ∧ (∀ r, r ∈ B → RuleOk r) ∧ ∀ H', Same H H' → Q (.bl true) H'
section
variable {P : Program} {w : World} {K : PySem.W.Frag} {mg : Str → Option Value} {base : Heap}
theorem two_dok {A B : List Ru} (lA : A.length ≤ 3) (lB : B.length ≤ 3) (oA : ∀ r, r ∈ A → RuleOk r) (oB : ∀ r, r ∈ B → RuleOk r) : DOk 4 7621 (.list [.list (A.map datR), .list (B.map datR)]) :=
  dok_lst (k := 2) (n := 3) (b := 3807) (fun d hd => by
    simp only [List.mem_cons, List.not_mem_nil, or_false] at hd
    rcases hd with rfl | rfl
    · exact dok_rules oA lA
    · exact dok_rules oB lB) (lle rfl)
theorem ok_law_right {f : Addr} {fd : FuncData} (F : Fun K "_law_right" "_law_right" s_law_right f fd) (T : Top K mg) (C_law_pairs : Cal P w K mg base 3 "_law_pairs" ["_law_one", "_law_two"] sp_law_pairs) (C_parted : Cal P w K mg base 6 "parted" ["policy", "other"] sp_parted)
    (C_law_same : Cal P w K mg base 3 "_law_same" ["_law_found", "_law_due"] (sp_same 3)) (C_law_fits_one : Cal P w K mg base 3 "_law_fits_one" ["_law_one", "_law_two", "_law_rows"] sp_law_fits_one) (C_law_none_ahead : Cal P w K mg base 4 "_law_none_ahead" ["_law_one", "_law_two", "_law_found"] sp_law_none_ahead) :
    Rp.FnG P w K mg base CX0 7 f fd ["_law_one", "_law_two", "_law_again"] sp_law_right := by
  refine Rp.okG F sc_law_right (fun vs H Q E h => ?_) (fun cdv A outer s H vs Q E hgd hr h => ?_)
  · obtain ⟨A, B, q1, q2, b, rfl, _⟩ := h
    rfl
  · obtain ⟨R, B, q1, q2, b, rfl, r1, r2, lA, lB, oA, oB, k⟩ := h
    refine ⟨_, (pss_cons (ps_par (i := 3) (j := 4) (by rfl) sc_law_right.nd rfl rfl (by decide) rfl rfl (pa_cons (pe_callB (Rp.cr_repr hgd hr.units) (by rfl) T.repr (by decide +kernel) (pa_cons (pe_lst (pa_cons (pv 0) (pa_cons (pv 1) pa_nil))) pa_nil)) (pa_cons (pe_ix ix_tup (pe_cal C_law_pairs (hr.mono (by decide)) rfl (pa_cons (pv 0) (pa_cons (pv 1) pa_nil))) pe_int (fun _ _ => rfl)) pa_nil)) (by rfl))
      (pss_cons (ps_set (i := 5) sc_law_right.nd rfl (Or.inl rfl) (pe_cal C_parted (hr.mono (by decide)) rfl (pa_cons (pv 0) (pa_cons (pv 1) pa_nil))))
      (pss_cons (ps_if (PW.pt (pw_or (pt_not (pt_val (pe_cal C_law_same (hr.mono (by decide)) rfl (pa_cons (pv 5) (pa_cons (pv 4) pa_nil))))) (pw_or1 (pt_cmpR op_ne (pe_callB (Rp.cr_repr hgd hr.units) (by rfl) T.repr (by decide +kernel) (pa_cons (pe_lst (pa_cons (pv 0) (pa_cons (pv 1) pa_nil))) pa_nil)) (pv 3) (nomark _)))))
        (pss_one (ps_ret pe_bl))
        pss_nil)
      (pss_cons (ps_if (PW.pt (pw_or (PW.pt (pw_and (pt_cmpR op_notN (pv 5) pe_non (nomark _)) (pw_and1 (pt_not (pt_val (pe_cal C_law_fits_one (hr.mono (by decide)) rfl (pa_cons (pv 0) (pa_cons (pv 1) (pa_cons (pv 5) pa_nil))))))))) (pw_or1 (pt_not (pt_val (pe_cal C_law_none_ahead (hr.mono (by decide)) rfl (pa_cons (pv 0) (pa_cons (pv 1) (pa_cons (pv 5) pa_nil)))))))))
        (pss_one (ps_ret pe_bl))
        pss_nil)
      (pss_one (ps_ret (pe_or (pe_not (pv 2)) (pe_one (pe_and (pe_cal C_law_same (hr.mono (by decide)) rfl (pa_cons (pe_cal C_parted (hr.mono (by decide)) rfl (pa_cons (pe_callTy call_tuple_of (by rfl) T.tuple (by decide +kernel) (pa_cons (pv 1) pa_nil)) (pa_cons (pe_callTy call_tuple_of (by rfl) T.tuple (by decide +kernel) (pa_cons (pv 0) pa_nil)) pa_nil))) (pa_cons (pv 4) pa_nil))) (pe_one (pe_cmpR op_isN (pe_cal C_parted (hr.mono (by decide)) rfl (pa_cons (pv 0) (pa_cons (pe_callTy call_list_of (by rfl) T.list (by decide +kernel) (pa_cons (pv 0) pa_nil)) pa_nil))) pe_non (nomark _)))))))))))), ?_⟩
    have D := two_dok lA lB oA oB
    have dp : ∀ {H' : Hp} {l : Addr}, Same H H' → H' l = some (.lst [.ref q1, .ref q2]) → Dp K H' (.ref l) (.list [.list (R.map datR), .list (B.map datR)]) := fun {H' l} s e => by
      obtain ⟨rs1, h1, p1⟩ := r1.same s
      obtain ⟨rs2, h2, p2⟩ := r2.same s
      exact .lst (SqL.of e) (.cons (.lst (SqL.of h1) (dp_rules p1)) (.cons (.lst (SqL.of h2) (dp_rules p2)) .nil))
    have dlen : (PyData.list [.list (R.map datR), .list (B.map datR)]).shown.length ≤ sizeLine := Nat.le_trans D.len (by decide)
    have ddep : (PyData.list [.list (R.map datR), .list (B.map datR)]).depth ≤ 50 := Nat.le_trans D.dep (by decide)
    have dnod := PyData.hasDict_of_canLay _ D.can
    refine ⟨_, rfl, _, rfl, (by show 2 ≤ sizeLine; decide), fun l nl => ⟨l, _, rfl, dp (sNew nl) upd_same, D.sho, dnod, ddep, dlen, ?_⟩⟩
    have s1 : Same H (upd H l (.lst [.ref q1, .ref q2])) := sNew nl
    revert s1
    generalize upd H l (.lst [.ref q1, .ref q2]) = H1
    intro s1
    refine ⟨_, rfl, _, rfl, R, B, q1, q2, rfl, r1.same s1, r2.same s1, lA, lB, oA, oB, fun H2 t d z L r s2 hL hT hR ht => ⟨t, _, ((1 : Nat) : Int), z, rfl, rfl, SqT.of ht, atI_nat (j := 1) rfl, ?_⟩⟩
    have few : ∀ w, r = some w → w.length ≤ 4225 := fun w e => told_few (polOk oA lA) (polOk oB lB) (by rw [← e]; exact hT)
    have oR : ∀ r, r ∈ R ++ B → RuleOk r := fun r h => (List.mem_append.mp h).elim (oA r) (oB r)
    have hLo := hL.ok oR
    have s02 := s1.trans s2
    refine ⟨_, _, rfl, ?_⟩
    refine ⟨_, rfl, _, rfl, R, B, true, true, q1, q2, rfl, r1.same s02, r2.same s02, lA, lB, oA, oB, fun H3 z3 L3 r3 s3 hL3 hT3 hR3 => ?_⟩
    have eL := hL3.unique (fun _ => Iff.rfl) hL
    subst eL
    have er := hT3.unique hT
    subst er
    have s03 := s02.trans s3
    refine ⟨_, rfl, _, rfl, z3, z, rfl, res_sam few hR3 (hR.same s3), fun H4 s4 => ⟨_, rfl, ?_⟩⟩
    have s04 := s03.trans s4
    refine iteF ?_
    refine ⟨_, rfl, _, rfl, (by show 2 ≤ sizeLine; decide), fun l2 nl2 => ⟨l2, _, rfl, dp (s04.trans (sNew nl2)) upd_same, D.sho, dnod, ddep, dlen, _, rfl, rfl, _, rfl, neT ?_⟩⟩
    have s05 := s04.trans (sNew (o := .lst [.ref q1, .ref q2]) nl2)
    have hF5 := hR3.same (s4.trans (sNew (o := .lst [.ref q1, .ref q2]) nl2))
    have hD5 := hR.same (s3.trans (s4.trans (sNew (o := .lst [.ref q1, .ref q2]) nl2)))
    revert s05 hF5 hD5
    generalize upd H4 l2 (.lst [.ref q1, .ref q2]) = H5
    intro s05 hF5 hD5
    generalize er : r3 = r0 at hT hF5 hD5
    cases r0
    case' none =>
      have e : z3 = .non := hF5
      subst e
      refine ⟨_, rfl, rfl, _, rfl, neT ?_⟩
      refine ⟨_, rfl, _, rfl, _, rfl, R, B, L3, none, q1, q2, .non, rfl, r1.same s05, r2.same s05, lA, lB, oA, oB, hL, hT, rfl, fun H6 s6 => ⟨_, rfl, iteF ?_⟩⟩
      have s07 : Same H5 H6 := s6
    case' some u =>
      obtain ⟨hdg, hbad, _⟩ := Res.some_right hT
      have hpt : parts R B (spell L3 u) = true := by
        rw [← differs_run R B L3 hdg]
        exact hbad
      have hul := few u er
      have hus := spell_len L3 u
      obtain ⟨a, rfl, hlog⟩ := id hF5
      refine ⟨_, rfl, rfl, _, rfl, neF (fun z => by cases z) ?_⟩
      refine ⟨_, rfl, _, rfl, _, rfl, R, B, spell L3 u, q1, q2, a, rfl, r1.same s05, r2.same s05, hlog, oA, oB, fun l hl => hLo l (spell_mem hl), by omega, fun H6a s6a => ⟨_, rfl, ?_⟩⟩
      rw [hpt]
      refine iteF ?_
      refine ⟨_, rfl, _, rfl, _, rfl, R, B, L3, some u, q1, q2, .ref a, rfl, r1.same (s05.trans s6a), r2.same (s05.trans s6a), lA, lB, oA, oB, hL, hT, hF5.same s6a, fun H6 s6 => ⟨_, rfl, iteF ?_⟩⟩
      have s07 : Same H5 H6 := s6a.trans s6
    all_goals
      have s06 := s05.trans s07
      have hD6 := hD5.same s07
      refine ⟨_, rfl, _, rfl, _, rfl, ?_⟩
      cases b with
      | false => exact iteT (k _ s06)
      | true =>
        refine iteF ?_
        obtain ⟨rs2, h2, p2⟩ := r2.same s06
        refine ⟨_, rfl, q2, rs2, rfl, .inl ⟨SqL.of h2, fun t2 nt2 => ?_⟩⟩
        have s67 : Same H6 (upd H6 t2 (.tup rs2)) := sNew nt2
        have et2 : (upd H6 t2 (.tup rs2)) t2 = some (.tup rs2) := upd_same
        revert s67 et2
        generalize upd H6 t2 (.tup rs2) = H7
        intro s67 et2
        obtain ⟨rs1, h1, p1⟩ := r1.same (s06.trans s67)
        refine ⟨_, rfl, q1, rs1, rfl, .inl ⟨SqL.of h1, fun t1 nt1 => ?_⟩⟩
        have s78 : Same H7 (upd H7 t1 (.tup rs1)) := sNew nt1
        have et1 : (upd H7 t1 (.tup rs1)) t1 = some (.tup rs1) := upd_same
        revert s78 et1
        generalize upd H7 t1 (.tup rs1) = H8
        intro s78 et1
        refine ⟨B, R, false, false, t2, t1, rfl, ⟨rs2, s78 _ _ et2, rulesSame p2 (tOf (s67.trans s78))⟩, ⟨rs1, et1, rulesSame p1 (tOf s78)⟩, lB, lA, oB, oA, fun H9 z9 L9 r9 s9 hL9 hT9 hR9 => ?_⟩
        have eL9 : L9 = L3 := hL9.unique (fun x => by rw [List.mem_append, List.mem_append]; exact or_comm) hL
        subst eL9
        have er9 := (hT9.swap).unique hT
        rw [er9] at hR9
        have s69 : Same H6 H9 := s67.trans (s78.trans s9)
        refine ⟨_, rfl, z9, z, rfl, res_sam (fun u e => few u (er.trans e)) hR9 (hD6.same s69), fun H10 s10 => ⟨_, rfl, iteT ?_⟩⟩
        have s010 := s06.trans (s69.trans s10)
        obtain ⟨rs1', h1', p1'⟩ := r1.same s010
        refine ⟨_, rfl, _, rfl, q1, rs1', rfl, .inl (SqL.of h1'), fun t3 nt3 => ?_⟩
        have s11 := s010.trans (sNew (o := .lst rs1') nt3)
        refine ⟨R, R, true, true, q1, t3, rfl, r1.same s11, ⟨rs1', upd_same, rulesSame p1' (tNew nt3)⟩, lA, lA, oA, oA, fun H12 z12 L12 r12 s12 hL12 hT12 hR12 => ?_⟩
        have e12 := hT12.self
        subst e12
        have e12 : z12 = .non := hR12
        subst e12
        refine ⟨rfl, ?_⟩
        exact k _ (s11.trans s12)
end
end Sk
set_option Elab.async false
set_option linter.all false
set_option maxRecDepth 100000
namespace Sk
open PySem PySem.Spec PyProof.Rows L2 Sl Bf Zs Sr Dc2 Nd
theorem sqSame {K : PySem.W.Frag} {H H' : Hp} {a : Addr} {xs : List V} (h : SqL K H a xs) (s : Same H H') : SqL K H' a xs := by
  rcases h with (h | ⟨ob, h⟩) | h
  · exact .inl (.inl (s _ _ h))
  · exact .inl (.inr ⟨ob, s _ _ h⟩)
  · exact .inr h
theorem BoxAt.fresh {H0 H H' : Hp} {b : Addr} (nb : H0 b = none) (s : Same H0 H) (x : SameX b H H') : Same H0 H' := fun c o e => x c o (s c o e) (ne_of_none e nb)
abbrev s_law : Stmt := top 50
abbrev N_law : List Str := ["_law_script", "_law_k", "_law_box_here", "_law_names_here", "_law_cap", "_law_one", "_law_two"]
theorem sc_law : FnScope N_law ["_law_script"] (defScope s_law) := ⟨rfl, rfl, rfl, by decide +kernel, rfl, by decide +kernel, by decide +kernel⟩
-- slots: 0 _law_script, 1 _law_k, 2 _law_box_here, 3 _law_names_here, 4 _law_cap, 5 _law_one, 6 _law_two
def sp_law (K : PySem.W.Frag) : Sp := fun vs H Q _ => ∃ (a : Addr) (ns : List Int), vs = [.ref a] ∧ SqL K H a (ns.map V.int) ∧ ns.length ≤ 63 ∧ ∀ H', Q (.bl true) H'
section
variable {P : Program} {w : World} {K : PySem.W.Frag} {mg : Str → Option Value} {base : Heap}
theorem ok_law {f fR : Addr} {fd fdR : FuncData} (F : Fun K "law" "law" s_law f fd) (T : Top K mg) (C_law_box : Cal P w K mg base 1 "_law_box" ["_law_script", "_law_k"] (sp_law_box K)) (C_law_take : Cal P w K mg base 1 "_law_take" ["_law_box_here", "_law_size"] sp_law_take) (C_law_names : Cal P w K mg base 2 "_law_names" ["_law_box_here", "_law_size"] sp_law_names)
    (C_law_first_names : Cal P w K mg base 2 "_law_first_names" ["_law_box_here", "_law_names_here"] sp_law_first_names) (C_law_few_rules : Cal P w K mg base 4 "_law_few_rules" ["_law_box_here", "_law_names_here", "_law_count", "_law_cap"] sp_law_few_rules) (C_law_like : Cal P w K mg base 4 "_law_like" ["_law_box_here", "_law_rules", "_law_names_here"] sp_law_like)
    (C_law_of_four : Cal P w K mg base 3 "_law_of_four" ["_law_box_here"] sp_law_of_four) (FR : Rp.FnG P w K mg base CX0 7 fR fdR ["_law_one", "_law_two", "_law_again"] sp_law_right) (mR : mg "_law_right" = some (.ref fR)) (kR : PySem.W.keepIn K (.ref fR) = true) (bR : Binds K fdR ["_law_one", "_law_two", "_law_again"] []) :
    Rp.FnG P w K mg base CX0 8 f fd ["_law_script"] (sp_law K) := by
  refine Rp.okG F sc_law (fun vs H Q E h => ?_) (fun cdv A outer s H vs Q E hgd hr h => ?_)
  · obtain ⟨a, ns, rfl, _⟩ := h
    rfl
  · obtain ⟨a, ns, rfl, hS, hn, k⟩ := h
    refine ⟨_, (pss_cons (ps_for PassesOwn.never rfl (pi_range1 (by rfl) T.range (pa_cons (pe_op op_add pe_int (pe_callB (call_min2 rfl) (by rfl) T.min (by decide +kernel) (pa_cons pe_int (pa_cons (pe_callB call_len_seq (by rfl) T.len (by decide +kernel) (pa_cons (pv 0) pa_nil)) pa_nil)))) pa_nil)) (pg_name (i := 1) sc_law.nd rfl (Or.inl rfl))
        (pss_cons (ps_set (i := 2) sc_law.nd rfl (Or.inl rfl) (pe_cal C_law_box (hr.mono (by decide)) rfl (pa_cons (pv 0) (pa_cons (pv 1) pa_nil))))
        (pss_cons (ps_par (i := 3) (j := 4) (by rfl) sc_law.nd rfl rfl (by decide) rfl rfl (pa_cons (pe_cal C_law_first_names (hr.mono (by decide)) rfl (pa_cons (pv 2) (pa_cons (pe_cal C_law_names (hr.mono (by decide)) rfl (pa_cons (pv 2) (pa_cons (pe_op op_add pe_int (pe_cal C_law_take (hr.mono (by decide)) rfl (pa_cons (pv 2) (pa_cons pe_int pa_nil)))) pa_nil))) pa_nil))) (pa_cons (pe_ix ix_list (pe_lst (pa_cons pe_int (pa_cons pe_int pa_nil))) (pe_callTy call_int1 (by rfl) T.int (by decide +kernel) (pa_cons (pe_cmpR op_gt (pv 1) pe_int (nomark _)) pa_nil)) (fun _ _ => rfl)) pa_nil)) (by rfl))
        (pss_cons (ps_par (i := 5) (j := 6) (by rfl) sc_law.nd rfl rfl (by decide) rfl rfl (pa_cons (pe_cal C_law_few_rules (hr.mono (by decide)) rfl (pa_cons (pv 2) (pa_cons (pv 3) (pa_cons pe_int (pa_cons (pv 4) pa_nil))))) (pa_cons (pe_cal C_law_few_rules (hr.mono (by decide)) rfl (pa_cons (pv 2) (pa_cons (pv 3) (pa_cons pe_int (pa_cons (pv 4) pa_nil))))) pa_nil)) (by rfl))
        (pss_cons (ps_if (pt_cmpR op_eq (pe_cal C_law_take (hr.mono (by decide)) rfl (pa_cons (pv 2) (pa_cons pe_int pa_nil))) pe_int (nomark _))
          (pss_one (ps_asg (pe_cal C_law_like (hr.mono (by decide)) rfl (pa_cons (pv 2) (pa_cons (pv 5) (pa_cons (pv 3) pa_nil)))) (pg_unl rfl (pgs_cons (pg_name (i := 5) sc_law.nd rfl (Or.inl rfl)) (pgs_cons (pg_name (i := 6) sc_law.nd rfl (Or.inl rfl)) pgs_nil)))))
          pss_nil)
        (pss_cons (ps_if (pt_cmpR op_eq (pe_cal C_law_take (hr.mono (by decide)) rfl (pa_cons (pv 2) (pa_cons pe_int pa_nil))) pe_int (nomark _))
          (pss_one (ps_asg (pe_cal C_law_of_four (hr.mono (by decide)) rfl (pa_cons (pv 2) pa_nil)) (pg_unl rfl (pgs_cons (pg_name (i := 5) sc_law.nd rfl (Or.inl rfl)) (pgs_cons (pg_name (i := 6) sc_law.nd rfl (Or.inl rfl)) pgs_nil)))))
          pss_nil)
        (pss_one (ps_if (pt_not (pt_val (Rp.pe_callG FR hgd (hr.mono (by decide)) rfl mR kR bR (pa_cons (pv 5) (pa_cons (pv 6) (pa_cons (pe_cmpR op_gt (pv 1) pe_int (nomark _)) pa_nil))))))
          (pss_one (ps_ret pe_bl))
          pss_nil))))))))
      (pss_one (ps_ret pe_bl))), ?_⟩
    refine ⟨_, rfl, a, _, rfl, .inl hS, _, _, rfl, ?_⟩
    refine ⟨_, _, rfl, rfl, _, rfl, ?_, ?_, for_range (lo := 0) (n := _) (fun i σ H2 => Same H H2 ∧ ∃ x1 x2 x3 x4 x5 x6, σ = [some (.ref a), x1, x2, x3, x4, x5, x6]) ⟨Same.refl _, _, _, _, _, _, _, rfl⟩ (fun i σ H2 hi p => ?_) (fun σ H2 p => k _)⟩
    · rw [List.length_map]; split <;> omega
    · rw [List.length_map]; split <;> omega
    · obtain ⟨s2, x1, x2, x3, x4, x5, x6, rfl⟩ := p
      have hi3 : i ≤ 3 := by
        rw [List.length_map] at hi
        split at hi <;> omega
      refine ⟨_, rfl, _, rfl, a, ns, i, by rw [Int.zero_add]; rfl, sqSame hS s2, by omega, fun H3 b s3 nb hB3 => ?_⟩
      refine ⟨_, rfl, _, rfl, _, rfl, b, 0, 2, rfl, hB3, by omega, by decide, by decide, fun H4 r4 s4 hB4 r41 r42 => ?_⟩
      obtain ⟨m4, em4, hm4⟩ : ∃ m : Nat, 2 + r4 = (m : Int) ∧ m = 2 + r4.toNat := ⟨2 + r4.toNat, by omega, rfl⟩
      refine ⟨_, _, rfl, rfl, b, 1, m4, by show [V.ref b, V.int (2 + r4)] = _; rw [em4], hB4, by omega, by omega, fun H5 p5 nms s5 hB5 np5 hp5 hl5 ok5 => ?_⟩
      refine ⟨b, p5, 11, nms, rfl, hB5, by omega, hp5, (hB4.ne np5).symm, by omega, by omega, ok5, fun H6 p6 ms s6 hB6 ne6 hp6 l61 l62 ok6 => ?_⟩
      have s36 : SameX b H3 H6 := s4.trans (s5.trans s6)
      refine ⟨(by show 2 ≤ sizeLine; decide), fun l nl => ?_⟩
      have f7 : Same H6 (upd H6 l (.lst [.int 3, .int 2])) := sNew nl
      have hl7 : (upd H6 l (.lst [.int 3, .int 2])) l = some (.lst [.int 3, .int 2]) := upd_same
      have hB7 : BoxAt (upd H6 l (.lst [.int 3, .int 2])) b 20 := (hB6.same f7).mono (by omega)
      have hp7 := f7 _ _ hp6
      have s37 : SameX b H3 (upd H6 l (.lst [.int 3, .int 2])) := s36.trans (xOf f7)
      revert hl7 hB7 hp7 s37
      clear f7
      generalize upd H6 l (.lst [.int 3, .int 2]) = H7
      intro hl7 hB7 hp7 s37
      obtain ⟨j, hj⟩ : ∃ j : Nat, (if decide ((0 : Int) + (i : Int) > 0) = true then 1 else 0 : Int) = (j : Int) ∧ j ≤ 1 := by
        by_cases z : (0 : Int) + (i : Int) > 0
        · exact ⟨1, by rw [if_pos (decide_eq_true z)]; rfl, Nat.le_refl _⟩
        · exact ⟨0, by rw [if_neg fun q => z (of_decide_eq_true q)]; rfl, Nat.zero_le _⟩
      obtain ⟨m, hm, hm3⟩ : ∃ m : Nat, ([.int 3, .int 2] : List V)[j]? = some (.int (m : Int)) ∧ m ≤ 3 := by
        have : j = 0 ∨ j = 1 := by omega
        rcases this with rfl | rfl
        · exact ⟨3, rfl, by omega⟩
        · exact ⟨2, rfl, by omega⟩
      refine ⟨_, rfl, _, _, rfl, rfl, .inr ⟨_, rfl, l, _, _, .int (m : Int), rfl, rfl, SqL.of hl7, (by rw [hj.1]; exact atI_nat hm), ?_⟩⟩
      refine ⟨_, _, rfl, ?_⟩
      refine ⟨_, rfl, _, rfl, _, rfl, b, p6, 20, 3, m, ms, rfl, hB7, by omega, hp7, ne6, l61, l62, ok6, by omega, hm3, fun H9 o1 A1 s9 hB9 no1 g1 l1 ok1 => ?_⟩
      have ne1 : o1 ≠ b := (hB7.ne no1).symm
      have hp9 := s9 _ _ hp7 ne6
      refine ⟨_, rfl, _, rfl, _, rfl, b, p6, 70, 3, m, ms, rfl, hB9, by omega, hp9, ne6, l61, l62, ok6, by omega, hm3, fun H10 o2 A2 s10 hB10 no2 g2 l2 ok2 => ?_⟩
      have ne2 : o2 ≠ b := (hB9.ne no2).symm
      have g1 := RulesAt.sameX g1 s10 hB9 ne1
      have hp10 := s10 _ _ hp9 ne6
      have s310 : SameX b H3 H10 := s37.trans (s9.trans s10)
      refine ⟨_, _, rfl, ?_⟩
      refine ⟨_, rfl, b, 120, 2, rfl, hB10, by omega, by decide, by decide, fun H11 r11 s11 hB11 r111 r112 => ⟨rfl, _, rfl, iteD (intD _ _) (ite2 (fun c => ?_) (fun c => ?_))⟩⟩
      case' refine_1 =>
        refine ⟨_, rfl, _, rfl, _, rfl, b, o1, p6, 121, A1, ms, rfl, hB11, by omega, s11 _ _ hp10 ne6, ne6, l61, l62, ok6, g1.sameX s11 hB10 ne1, ne1, l1, ok1, fun H12 u o1 o2 A1 A2 s12 hB12 hu g1 g2 l1 l2 ok1 ok2 ne1 ne2 => ⟨u, _, rfl, SqL.of hu, rfl, _, _, rfl, _, _, rfl, rfl, ?_⟩⟩
        have s312 : SameX b H3 H12 := s310.trans (s11.trans s12)
        have hB12 : BoxAt H12 b 200 := hB12.mono (by omega)
      case' refine_2 =>
        have g1 := g1.sameX s11 hB10 ne1
        have g2 := g2.sameX s11 hB10 ne2
        obtain ⟨H12, e12⟩ : ∃ H12, H12 = H11 := ⟨_, rfl⟩
        subst e12
        have s312 : SameX b H3 H12 := s310.trans s11
        have hB12 : BoxAt H12 b 200 := hB11.mono (by omega)
      all_goals
        refine ⟨_, rfl, b, 200, 8, rfl, hB12, by omega, by decide, by decide, fun H13 r13 s13 hB13 r131 r132 => ⟨rfl, _, rfl, iteD (intD _ _) (ite2 (fun c => ?_) (fun c => ?_))⟩⟩
      case' refine_1.refine_1 | refine_2.refine_1 =>
        refine ⟨_, rfl, b, 201, rfl, hB13, by omega, fun H14 u o1 o2 A1 A2 s14 hB14 hu g1 g2 l1 l2 ok1 ok2 ne1 ne2 => ⟨u, _, rfl, SqL.of hu, rfl, _, _, rfl, _, _, rfl, rfl, ?_⟩⟩
        have s314 : SameX b H3 H14 := s312.trans (s13.trans s14)
      case' refine_1.refine_2 | refine_2.refine_2 =>
        have g1 := g1.sameX s13 hB12 ne1
        have g2 := g2.sameX s13 hB12 ne2
        obtain ⟨H14, e14⟩ : ∃ H14, H14 = H13 := ⟨_, rfl⟩
        subst e14
        have s314 : SameX b H3 H14 := s312.trans s13
      all_goals
        refine ⟨_, rfl, _, rfl, _, rfl, _, _, rfl, rfl, A1, A2, o1, o2, _, rfl, g1, g2, l1, l2, ok1, ok2, fun H15 s15 => ⟨_, rfl, iteF ?_⟩⟩
        exact ⟨s2.trans ((BoxAt.fresh nb s3 s314).trans s15), _, _, _, _, _, _, rfl⟩
end
end Sk
set_option Elab.async false
set_option linter.all false
set_option maxRecDepth 100000
namespace Sk
open PySem PySem.Spec PyProof.Rows L2 Sl Bf Zs Sr Dc2 Nd

set_option maxHeartbeats 4000000 in
theorem all_mk {l : PySem.W.OpenLaw} {w : World} {K : PySem.W.Frag} {mg : Str → Option Value} {h : Heap} {fa : Addr} {f1 : Addr} {oc1 kV1 dc1 pm1 cd1 ct1 : Value} {od1 an1 : Option Addr} {sl1 : Array (Option Value)}
    {f2 : Addr} {oc2 kV2 dc2 pm2 cd2 ct2 : Value} {od2 an2 : Option Addr} {sl2 : Array (Option Value)}
    {f3 : Addr} {oc3 kV3 dc3 pm3 cd3 ct3 : Value} {od3 an3 : Option Addr} {sl3 : Array (Option Value)}
    {f4 : Addr} {oc4 kV4 dc4 pm4 cd4 ct4 : Value} {od4 an4 : Option Addr} {sl4 : Array (Option Value)}
    {f5 : Addr} {oc5 kV5 dc5 pm5 cd5 ct5 : Value} {od5 an5 : Option Addr} {sl5 : Array (Option Value)}
    {f6 : Addr} {oc6 kV6 dc6 pm6 cd6 ct6 : Value} {od6 an6 : Option Addr} {sl6 : Array (Option Value)}
    {f7 : Addr} {oc7 kV7 dc7 pm7 cd7 ct7 : Value} {od7 an7 : Option Addr} {sl7 : Array (Option Value)}
    {f8 : Addr} {oc8 kV8 dc8 pm8 cd8 ct8 : Value} {od8 an8 : Option Addr} {sl8 : Array (Option Value)}
    {f9 : Addr} {oc9 kV9 dc9 pm9 cd9 ct9 : Value} {od9 an9 : Option Addr} {sl9 : Array (Option Value)}
    {f10 : Addr} {oc10 kV10 dc10 pm10 cd10 ct10 : Value} {od10 an10 : Option Addr} {sl10 : Array (Option Value)}
    {f11 : Addr} {oc11 kV11 dc11 pm11 cd11 ct11 : Value} {od11 an11 : Option Addr} {sl11 : Array (Option Value)}
    {f12 : Addr} {oc12 kV12 dc12 pm12 cd12 ct12 : Value} {od12 an12 : Option Addr} {sl12 : Array (Option Value)}
    {f13 : Addr} {oc13 kV13 dc13 pm13 cd13 ct13 : Value} {od13 an13 : Option Addr} {sl13 : Array (Option Value)}
    {f14 : Addr} {oc14 kV14 dc14 pm14 cd14 ct14 : Value} {od14 an14 : Option Addr} {sl14 : Array (Option Value)}
    {f15 : Addr} {oc15 kV15 dc15 pm15 cd15 ct15 : Value} {od15 an15 : Option Addr} {sl15 : Array (Option Value)}
    {f16 : Addr} {oc16 kV16 dc16 pm16 cd16 ct16 : Value} {od16 an16 : Option Addr} {sl16 : Array (Option Value)}
    {f17 : Addr} {oc17 kV17 dc17 pm17 cd17 ct17 : Value} {od17 an17 : Option Addr} {sl17 : Array (Option Value)}
    {f18 : Addr} {oc18 kV18 dc18 pm18 cd18 ct18 : Value} {od18 an18 : Option Addr} {sl18 : Array (Option Value)}
    {f19 : Addr} {oc19 kV19 dc19 pm19 cd19 ct19 : Value} {od19 an19 : Option Addr} {sl19 : Array (Option Value)}
    {f20 : Addr} {oc20 kV20 dc20 pm20 cd20 ct20 : Value} {od20 an20 : Option Addr} {sl20 : Array (Option Value)}
    {f21 : Addr} {oc21 kV21 dc21 pm21 cd21 ct21 : Value} {od21 an21 : Option Addr} {sl21 : Array (Option Value)}
    {f22 : Addr} {oc22 kV22 dc22 pm22 cd22 ct22 : Value} {od22 an22 : Option Addr} {sl22 : Array (Option Value)}
    {f23 : Addr} {oc23 kV23 dc23 pm23 cd23 ct23 : Value} {od23 an23 : Option Addr} {sl23 : Array (Option Value)}
    {f24 : Addr} {oc24 kV24 dc24 pm24 cd24 ct24 : Value} {od24 an24 : Option Addr} {sl24 : Array (Option Value)}
    {f25 : Addr} {oc25 kV25 dc25 pm25 cd25 ct25 : Value} {od25 an25 : Option Addr} {sl25 : Array (Option Value)}
    {f26 : Addr} {oc26 kV26 dc26 pm26 cd26 ct26 : Value} {od26 an26 : Option Addr} {sl26 : Array (Option Value)}
    {f27 : Addr} {oc27 kV27 dc27 pm27 cd27 ct27 : Value} {od27 an27 : Option Addr} {sl27 : Array (Option Value)}
    {f28 : Addr} {oc28 kV28 dc28 pm28 cd28 ct28 : Value} {od28 an28 : Option Addr} {sl28 : Array (Option Value)}
    {f29 : Addr} {oc29 kV29 dc29 pm29 cd29 ct29 : Value} {od29 an29 : Option Addr} {sl29 : Array (Option Value)}
    {f30 : Addr} {oc30 kV30 dc30 pm30 cd30 ct30 : Value} {od30 an30 : Option Addr} {sl30 : Array (Option Value)}
    {f31 : Addr} {oc31 kV31 dc31 pm31 cd31 ct31 : Value} {od31 an31 : Option Addr} {sl31 : Array (Option Value)}
    {f32 : Addr} {oc32 kV32 dc32 pm32 cd32 ct32 : Value} {od32 an32 : Option Addr} {sl32 : Array (Option Value)}
    {f33 : Addr} {oc33 kV33 dc33 pm33 cd33 ct33 : Value} {od33 an33 : Option Addr} {sl33 : Array (Option Value)}
    {f34 : Addr} {oc34 kV34 dc34 pm34 cd34 ct34 : Value} {od34 an34 : Option Addr} {sl34 : Array (Option Value)}
    {f35 : Addr} {oc35 kV35 dc35 pm35 cd35 ct35 : Value} {od35 an35 : Option Addr} {sl35 : Array (Option Value)}
    {f36 : Addr} {oc36 kV36 dc36 pm36 cd36 ct36 : Value} {od36 an36 : Option Addr} {sl36 : Array (Option Value)}
    {f37 : Addr} {oc37 kV37 dc37 pm37 cd37 ct37 : Value} {od37 an37 : Option Addr} {sl37 : Array (Option Value)}
    {f38 : Addr} {oc38 kV38 dc38 pm38 cd38 ct38 : Value} {od38 an38 : Option Addr} {sl38 : Array (Option Value)}
    {f39 : Addr} {oc39 kV39 dc39 pm39 cd39 ct39 : Value} {od39 an39 : Option Addr} {sl39 : Array (Option Value)}
    {f40 : Addr} {oc40 kV40 dc40 pm40 cd40 ct40 : Value} {od40 an40 : Option Addr} {sl40 : Array (Option Value)}
    {tBASE : Tok}
    {tLONGEST : Tok}
    {tBOARD : Tok}
    {tWORD : Tok}
    {tLETTERS : Tok}
    {C pT : Addr} {dT : Option Addr} {tT1 tT2 tT3 : Tok} {nT : Nat} {slT : Array (Option Value)}
    (X : K.In h) (G : h.Ns mainGlobals mg) (hfa : mg "law" = some (.ref fa))
    (a1 : PySem.W.nsIn K mainGlobals "name_of" = some (some (.ref f1)))
    (l1 : K.lookup f1 = some ⟨oc1, od1, .func (PySem.W.fnOf "name_of" "name_of" (defArgs s_name_of) (defBody s_name_of) (defScope s_name_of) .none kV1 dc1 pm1 an1 cd1 ct1), sl1⟩) (c1 : PySem.W.codeIn K cd1 "name_of" = true) (k1 : PySem.W.keepIn K (.ref f1) = true)
    (a2 : PySem.W.nsIn K mainGlobals "names_of" = some (some (.ref f2)))
    (l2 : K.lookup f2 = some ⟨oc2, od2, .func (PySem.W.fnOf "names_of" "names_of" (defArgs s_names_of) (defBody s_names_of) (defScope s_names_of) .none kV2 dc2 pm2 an2 cd2 ct2), sl2⟩) (c2 : PySem.W.codeIn K cd2 "names_of" = true) (k2 : PySem.W.keepIn K (.ref f2) = true)
    (a3 : PySem.W.nsIn K mainGlobals "first_standing" = some (some (.ref f3)))
    (l3 : K.lookup f3 = some ⟨oc3, od3, .func (PySem.W.fnOf "first_standing" "first_standing" (defArgs s_first_standing) (defBody s_first_standing) (defScope s_first_standing) .none kV3 dc3 pm3 an3 cd3 ct3), sl3⟩) (c3 : PySem.W.codeIn K cd3 "first_standing" = true) (k3 : PySem.W.keepIn K (.ref f3) = true)
    (a4 : PySem.W.nsIn K mainGlobals "rule_stepped" = some (some (.ref f4)))
    (l4 : K.lookup f4 = some ⟨oc4, od4, .func (PySem.W.fnOf "rule_stepped" "rule_stepped" (defArgs s_rule_stepped) (defBody s_rule_stepped) (defScope s_rule_stepped) .none kV4 dc4 pm4 an4 cd4 ct4), sl4⟩) (c4 : PySem.W.codeIn K cd4 "rule_stepped" = true) (k4 : PySem.W.keepIn K (.ref f4) = true)
    (a5 : PySem.W.nsIn K mainGlobals "stepped" = some (some (.ref f5)))
    (l5 : K.lookup f5 = some ⟨oc5, od5, .func (PySem.W.fnOf "stepped" "stepped" (defArgs s_stepped) (defBody s_stepped) (defScope s_stepped) .none kV5 dc5 pm5 an5 cd5 ct5), sl5⟩) (c5 : PySem.W.codeIn K cd5 "stepped" = true) (k5 : PySem.W.keepIn K (.ref f5) = true)
    (a6 : PySem.W.nsIn K mainGlobals "ends" = some (some (.ref f6)))
    (l6 : K.lookup f6 = some ⟨oc6, od6, .func (PySem.W.fnOf "ends" "ends" (defArgs s_ends) (defBody s_ends) (defScope s_ends) .none kV6 dc6 pm6 an6 cd6 ct6), sl6⟩) (c6 : PySem.W.codeIn K cd6 "ends" = true) (k6 : PySem.W.keepIn K (.ref f6) = true)
    (a7 : PySem.W.nsIn K mainGlobals "names_had" = some (some (.ref f7)))
    (l7 : K.lookup f7 = some ⟨oc7, od7, .func (PySem.W.fnOf "names_had" "names_had" (defArgs s_names_had) (defBody s_names_had) (defScope s_names_had) .none kV7 dc7 pm7 an7 cd7 ct7), sl7⟩) (c7 : PySem.W.codeIn K cd7 "names_had" = true) (k7 : PySem.W.keepIn K (.ref f7) = true)
    (a8 : PySem.W.nsIn K mainGlobals "notes_had" = some (some (.ref f8)))
    (l8 : K.lookup f8 = some ⟨oc8, od8, .func (PySem.W.fnOf "notes_had" "notes_had" (defArgs s_notes_had) (defBody s_notes_had) (defScope s_notes_had) .none kV8 dc8 pm8 an8 cd8 ct8), sl8⟩) (c8 : PySem.W.codeIn K cd8 "notes_had" = true) (k8 : PySem.W.keepIn K (.ref f8) = true)
    (a9 : PySem.W.nsIn K mainGlobals "letters_of" = some (some (.ref f9)))
    (l9 : K.lookup f9 = some ⟨oc9, od9, .func (PySem.W.fnOf "letters_of" "letters_of" (defArgs s_letters_of) (defBody s_letters_of) (defScope s_letters_of) .none kV9 dc9 pm9 an9 cd9 ct9), sl9⟩) (c9 : PySem.W.codeIn K cd9 "letters_of" = true) (k9 : PySem.W.keepIn K (.ref f9) = true)
    (a10 : PySem.W.nsIn K mainGlobals "one_ends" = some (some (.ref f10)))
    (l10 : K.lookup f10 = some ⟨oc10, od10, .func (PySem.W.fnOf "one_ends" "one_ends" (defArgs s_one_ends) (defBody s_one_ends) (defScope s_one_ends) .none kV10 dc10 pm10 an10 cd10 ct10), sl10⟩) (c10 : PySem.W.codeIn K cd10 "one_ends" = true) (k10 : PySem.W.keepIn K (.ref f10) = true)
    (a11 : PySem.W.nsIn K mainGlobals "one_stepped" = some (some (.ref f11)))
    (l11 : K.lookup f11 = some ⟨oc11, od11, .func (PySem.W.fnOf "one_stepped" "one_stepped" (defArgs s_one_stepped) (defBody s_one_stepped) (defScope s_one_stepped) .none kV11 dc11 pm11 an11 cd11 ct11), sl11⟩) (c11 : PySem.W.codeIn K cd11 "one_stepped" = true) (k11 : PySem.W.keepIn K (.ref f11) = true)
    (a12 : PySem.W.nsIn K mainGlobals "parted" = some (some (.ref f12)))
    (l12 : K.lookup f12 = some ⟨oc12, od12, .func (PySem.W.fnOf "parted" "parted" (defArgs s_parted) (defBody s_parted) (defScope s_parted) .none kV12 dc12 pm12 an12 cd12 ct12), sl12⟩) (c12 : PySem.W.codeIn K cd12 "parted" = true) (k12 : PySem.W.keepIn K (.ref f12) = true)
    (a13 : PySem.W.nsIn K mainGlobals "_law_box" = some (some (.ref f13)))
    (l13 : K.lookup f13 = some ⟨oc13, od13, .func (PySem.W.fnOf "_law_box" "_law_box" (defArgs s_law_box) (defBody s_law_box) (defScope s_law_box) .none kV13 dc13 pm13 an13 cd13 ct13), sl13⟩) (c13 : PySem.W.codeIn K cd13 "_law_box" = true) (k13 : PySem.W.keepIn K (.ref f13) = true)
    (a14 : PySem.W.nsIn K mainGlobals "_law_take" = some (some (.ref f14)))
    (l14 : K.lookup f14 = some ⟨oc14, od14, .func (PySem.W.fnOf "_law_take" "_law_take" (defArgs s_law_take) (defBody s_law_take) (defScope s_law_take) .none kV14 dc14 pm14 an14 cd14 ct14), sl14⟩) (c14 : PySem.W.codeIn K cd14 "_law_take" = true) (k14 : PySem.W.keepIn K (.ref f14) = true)
    (a15 : PySem.W.nsIn K mainGlobals "_law_pick" = some (some (.ref f15)))
    (l15 : K.lookup f15 = some ⟨oc15, od15, .func (PySem.W.fnOf "_law_pick" "_law_pick" (defArgs s_law_pick) (defBody s_law_pick) (defScope s_law_pick) .none kV15 dc15 pm15 an15 cd15 ct15), sl15⟩) (c15 : PySem.W.codeIn K cd15 "_law_pick" = true) (k15 : PySem.W.keepIn K (.ref f15) = true)
    (a16 : PySem.W.nsIn K mainGlobals "_law_names" = some (some (.ref f16)))
    (l16 : K.lookup f16 = some ⟨oc16, od16, .func (PySem.W.fnOf "_law_names" "_law_names" (defArgs s_law_names) (defBody s_law_names) (defScope s_law_names) .none kV16 dc16 pm16 an16 cd16 ct16), sl16⟩) (c16 : PySem.W.codeIn K cd16 "_law_names" = true) (k16 : PySem.W.keepIn K (.ref f16) = true)
    (a17 : PySem.W.nsIn K mainGlobals "_law_same" = some (some (.ref f17)))
    (l17 : K.lookup f17 = some ⟨oc17, od17, .func (PySem.W.fnOf "_law_same" "_law_same" (defArgs s_law_same) (defBody s_law_same) (defScope s_law_same) .none kV17 dc17 pm17 an17 cd17 ct17), sl17⟩) (c17 : PySem.W.codeIn K cd17 "_law_same" = true) (k17 : PySem.W.keepIn K (.ref f17) = true)
    (a18 : PySem.W.nsIn K mainGlobals "_law_note" = some (some (.ref f18)))
    (l18 : K.lookup f18 = some ⟨oc18, od18, .func (PySem.W.fnOf "_law_note" "_law_note" (defArgs s_law_note) (defBody s_law_note) (defScope s_law_note) .none kV18 dc18 pm18 an18 cd18 ct18), sl18⟩) (c18 : PySem.W.codeIn K cd18 "_law_note" = true) (k18 : PySem.W.keepIn K (.ref f18) = true)
    (a19 : PySem.W.nsIn K mainGlobals "_law_kept_rule" = some (some (.ref f19)))
    (l19 : K.lookup f19 = some ⟨oc19, od19, .func (PySem.W.fnOf "_law_kept_rule" "_law_kept_rule" (defArgs s_law_kept_rule) (defBody s_law_kept_rule) (defScope s_law_kept_rule) .none kV19 dc19 pm19 an19 cd19 ct19), sl19⟩) (c19 : PySem.W.codeIn K cd19 "_law_kept_rule" = true) (k19 : PySem.W.keepIn K (.ref f19) = true)
    (a20 : PySem.W.nsIn K mainGlobals "_law_verdict" = some (some (.ref f20)))
    (l20 : K.lookup f20 = some ⟨oc20, od20, .func (PySem.W.fnOf "_law_verdict" "_law_verdict" (defArgs s_law_verdict) (defBody s_law_verdict) (defScope s_law_verdict) .none kV20 dc20 pm20 an20 cd20 ct20), sl20⟩) (c20 : PySem.W.codeIn K cd20 "_law_verdict" = true) (k20 : PySem.W.keepIn K (.ref f20) = true)
    (a21 : PySem.W.nsIn K mainGlobals "_law_rule" = some (some (.ref f21)))
    (l21 : K.lookup f21 = some ⟨oc21, od21, .func (PySem.W.fnOf "_law_rule" "_law_rule" (defArgs s_law_rule) (defBody s_law_rule) (defScope s_law_rule) .none kV21 dc21 pm21 an21 cd21 ct21), sl21⟩) (c21 : PySem.W.codeIn K cd21 "_law_rule" = true) (k21 : PySem.W.keepIn K (.ref f21) = true)
    (a22 : PySem.W.nsIn K mainGlobals "_law_told" = some (some (.ref f22)))
    (l22 : K.lookup f22 = some ⟨oc22, od22, .func (PySem.W.fnOf "_law_told" "_law_told" (defArgs s_law_told) (defBody s_law_told) (defScope s_law_told) .none kV22 dc22 pm22 an22 cd22 ct22), sl22⟩) (c22 : PySem.W.codeIn K cd22 "_law_told" = true) (k22 : PySem.W.keepIn K (.ref f22) = true)
    (a23 : PySem.W.nsIn K mainGlobals "_law_behind" = some (some (.ref f23)))
    (l23 : K.lookup f23 = some ⟨oc23, od23, .func (PySem.W.fnOf "_law_behind" "_law_behind" (defArgs s_law_behind) (defBody s_law_behind) (defScope s_law_behind) .none kV23 dc23 pm23 an23 cd23 ct23), sl23⟩) (c23 : PySem.W.codeIn K cd23 "_law_behind" = true) (k23 : PySem.W.keepIn K (.ref f23) = true)
    (a24 : PySem.W.nsIn K mainGlobals "_law_ends" = some (some (.ref f24)))
    (l24 : K.lookup f24 = some ⟨oc24, od24, .func (PySem.W.fnOf "_law_ends" "_law_ends" (defArgs s_law_ends) (defBody s_law_ends) (defScope s_law_ends) .none kV24 dc24 pm24 an24 cd24 ct24), sl24⟩) (c24 : PySem.W.codeIn K cd24 "_law_ends" = true) (k24 : PySem.W.keepIn K (.ref f24) = true)
    (a25 : PySem.W.nsIn K mainGlobals "_law_names_had" = some (some (.ref f25)))
    (l25 : K.lookup f25 = some ⟨oc25, od25, .func (PySem.W.fnOf "_law_names_had" "_law_names_had" (defArgs s_law_names_had) (defBody s_law_names_had) (defScope s_law_names_had) .none kV25 dc25 pm25 an25 cd25 ct25), sl25⟩) (c25 : PySem.W.codeIn K cd25 "_law_names_had" = true) (k25 : PySem.W.keepIn K (.ref f25) = true)
    (a26 : PySem.W.nsIn K mainGlobals "_law_letters" = some (some (.ref f26)))
    (l26 : K.lookup f26 = some ⟨oc26, od26, .func (PySem.W.fnOf "_law_letters" "_law_letters" (defArgs s_law_letters) (defBody s_law_letters) (defScope s_law_letters) .none kV26 dc26 pm26 an26 cd26 ct26), sl26⟩) (c26 : PySem.W.codeIn K cd26 "_law_letters" = true) (k26 : PySem.W.keepIn K (.ref f26) = true)
    (a27 : PySem.W.nsIn K mainGlobals "_law_pairs" = some (some (.ref f27)))
    (l27 : K.lookup f27 = some ⟨oc27, od27, .func (PySem.W.fnOf "_law_pairs" "_law_pairs" (defArgs s_law_pairs) (defBody s_law_pairs) (defScope s_law_pairs) .none kV27 dc27 pm27 an27 cd27 ct27), sl27⟩) (c27 : PySem.W.codeIn K cd27 "_law_pairs" = true) (k27 : PySem.W.keepIn K (.ref f27) = true)
    (a28 : PySem.W.nsIn K mainGlobals "_law_few_rules" = some (some (.ref f28)))
    (l28 : K.lookup f28 = some ⟨oc28, od28, .func (PySem.W.fnOf "_law_few_rules" "_law_few_rules" (defArgs s_law_few_rules) (defBody s_law_few_rules) (defScope s_law_few_rules) .none kV28 dc28 pm28 an28 cd28 ct28), sl28⟩) (c28 : PySem.W.codeIn K cd28 "_law_few_rules" = true) (k28 : PySem.W.keepIn K (.ref f28) = true)
    (a29 : PySem.W.nsIn K mainGlobals "_law_like" = some (some (.ref f29)))
    (l29 : K.lookup f29 = some ⟨oc29, od29, .func (PySem.W.fnOf "_law_like" "_law_like" (defArgs s_law_like) (defBody s_law_like) (defScope s_law_like) .none kV29 dc29 pm29 an29 cd29 ct29), sl29⟩) (c29 : PySem.W.codeIn K cd29 "_law_like" = true) (k29 : PySem.W.keepIn K (.ref f29) = true)
    (a30 : PySem.W.nsIn K mainGlobals "_law_logs" = some (some (.ref f30)))
    (l30 : K.lookup f30 = some ⟨oc30, od30, .func (PySem.W.fnOf "_law_logs" "_law_logs" (defArgs s_law_logs) (defBody s_law_logs) (defScope s_law_logs) .none kV30 dc30 pm30 an30 cd30 ct30), sl30⟩) (c30 : PySem.W.codeIn K cd30 "_law_logs" = true) (k30 : PySem.W.keepIn K (.ref f30) = true)
    (a31 : PySem.W.nsIn K mainGlobals "_law_fits_one" = some (some (.ref f31)))
    (l31 : K.lookup f31 = some ⟨oc31, od31, .func (PySem.W.fnOf "_law_fits_one" "_law_fits_one" (defArgs s_law_fits_one) (defBody s_law_fits_one) (defScope s_law_fits_one) .none kV31 dc31 pm31 an31 cd31 ct31), sl31⟩) (c31 : PySem.W.codeIn K cd31 "_law_fits_one" = true) (k31 : PySem.W.keepIn K (.ref f31) = true)
    (a32 : PySem.W.nsIn K mainGlobals "_law_none_ahead" = some (some (.ref f32)))
    (l32 : K.lookup f32 = some ⟨oc32, od32, .func (PySem.W.fnOf "_law_none_ahead" "_law_none_ahead" (defArgs s_law_none_ahead) (defBody s_law_none_ahead) (defScope s_law_none_ahead) .none kV32 dc32 pm32 an32 cd32 ct32), sl32⟩) (c32 : PySem.W.codeIn K cd32 "_law_none_ahead" = true) (k32 : PySem.W.keepIn K (.ref f32) = true)
    (a33 : PySem.W.nsIn K mainGlobals "_law_first_names" = some (some (.ref f33)))
    (l33 : K.lookup f33 = some ⟨oc33, od33, .func (PySem.W.fnOf "_law_first_names" "_law_first_names" (defArgs s_law_first_names) (defBody s_law_first_names) (defScope s_law_first_names) .none kV33 dc33 pm33 an33 cd33 ct33), sl33⟩) (c33 : PySem.W.codeIn K cd33 "_law_first_names" = true) (k33 : PySem.W.keepIn K (.ref f33) = true)
    (a34 : PySem.W.nsIn K mainGlobals "_law_of_four" = some (some (.ref f34)))
    (l34 : K.lookup f34 = some ⟨oc34, od34, .func (PySem.W.fnOf "_law_of_four" "_law_of_four" (defArgs s_law_of_four) (defBody s_law_of_four) (defScope s_law_of_four) .none kV34 dc34 pm34 an34 cd34 ct34), sl34⟩) (c34 : PySem.W.codeIn K cd34 "_law_of_four" = true) (k34 : PySem.W.keepIn K (.ref f34) = true)
    (a35 : PySem.W.nsIn K mainGlobals "_law_right" = some (some (.ref f35)))
    (l35 : K.lookup f35 = some ⟨oc35, od35, .func (PySem.W.fnOf "_law_right" "_law_right" (defArgs s_law_right) (defBody s_law_right) (defScope s_law_right) .none kV35 dc35 pm35 an35 cd35 ct35), sl35⟩) (c35 : PySem.W.codeIn K cd35 "_law_right" = true) (k35 : PySem.W.keepIn K (.ref f35) = true)
    (a36 : PySem.W.nsIn K mainGlobals "law" = some (some (.ref f36)))
    (l36 : K.lookup f36 = some ⟨oc36, od36, .func (PySem.W.fnOf "law" "law" (defArgs s_law) (defBody s_law) (defScope s_law) .none kV36 dc36 pm36 an36 cd36 ct36), sl36⟩) (c36 : PySem.W.codeIn K cd36 "law" = true) (k36 : PySem.W.keepIn K (.ref f36) = true)
    (a37 : PySem.W.findIn K (.ref C) "__init__" = some (some (.ref f37))) (i37 : PySem.W.isFn K (.ref f37) = true)
    (l37 : K.lookup f37 = some ⟨oc37, od37, .func (PySem.W.fnOf "__init__" "Pairs.__init__" (defArgs s_Pairs___init__) (defBody s_Pairs___init__) (defScope s_Pairs___init__) .none kV37 dc37 pm37 an37 cd37 ct37), sl37⟩) (c37 : PySem.W.codeIn K cd37 "Pairs.__init__" = true) (k37 : PySem.W.keepIn K (.ref f37) = true)
    (a38 : PySem.W.findIn K (.ref C) "differs" = some (some (.ref f38))) (i38 : PySem.W.isFn K (.ref f38) = true)
    (l38 : K.lookup f38 = some ⟨oc38, od38, .func (PySem.W.fnOf "differs" "Pairs.differs" (defArgs s_Pairs_differs) (defBody s_Pairs_differs) (defScope s_Pairs_differs) .none kV38 dc38 pm38 an38 cd38 ct38), sl38⟩) (c38 : PySem.W.codeIn K cd38 "Pairs.differs" = true) (k38 : PySem.W.keepIn K (.ref f38) = true)
    (a39 : PySem.W.findIn K (.ref C) "behind" = some (some (.ref f39))) (i39 : PySem.W.isFn K (.ref f39) = true)
    (l39 : K.lookup f39 = some ⟨oc39, od39, .func (PySem.W.fnOf "behind" "Pairs.behind" (defArgs s_Pairs_behind) (defBody s_Pairs_behind) (defScope s_Pairs_behind) .none kV39 dc39 pm39 an39 cd39 ct39), sl39⟩) (c39 : PySem.W.codeIn K cd39 "Pairs.behind" = true) (k39 : PySem.W.keepIn K (.ref f39) = true)
    (a40 : PySem.W.findIn K (.ref C) "first_parting" = some (some (.ref f40))) (i40 : PySem.W.isFn K (.ref f40) = true)
    (l40 : K.lookup f40 = some ⟨oc40, od40, .func (PySem.W.fnOf "first_parting" "Pairs.first_parting" (defArgs s_Pairs_first_parting) (defBody s_Pairs_first_parting) (defScope s_Pairs_first_parting) .none kV40 dc40 pm40 an40 cd40 ct40), sl40⟩) (c40 : PySem.W.codeIn K cd40 "Pairs.first_parting" = true) (k40 : PySem.W.keepIn K (.ref f40) = true)
    (aC : PySem.W.nsIn K mainGlobals "Pairs" = some (some (.ref C))) (pg : PySem.W.plainGet K C Str.empty = true) (hd : PySem.W.hasDictIn K C = true) (po : PySem.W.plainOver K C = true) (sa : PySem.W.findIn K (.ref C) "__setattr__" = some (some (.builtin "object.__setattr__"))) (mk : PySem.W.makesIn K C = true) (kc : PySem.W.keepIn K (.ref C) = true)
    (nP : PySem.W.findIn K (.ref C) "own_policies" = some none) (nL : PySem.W.findIn K (.ref C) "own_letters" = some none) (nD : PySem.W.findIn K (.ref C) "own_logs" = some none)
    (z_len : PySem.W.nsIn K mainGlobals "len" = some none)
    (z_abs : PySem.W.nsIn K mainGlobals "abs" = some none)
    (z_int : PySem.W.nsIn K mainGlobals "int" = some none)
    (z_list : PySem.W.nsIn K mainGlobals "list" = some none)
    (z_tuple : PySem.W.nsIn K mainGlobals "tuple" = some none)
    (z_sorted : PySem.W.nsIn K mainGlobals "sorted" = some none)
    (z_set : PySem.W.nsIn K mainGlobals "set" = some none)
    (z_range : PySem.W.nsIn K mainGlobals "range" = some none)
    (z_zip : PySem.W.nsIn K mainGlobals "zip" = some none)
    (z_max : PySem.W.nsIn K mainGlobals "max" = some none)
    (z_min : PySem.W.nsIn K mainGlobals "min" = some none)
    (z_enumerate : PySem.W.nsIn K mainGlobals "enumerate" = some none)
    (z_isinstance : PySem.W.nsIn K mainGlobals "isinstance" = some none)
    (z_all : PySem.W.nsIn K mainGlobals "all" = some none)
    (z_str : PySem.W.nsIn K mainGlobals "str" = some none)
    (z_bool : PySem.W.nsIn K mainGlobals "bool" = some none)
    (z_repr : PySem.W.nsIn K mainGlobals "repr" = some none)
    (gBASE : PySem.W.nsIn K mainGlobals "BASE" = some (some (.int 27 tBASE)))
    (gLONGEST : PySem.W.nsIn K mainGlobals "LONGEST" = some (some (.int 4 tLONGEST)))
    (gBOARD : PySem.W.nsIn K mainGlobals "BOARD" = some (some (.int 0 tBOARD)))
    (gWORD : PySem.W.nsIn K mainGlobals "WORD" = some (some (.str "load" tWORD)))
    (gLETTERS : PySem.W.nsIn K mainGlobals "LETTERS" = some (some (.str "abcdefghijklmnopqrstuvwxyz" tLETTERS)))
    (gTWO : PySem.W.nsIn K mainGlobals "TWO" = some (some (.ref pT))) (lT : K.lookup pT = some ⟨.type "tuple", dT, .seq #[.str "ahead" tT1, .str "never" tT2, .str "next" tT3] nT, slT⟩) :
    ∃ fd : FuncData, (∀ (s : Shared) (v : Value), BindsTo s fd ⟨[v], []⟩ [("_law_script", v)]) ∧ ∀ base : Heap, K.In base → base.Ns mainGlobals mg → Rp.FnG l.prog w K mg base CX0 8 fa fd ["_law_script"] (sp_law K) := by
  have e := hfa.symm.trans (PySem.W.mg_of X G a36)
  cases e
  have T : Top K mg := ⟨PySem.W.mg_none_of X G z_len, PySem.W.mg_none_of X G z_abs, PySem.W.mg_none_of X G z_int, PySem.W.mg_none_of X G z_list, PySem.W.mg_none_of X G z_tuple, PySem.W.mg_none_of X G z_sorted, PySem.W.mg_none_of X G z_set, PySem.W.mg_none_of X G z_range, PySem.W.mg_none_of X G z_zip, PySem.W.mg_none_of X G z_max, PySem.W.mg_none_of X G z_min, PySem.W.mg_none_of X G z_enumerate, PySem.W.mg_none_of X G z_isinstance, PySem.W.mg_none_of X G z_all, PySem.W.mg_none_of X G z_str, PySem.W.mg_none_of X G z_bool, PySem.W.mg_none_of X G z_repr, ⟨_, PySem.W.mg_of X G gBASE⟩, ⟨_, PySem.W.mg_of X G gLONGEST⟩, ⟨_, PySem.W.mg_of X G gBOARD⟩, ⟨_, PySem.W.mg_of X G gWORD⟩, ⟨_, PySem.W.mg_of X G gLETTERS⟩, ⟨pT, PySem.W.mg_of X G gTWO, fun H => .inr ⟨_, _, _, lT, rfl, rfl, (by show 3 ≤ sizeLine; decide), .cons ⟨_, rfl⟩ (.cons ⟨_, rfl⟩ (.cons ⟨_, rfl⟩ .nil))⟩⟩⟩
  have PT : PTxt K C := ⟨⟨pg, hd, po, sa⟩, nP, nL, nD⟩
  have F1 := fun_mk (st := s_name_of) l1 c1 k1
  have b1 := F1.binds (ps := ["number"]) fun _ _ _ _ _ _ us hl => match us, hl with | [_], _ => rfl
  have F2 := fun_mk (st := s_names_of) l2 c2 k2
  have b2 := F2.binds (ps := ["rule"]) fun _ _ _ _ _ _ us hl => match us, hl with | [_], _ => rfl
  have F3 := fun_mk (st := s_first_standing) l3 c3 k3
  have b3 := F3.binds (ps := ["policy"]) fun _ _ _ _ _ _ us hl => match us, hl with | [_], _ => rfl
  have F4 := fun_mk (st := s_rule_stepped) l4 c4 k4
  have b4 := F4.binds (ps := ["rule", "number", "row"]) fun _ _ _ _ _ _ us hl => match us, hl with | [_, _, _], _ => rfl
  have F5 := fun_mk (st := s_stepped) l5 c5 k5
  have b5 := F5.binds (ps := ["policy", "standing", "row"]) fun _ _ _ _ _ _ us hl => match us, hl with | [_, _, _], _ => rfl
  have F6 := fun_mk (st := s_ends) l6 c6 k6
  have b6 := F6.binds (ps := ["policy", "standing"]) fun _ _ _ _ _ _ us hl => match us, hl with | [_, _], _ => rfl
  have F7 := fun_mk (st := s_names_had) l7 c7 k7
  have b7 := F7.binds (ps := ["rules"]) fun _ _ _ _ _ _ us hl => match us, hl with | [_], _ => rfl
  have F8 := fun_mk (st := s_notes_had) l8 c8 k8
  have b8 := F8.binds (ps := ["rules", "name"]) fun _ _ _ _ _ _ us hl => match us, hl with | [_, _], _ => rfl
  have F9 := fun_mk (st := s_letters_of) l9 c9 k9
  have b9 := F9.binds (ps := ["policy", "other"]) fun _ _ _ _ _ _ us hl => match us, hl with | [_, _], _ => rfl
  have F10 := fun_mk (st := s_one_ends) l10 c10 k10
  have b10 := F10.binds (ps := ["policy", "standing"]) fun _ _ _ _ _ _ us hl => match us, hl with | [_, _], _ => rfl
  have F11 := fun_mk (st := s_one_stepped) l11 c11 k11
  have b11 := F11.binds (ps := ["policy", "standing", "row"]) fun _ _ _ _ _ _ us hl => match us, hl with | [_, _, _], _ => rfl
  have F12 := fun_mk (st := s_parted) l12 c12 k12
  have b12 := F12.binds (ps := ["policy", "other"]) fun _ _ _ _ _ _ us hl => match us, hl with | [_, _], _ => rfl
  have F13 := fun_mk (st := s_law_box) l13 c13 k13
  have b13 := F13.binds (ps := ["_law_script", "_law_k"]) fun _ _ _ _ _ _ us hl => match us, hl with | [_, _], _ => rfl
  have F14 := fun_mk (st := s_law_take) l14 c14 k14
  have b14 := F14.binds (ps := ["_law_box_here", "_law_size"]) fun _ _ _ _ _ _ us hl => match us, hl with | [_, _], _ => rfl
  have F15 := fun_mk (st := s_law_pick) l15 c15 k15
  have b15 := F15.binds (ps := ["_law_box_here", "_law_things"]) fun _ _ _ _ _ _ us hl => match us, hl with | [_, _], _ => rfl
  have F16 := fun_mk (st := s_law_names) l16 c16 k16
  have b16 := F16.binds (ps := ["_law_box_here", "_law_size"]) fun _ _ _ _ _ _ us hl => match us, hl with | [_, _], _ => rfl
  have F17 := fun_mk (st := s_law_same) l17 c17 k17
  have b17 := F17.binds (ps := ["_law_found", "_law_due"]) fun _ _ _ _ _ _ us hl => match us, hl with | [_, _], _ => rfl
  have F18 := fun_mk (st := s_law_note) l18 c18 k18
  have b18 := F18.binds (ps := ["_law_box_here"]) fun _ _ _ _ _ _ us hl => match us, hl with | [_], _ => rfl
  have F19 := fun_mk (st := s_law_kept_rule) l19 c19 k19
  have b19 := F19.binds (ps := ["_law_rule_here", "_law_rows"]) fun _ _ _ _ _ _ us hl => match us, hl with | [_, _], _ => rfl
  have F20 := fun_mk (st := s_law_verdict) l20 c20 k20
  have b20 := F20.binds (ps := ["_law_rules", "_law_rows"]) fun _ _ _ _ _ _ us hl => match us, hl with | [_, _], _ => rfl
  have F21 := fun_mk (st := s_law_rule) l21 c21 k21
  have b21 := F21.binds (ps := ["_law_box_here", "_law_names_here"]) fun _ _ _ _ _ _ us hl => match us, hl with | [_, _], _ => rfl
  have F22 := fun_mk (st := s_law_told) l22 c22 k22
  have b22 := F22.binds (ps := ["_law_rule_here", "_law_number", "_law_row"]) fun _ _ _ _ _ _ us hl => match us, hl with | [_, _, _], _ => rfl
  have F23 := fun_mk (st := s_law_behind) l23 c23 k23
  have b23 := F23.binds (ps := ["_law_rules", "_law_standing", "_law_row"]) fun _ _ _ _ _ _ us hl => match us, hl with | [_, _, _], _ => rfl
  have F24 := fun_mk (st := s_law_ends) l24 c24 k24
  have b24 := F24.binds (ps := ["_law_rules", "_law_standing"]) fun _ _ _ _ _ _ us hl => match us, hl with | [_, _], _ => rfl
  have F25 := fun_mk (st := s_law_names_had) l25 c25 k25
  have b25 := F25.binds (ps := ["_law_rules"]) fun _ _ _ _ _ _ us hl => match us, hl with | [_], _ => rfl
  have F26 := fun_mk (st := s_law_letters) l26 c26 k26
  have b26 := F26.binds (ps := ["_law_rules"]) fun _ _ _ _ _ _ us hl => match us, hl with | [_], _ => rfl
  have F27 := fun_mk (st := s_law_pairs) l27 c27 k27
  have b27 := F27.binds (ps := ["_law_one", "_law_two"]) fun _ _ _ _ _ _ us hl => match us, hl with | [_, _], _ => rfl
  have F28 := fun_mk (st := s_law_few_rules) l28 c28 k28
  have b28 := F28.binds (ps := ["_law_box_here", "_law_names_here", "_law_count", "_law_cap"]) fun _ _ _ _ _ _ us hl => match us, hl with | [_, _, _, _], _ => rfl
  have F29 := fun_mk (st := s_law_like) l29 c29 k29
  have b29 := F29.binds (ps := ["_law_box_here", "_law_rules", "_law_names_here"]) fun _ _ _ _ _ _ us hl => match us, hl with | [_, _, _], _ => rfl
  have F30 := fun_mk (st := s_law_logs) l30 c30 k30
  have b30 := F30.binds (ps := ["_law_letters_here", "_law_size"]) fun _ _ _ _ _ _ us hl => match us, hl with | [_, _], _ => rfl
  have F31 := fun_mk (st := s_law_fits_one) l31 c31 k31
  have b31 := F31.binds (ps := ["_law_one", "_law_two", "_law_rows"]) fun _ _ _ _ _ _ us hl => match us, hl with | [_, _, _], _ => rfl
  have F32 := fun_mk (st := s_law_none_ahead) l32 c32 k32
  have b32 := F32.binds (ps := ["_law_one", "_law_two", "_law_found"]) fun _ _ _ _ _ _ us hl => match us, hl with | [_, _, _], _ => rfl
  have F33 := fun_mk (st := s_law_first_names) l33 c33 k33
  have b33 := F33.binds (ps := ["_law_box_here", "_law_names_here"]) fun _ _ _ _ _ _ us hl => match us, hl with | [_, _], _ => rfl
  have F34 := fun_mk (st := s_law_of_four) l34 c34 k34
  have b34 := F34.binds (ps := ["_law_box_here"]) fun _ _ _ _ _ _ us hl => match us, hl with | [_], _ => rfl
  have F35 := fun_mk (st := s_law_right) l35 c35 k35
  have b35 := F35.binds (ps := ["_law_one", "_law_two", "_law_again"]) fun _ _ _ _ _ _ us hl => match us, hl with | [_, _, _], _ => rfl
  have F36 := fun_mk (st := s_law) l36 c36 k36
  have F37 := fun_mk (st := s_Pairs___init__) l37 c37 k37
  have b37 := F37.binds (ps := ["self", "policy", "other"]) fun _ _ _ _ _ _ us hl => match us, hl with | [_, _, _], _ => rfl
  have F38 := fun_mk (st := s_Pairs_differs) l38 c38 k38
  have b38 := F38.binds (ps := ["self", "pair"]) fun _ _ _ _ _ _ us hl => match us, hl with | [_, _], _ => rfl
  have F39 := fun_mk (st := s_Pairs_behind) l39 c39 k39
  have b39 := F39.binds (ps := ["self", "pair", "row"]) fun _ _ _ _ _ _ us hl => match us, hl with | [_, _, _], _ => rfl
  have F40 := fun_mk (st := s_Pairs_first_parting) l40 c40 k40
  have b40 := F40.binds (ps := ["self"]) fun _ _ _ _ _ _ us hl => match us, hl with | [_], _ => rfl
  refine ⟨PySem.W.fnOf "law" "law" (defArgs s_law) (defBody s_law) (defScope s_law) .none kV36 dc36 pm36 an36 cd36 ct36, fun s v => .of_eq rfl, fun base _ _ => ?_⟩
  have C_name_of := cal_mk F1 (PySem.W.mg_of X G a1) b1 (ok_name_of (P := l.prog) (w := w) (base := base) F1 T)
  have C_names_of := cal_mk F2 (PySem.W.mg_of X G a2) b2 (ok_names_of (P := l.prog) (w := w) (base := base) F2 T)
  have C_first_standing := cal_mk F3 (PySem.W.mg_of X G a3) b3 (ok_first_standing (P := l.prog) (w := w) (base := base) F3 T)
  have C_rule_stepped := cal_mk F4 (PySem.W.mg_of X G a4) b4 (ok_rule_stepped (P := l.prog) (w := w) (base := base) F4 T)
  have C_ends := cal_mk F6 (PySem.W.mg_of X G a6) b6 (ok_ends (P := l.prog) (w := w) (base := base) F6 T)
  have C_notes_had := cal_mk F8 (PySem.W.mg_of X G a8) b8 (ok_notes_had (P := l.prog) (w := w) (base := base) F8 T)
  have C_law_box := cal_mk F13 (PySem.W.mg_of X G a13) b13 (ok_law_box (P := l.prog) (w := w) (base := base) F13 T)
  have C_law_take := cal_mk F14 (PySem.W.mg_of X G a14) b14 (ok_law_take (P := l.prog) (w := w) (base := base) F14 T)
  have C_law_same := cal_mk F17 (PySem.W.mg_of X G a17) b17 (ok_law_same (P := l.prog) (w := w) (base := base) F17 (PySem.W.mg_of X G a17) b17 T 3)
  have C_law_kept_rule := cal_mk F19 (PySem.W.mg_of X G a19) b19 (ok_law_kept_rule (P := l.prog) (w := w) (base := base) F19 T)
  have C_law_told := cal_mk F22 (PySem.W.mg_of X G a22) b22 (ok_law_told (P := l.prog) (w := w) (base := base) F22 T)
  have C_law_ends := cal_mk F24 (PySem.W.mg_of X G a24) b24 (ok_law_ends (P := l.prog) (w := w) (base := base) F24 T)
  have C_law_names_had := cal_mk F25 (PySem.W.mg_of X G a25) b25 (ok_law_names_had (P := l.prog) (w := w) (base := base) F25 T)
  have C_law_logs := cal_mk F30 (PySem.W.mg_of X G a30) b30 (ok_law_logs (P := l.prog) (w := w) (base := base) F30 T)
  have C_stepped := cal_mk F5 (PySem.W.mg_of X G a5) b5 (ok_stepped (P := l.prog) (w := w) (base := base) F5 T C_rule_stepped)
  have C_names_had := cal_mk F7 (PySem.W.mg_of X G a7) b7 (ok_names_had (P := l.prog) (w := w) (base := base) F7 T C_names_of C_name_of)
  have C_one_ends := cal_mk F10 (PySem.W.mg_of X G a10) b10 (ok_one_ends (P := l.prog) (w := w) (base := base) F10 T C_ends)
  have C_law_pick := cal_mk F15 (PySem.W.mg_of X G a15) b15 (ok_law_pick (P := l.prog) (w := w) (base := base) F15 T C_law_take)
  have C_law_names := cal_mk F16 (PySem.W.mg_of X G a16) b16 (ok_law_names (P := l.prog) (w := w) (base := base) F16 T C_law_take)
  have C_law_note := cal_mk F18 (PySem.W.mg_of X G a18) b18 (ok_law_note (P := l.prog) (w := w) (base := base) F18 T C_law_take)
  have C_law_verdict := cal_mk F20 (PySem.W.mg_of X G a20) b20 (ok_law_verdict (P := l.prog) (w := w) (base := base) F20 T C_law_kept_rule)
  have C_law_behind := cal_mk F23 (PySem.W.mg_of X G a23) b23 (ok_law_behind (P := l.prog) (w := w) (base := base) F23 T C_law_told)
  have C_law_letters := cal_mk F26 (PySem.W.mg_of X G a26) b26 (ok_law_letters (P := l.prog) (w := w) (base := base) F26 T C_law_names_had)
  have C_law_first_names := cal_mk F33 (PySem.W.mg_of X G a33) b33 (ok_law_first_names (P := l.prog) (w := w) (base := base) F33 T C_law_take)
  have C_letters_of := cal_mk F9 (PySem.W.mg_of X G a9) b9 (ok_letters_of (P := l.prog) (w := w) (base := base) F9 T C_names_had C_notes_had)
  have C_one_stepped := cal_mk F11 (PySem.W.mg_of X G a11) b11 (ok_one_stepped (P := l.prog) (w := w) (base := base) F11 T C_stepped)
  have C_law_rule := cal_mk F21 (PySem.W.mg_of X G a21) b21 (ok_law_rule (P := l.prog) (w := w) (base := base) F21 T C_law_take C_law_pick C_law_note)
  have C_law_pairs := cal_mk F27 (PySem.W.mg_of X G a27) b27 (ok_law_pairs (P := l.prog) (w := w) (base := base) F27 T C_law_letters C_law_ends C_law_behind)
  have C_law_fits_one := cal_mk F31 (PySem.W.mg_of X G a31) b31 (ok_law_fits_one (P := l.prog) (w := w) (base := base) F31 T C_law_verdict)
  have C_law_of_four := cal_mk F34 (PySem.W.mg_of X G a34) b34 (ok_law_of_four (P := l.prog) (w := w) (base := base) F34 T C_law_take C_law_pick C_law_names)
  have M_differs : CalM l.prog w K mg base 3 C "differs" ["self", "pair"] _ := ⟨_, _, (ok_differs (P := l.prog) (w := w) (base := base) F38 T PT C_one_ends), ⟨a38, i38, k38⟩, b38⟩
  have C_law_few_rules := cal_mk F28 (PySem.W.mg_of X G a28) b28 (ok_law_few_rules (P := l.prog) (w := w) (base := base) F28 T C_law_take C_law_rule)
  have C_law_like := cal_mk F29 (PySem.W.mg_of X G a29) b29 (ok_law_like (P := l.prog) (w := w) (base := base) F29 T C_law_take C_law_pick C_law_rule)
  have C_law_none_ahead := cal_mk F32 (PySem.W.mg_of X G a32) b32 (ok_law_none_ahead (P := l.prog) (w := w) (base := base) F32 T C_law_letters C_law_logs C_law_fits_one)
  have C_Pairs : CalC l.prog w K mg base 4 C "Pairs" ["self", "policy", "other"] (sp_init l.prog w C) := ⟨_, _, (ok_init (P := l.prog) (w := w) (base := base) F37 T PT C_letters_of C_first_standing), ⟨mk, a37, i37, kc⟩, PySem.W.mg_of X G aC, b37⟩
  have M_behind : CalM l.prog w K mg base 4 C "behind" ["self", "pair", "row"] _ := ⟨_, _, (ok_behind (P := l.prog) (w := w) (base := base) F39 T PT C_one_stepped), ⟨a39, i39, k39⟩, b39⟩
  have M_first_parting : CalM l.prog w K mg base 5 C "first_parting" ["self"] _ := ⟨_, _, (ok_first_parting (P := l.prog) (w := w) (base := base) F40 T PT M_differs M_behind), ⟨a40, i40, k40⟩, b40⟩
  have C_parted := cal_mk F12 (PySem.W.mg_of X G a12) b12 (ok_parted (P := l.prog) (w := w) (base := base) F12 T PT C_Pairs M_first_parting)
  have FR := (ok_law_right (P := l.prog) (w := w) (base := base) F35 T C_law_pairs C_parted C_law_same C_law_fits_one C_law_none_ahead)
  exact ok_law F36 T C_law_box C_law_take C_law_names C_law_first_names C_law_few_rules C_law_like C_law_of_four FR (PySem.W.mg_of X G a35) k35 b35
theorem walk {l : PySem.W.OpenLaw} {q : Program} {loose : List Str} {XP : (Str → Option Value) → Heap → Prop} {YP : World → Heap → Prop} {d : DefRec} {K : Params → PySem.W.Frag} (hn : l.most = some 63) (hdf : d.params.defaults = [])
    (hY : ∀ (w : World) (h : Heap), YP w h → (K w.params).In h)
    (F : ∀ (w : World) (mg : Str → Option Value) (fa : Addr) (h : Heap), (K w.params).In h → h.Ns mainGlobals mg → mg d.name = some (.ref fa) →
      ∃ fd : FuncData, (∀ (s : Shared) (u : Value), BindsTo s fd ⟨[u], []⟩ [("_law_script", u)]) ∧ ∀ base : Heap, (K w.params).In base → base.Ns mainGlobals mg → Rp.FnG l.prog w (K w.params) mg base CX0 8 fa fd ["_law_script"] (sp_law (K w.params))) :
    PySem.W.WalkO q loose XP YP l.row.toRowW d [] (fun f vs => PySem.call f vs) :=
  Rp.walk_ofG (n := 63) (k := 8) (x := "_law_script") (sp := fun w => sp_law (K w.params)) hn (by decide) hdf ⟨rfl, by decide, by decide⟩ hY F fun _ _ a ns hl hS => ⟨a, ns, rfl, hS, hl, fun _ => rfl⟩
end Sk
open PySem PySem.W PyProof.Rows
set_option maxRecDepth 100000 in
set_option maxHeartbeats 0 in
theorem PySem.Challenge.cw_startlog_k54_whole_parted_by_the_first_l_holds : PySem.Challenge.rw_startlog_k54_whole_parted_by_the_first_l.Holds := by
  w_on; o_law; k_head; (case hw => w_witness2)
  k_fill
  refine Sk.walk (l := PySem.Challenge.rw_startlog_k54_whole_parted_by_the_first_l) rfl rfl (fun w h Y => PySem.W.kIn_of Y) ?F
  case F =>
    intro w mg fa h KX G hmg
    refine' Sk.all_mk KX G hmg ?a1 ?l1 ?c1 ?k1 ?a2 ?l2 ?c2 ?k2 ?a3 ?l3 ?c3 ?k3 ?a4 ?l4 ?c4 ?k4 ?a5 ?l5 ?c5 ?k5 ?a6 ?l6 ?c6 ?k6 ?a7 ?l7 ?c7 ?k7 ?a8 ?l8 ?c8 ?k8 ?a9 ?l9 ?c9 ?k9 ?a10 ?l10 ?c10 ?k10 ?a11 ?l11 ?c11 ?k11 ?a12 ?l12 ?c12 ?k12 ?a13 ?l13 ?c13 ?k13 ?a14 ?l14 ?c14 ?k14 ?a15 ?l15 ?c15 ?k15 ?a16 ?l16 ?c16 ?k16 ?a17 ?l17 ?c17 ?k17 ?a18 ?l18 ?c18 ?k18 ?a19 ?l19 ?c19 ?k19 ?a20 ?l20 ?c20 ?k20 ?a21 ?l21 ?c21 ?k21 ?a22 ?l22 ?c22 ?k22 ?a23 ?l23 ?c23 ?k23 ?a24 ?l24 ?c24 ?k24 ?a25 ?l25 ?c25 ?k25 ?a26 ?l26 ?c26 ?k26 ?a27 ?l27 ?c27 ?k27 ?a28 ?l28 ?c28 ?k28 ?a29 ?l29 ?c29 ?k29 ?a30 ?l30 ?c30 ?k30 ?a31 ?l31 ?c31 ?k31 ?a32 ?l32 ?c32 ?k32 ?a33 ?l33 ?c33 ?k33 ?a34 ?l34 ?c34 ?k34 ?a35 ?l35 ?c35 ?k35 ?a36 ?l36 ?c36 ?k36 ?a37 ?i37 ?l37 ?c37 ?k37 ?a38 ?i38 ?l38 ?c38 ?k38 ?a39 ?i39 ?l39 ?c39 ?k39 ?a40 ?i40 ?l40 ?c40 ?k40 ?aC ?pg ?hd ?po ?sa ?mk ?kc ?nP ?nL ?nD ?z_len ?z_abs ?z_int ?z_list ?z_tuple ?z_sorted ?z_set ?z_range ?z_zip ?z_max ?z_min ?z_enumerate ?z_isinstance ?z_all ?z_str ?z_bool ?z_repr ?gBASE ?gLONGEST ?gBOARD ?gWORD ?gLETTERS ?gTWO ?lT
    (case aC => k_is)
    (case a1 => k_is)
    (case l1 => k_is)
    (case c1 => k_is)
    (case k1 => k_is)
    (case a2 => k_is)
    (case l2 => k_is)
    (case c2 => k_is)
    (case k2 => k_is)
    (case a3 => k_is)
    (case l3 => k_is)
    (case c3 => k_is)
    (case k3 => k_is)
    (case a4 => k_is)
    (case l4 => k_is)
    (case c4 => k_is)
    (case k4 => k_is)
    (case a5 => k_is)
    (case l5 => k_is)
    (case c5 => k_is)
    (case k5 => k_is)
    (case a6 => k_is)
    (case l6 => k_is)
    (case c6 => k_is)
    (case k6 => k_is)
    (case a7 => k_is)
    (case l7 => k_is)
    (case c7 => k_is)
    (case k7 => k_is)
    (case a8 => k_is)
    (case l8 => k_is)
    (case c8 => k_is)
    (case k8 => k_is)
    (case a9 => k_is)
    (case l9 => k_is)
    (case c9 => k_is)
    (case k9 => k_is)
    (case a10 => k_is)
    (case l10 => k_is)
    (case c10 => k_is)
    (case k10 => k_is)
    (case a11 => k_is)
    (case l11 => k_is)
    (case c11 => k_is)
    (case k11 => k_is)
    (case a12 => k_is)
    (case l12 => k_is)
    (case c12 => k_is)
    (case k12 => k_is)
    (case a13 => k_is)
    (case l13 => k_is)
    (case c13 => k_is)
    (case k13 => k_is)
    (case a14 => k_is)
    (case l14 => k_is)
    (case c14 => k_is)
    (case k14 => k_is)
    (case a15 => k_is)
    (case l15 => k_is)
    (case c15 => k_is)
    (case k15 => k_is)
    (case a16 => k_is)
    (case l16 => k_is)
    (case c16 => k_is)
    (case k16 => k_is)
    (case a17 => k_is)
    (case l17 => k_is)
    (case c17 => k_is)
    (case k17 => k_is)
    (case a18 => k_is)
    (case l18 => k_is)
    (case c18 => k_is)
    (case k18 => k_is)
    (case a19 => k_is)
    (case l19 => k_is)
    (case c19 => k_is)
    (case k19 => k_is)
    (case a20 => k_is)
    (case l20 => k_is)
    (case c20 => k_is)
    (case k20 => k_is)
    (case a21 => k_is)
    (case l21 => k_is)
    (case c21 => k_is)
    (case k21 => k_is)
    (case a22 => k_is)
    (case l22 => k_is)
    (case c22 => k_is)
    (case k22 => k_is)
    (case a23 => k_is)
    (case l23 => k_is)
    (case c23 => k_is)
    (case k23 => k_is)
    (case a24 => k_is)
    (case l24 => k_is)
    (case c24 => k_is)
    (case k24 => k_is)
    (case a25 => k_is)
    (case l25 => k_is)
    (case c25 => k_is)
    (case k25 => k_is)
    (case a26 => k_is)
    (case l26 => k_is)
    (case c26 => k_is)
    (case k26 => k_is)
    (case a27 => k_is)
    (case l27 => k_is)
    (case c27 => k_is)
    (case k27 => k_is)
    (case a28 => k_is)
    (case l28 => k_is)
    (case c28 => k_is)
    (case k28 => k_is)
    (case a29 => k_is)
    (case l29 => k_is)
    (case c29 => k_is)
    (case k29 => k_is)
    (case a30 => k_is)
    (case l30 => k_is)
    (case c30 => k_is)
    (case k30 => k_is)
    (case a31 => k_is)
    (case l31 => k_is)
    (case c31 => k_is)
    (case k31 => k_is)
    (case a32 => k_is)
    (case l32 => k_is)
    (case c32 => k_is)
    (case k32 => k_is)
    (case a33 => k_is)
    (case l33 => k_is)
    (case c33 => k_is)
    (case k33 => k_is)
    (case a34 => k_is)
    (case l34 => k_is)
    (case c34 => k_is)
    (case k34 => k_is)
    (case a35 => k_is)
    (case l35 => k_is)
    (case c35 => k_is)
    (case k35 => k_is)
    (case a36 => k_is)
    (case l36 => k_is)
    (case c36 => k_is)
    (case k36 => k_is)
    (case a37 => k_is)
    (case i37 => k_is)
    (case l37 => k_is)
    (case c37 => k_is)
    (case k37 => k_is)
    (case a38 => k_is)
    (case i38 => k_is)
    (case l38 => k_is)
    (case c38 => k_is)
    (case k38 => k_is)
    (case a39 => k_is)
    (case i39 => k_is)
    (case l39 => k_is)
    (case c39 => k_is)
    (case k39 => k_is)
    (case a40 => k_is)
    (case i40 => k_is)
    (case l40 => k_is)
    (case c40 => k_is)
    (case k40 => k_is)
    (case pg => k_is)
    (case hd => k_is)
    (case po => k_is)
    (case sa => k_is)
    (case mk => k_is)
    (case kc => k_is)
    (case nP => k_is)
    (case nL => k_is)
    (case nD => k_is)
    (case z_len => k_is)
    (case z_abs => k_is)
    (case z_int => k_is)
    (case z_list => k_is)
    (case z_tuple => k_is)
    (case z_sorted => k_is)
    (case z_set => k_is)
    (case z_range => k_is)
    (case z_zip => k_is)
    (case z_max => k_is)
    (case z_min => k_is)
    (case z_enumerate => k_is)
    (case z_isinstance => k_is)
    (case z_all => k_is)
    (case z_str => k_is)
    (case z_bool => k_is)
    (case z_repr => k_is)
    (case gBASE => k_is)
    (case gLONGEST => k_is)
    (case gBOARD => k_is)
    (case gWORD => k_is)
    (case gLETTERS => k_is)
    (case gTWO => k_is)
    (case lT => k_is)
