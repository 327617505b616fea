import PyProof.Rows.All
import Wide.All
import OpenK.AllK
import Wide.FinOn
import PySem.Challenge.RW_uf040005_06
set_option autoImplicit false
set_option Elab.async false
set_option linter.unusedSimpArgs false
set_option linter.unusedVariables false
set_option maxRecDepth 100000
namespace Mine
open PySem PySem.Calls PyProof.Rows

/-! sorting ints: a run that does not begin at the front -/
theorem chain_le {f : Nat → Int} {m : Nat} (h : ∀ i, i + 1 < m → f i ≤ f (i + 1)) : ∀ i j, i ≤ j → j < m → f i ≤ f j := by
  intro i j hij hj
  induction j with
  | zero => have : i = 0 := by (first | lia | omega)
            subst this; exact Int.le_refl _
  | succ j ih =>
    by_cases e : i = j + 1
    · subst e; exact Int.le_refl _
    · exact Int.le_trans (ih (by (first | lia | omega)) (by (first | lia | omega))) (h j (by (first | lia | omega)))
theorem chain_lt {f : Nat → Int} {m : Nat} (h : ∀ i, i + 1 < m → f i < f (i + 1)) : ∀ i j, i < j → j < m → f i < f j := by
  intro i j hij hj
  induction j with
  | zero => (first | lia | omega)
  | succ j ih =>
    by_cases e : i = j
    · subst e; exact h i (by (first | lia | omega))
    · exact Int.lt_trans (ih (by (first | lia | omega)) (by (first | lia | omega))) (h j (by (first | lia | omega)))

theorem key_at {a : Array Keyed} (hI : IntKeys a) {i : Nat} (hi : i < a.size) : ∃ t q, a[i]? = some (.int (K a i) t, q) := by
  have hm : a[i] ∈ a.toList := by simp
  obtain ⟨n, t, hn⟩ := hI _ hm
  refine ⟨t, a[i].2, ?_⟩
  have e : a[i]? = some a[i] := getElem?_pos _ i hi
  have e2 : a[i] = (.int n t, a[i].2) := Prod.ext hn rfl
  unfold K
  rw [e, e2]
  rfl
theorem ik_perm {a b : Array Keyed} (hI : IntKeys a) (p : b.Perm a) : IntKeys b := fun q hq => hI q ((Array.perm_iff_toList_perm.mp p).mem_iff.mp hq)

section
variable {prog : Program} {w : World} {A : Around} {E : Value → Shared → Prop} {s : Shared} {pd : Array (Nat × Nat × Nat)} {g : Nat}

theorem ltK {a : Array Keyed} {i j : Nat} {Q : Option Bool → SortSt → Prop} (hI : IntKeys a) (hi : i < a.size) (hj : j < a.size) (h : Q (some (decide (K a i < K a j))) (SortSt.mk' oneType' a pd g none)) :
    wpS (model prog w) A E s (ltAt' i j) Q (SortSt.mk' oneType' a pd g none) := by
  obtain ⟨t, p, e1⟩ := key_at hI hi
  obtain ⟨u, q, e2⟩ := key_at hI hj
  exact wpS_ltAt rfl e1 e2 h

theorem countLo {lo nrem : Nat} {a : Array Keyed} {Q : Option Nat → SortSt → Prop} (hI : IntKeys a) (h1 : 1 ≤ nrem) (hsz : lo + nrem ≤ a.size) (hd : ∀ i j, i < j → j < nrem → K a (lo + i) ≠ K a (lo + j))
    (h : ∀ m a', 1 ≤ m → m ≤ nrem → (∀ i j, i ≤ j → j < m → K a' (lo + i) ≤ K a' (lo + j)) → a'.Perm a → (∀ i, i < lo → a'[i]? = a[i]?) → Q (some m) (SortSt.mk' oneType' a' pd g none)) :
    wpS (model prog w) A E s (countRun' lo nrem) Q (SortSt.mk' oneType' a pd g none) := by
  rw [countRun'_eq]
  refine wpS_bind (wpS_mono (wpS_forRange (I := fun x c st' => st' = SortSt.mk' oneType' a pd g none ∧ c = (none, x) ∧ ∀ i, i + 1 < x → K a (lo + i) < K a (lo + (i + 1)))
    (Q := fun c st' => st' = SortSt.mk' oneType' a pd g none ∧ ∃ n, c = (none, n) ∧ 1 ≤ n ∧ n ≤ nrem ∧ (∀ i, i + 1 < n → K a (lo + i) < K a (lo + (i + 1))) ∧ (n < nrem → K a (lo + n) < K a (lo + n - 1))) ?_ ?_ ⟨rfl, rfl, fun i hi => by (first | lia | omega)⟩) ?_)
  · rintro x c st' hx1 hxn ⟨rfl, rfl, asc⟩
    dsimp only
    refine wpS_bind (ltK hI (by (first | lia | omega)) (by (first | lia | omega)) ?_)
    dsimp only
    by_cases hlt : K a (lo + x) < K a (lo + x - 1)
    · rw [if_pos (decide_eq_true hlt)]
      exact wpS_pure ⟨rfl, x, rfl, hx1, by (first | lia | omega), asc, fun _ => hlt⟩
    · rw [if_neg (by simpa using hlt)]
      refine wpS_pure ⟨rfl, rfl, fun i hi => ?_⟩
      by_cases e : i + 1 = x
      · have h2 := hd i x (by (first | lia | omega)) hxn
        rw [e]
        have h3 : lo + x - 1 = lo + i := by (first | lia | omega)
        rw [h3] at hlt
        (first | lia | omega)
      · exact asc i (by (first | lia | omega))
  · rintro c st' ⟨rfl, rfl, asc⟩
    rw [Nat.max_eq_right h1] at asc ⊢
    exact ⟨rfl, nrem, rfl, h1, Nat.le_refl _, asc, fun q => absurd q (Nat.lt_irrefl _)⟩
  rintro c st' ⟨rfl, n, rfl, hn1, hn2, asc, dn⟩
  dsimp only
  by_cases he : n = nrem
  · rw [if_pos (by simpa using he)]
    exact wpS_pure (h n a hn1 hn2 (chain_le fun i hi => Int.le_of_lt (asc i hi)) (Array.Perm.refl _) fun _ _ => rfl)
  rw [if_neg (by simpa using he)]
  have dn := dn (by (first | lia | omega))
  by_cases hgt : n > 1
  · rw [if_pos hgt]
    refine wpS_bind (ltK hI (by (first | lia | omega)) (by (first | lia | omega)) ?_)
    dsimp only
    have hr : K a lo < K a (lo + n - 1) := by
      have := chain_lt (f := fun i => K a (lo + i)) asc 0 (n - 1) (by (first | lia | omega)) (by (first | lia | omega))
      have e : lo + n - 1 = lo + (n - 1) := by (first | lia | omega)
      rw [e]; exact this
    rw [decide_eq_true hr, if_pos rfl]
    exact wpS_pure (h n a hn1 hn2 (chain_le fun i hi => Int.le_of_lt (asc i hi)) (Array.Perm.refl _) fun _ _ => rfl)
  rw [if_neg hgt]
  have : n = 1 := by (first | lia | omega)
  subst this
  refine wpS_bind (wpS_lift (wpAny_rule ⟨rfl, ?_⟩))
  refine wpS_bind (wpS_mono (wpS_forRange (I := fun x c st' => st' = SortSt.mk' oneType' a pd g none ∧ c = (none, x, 0) ∧ ∀ i, i + 1 < x → K a (lo + (i + 1)) < K a (lo + i))
    (Q := fun c st' => st' = SortSt.mk' oneType' a pd g none ∧ ∃ n, c = (none, n, 0) ∧ 2 ≤ n ∧ n ≤ nrem ∧ (∀ i, i + 1 < n → K a (lo + (i + 1)) < K a (lo + i))) ?_ ?_ ⟨rfl, rfl, fun i hi => ?_⟩) ?_)
  · rintro x c st' hx1 hxn ⟨rfl, rfl, dsc⟩
    dsimp only
    refine wpS_bind (ltK hI (by (first | lia | omega)) (by (first | lia | omega)) ?_)
    dsimp only
    by_cases hlt : K a (lo + x) < K a (lo + x - 1)
    · rw [if_pos (decide_eq_true hlt), if_neg (by decide)]
      refine wpS_pure ⟨rfl, rfl, fun i hi => ?_⟩
      by_cases e : i + 1 = x
      · have h3 : lo + x - 1 = lo + i := by (first | lia | omega)
        rw [h3] at hlt; rw [e]; exact hlt
      · exact dsc i (by (first | lia | omega))
    · rw [if_neg (by simpa using hlt)]
      refine wpS_bind (ltK hI (by (first | lia | omega)) (by (first | lia | omega)) ?_)
      dsimp only
      have h2 := hd (x - 1) x (by (first | lia | omega)) hxn
      have h3 : lo + (x - 1) = lo + x - 1 := by (first | lia | omega)
      rw [h3] at h2
      rw [if_pos (decide_eq_true (by (first | lia | omega)))]
      exact wpS_pure ⟨rfl, x, rfl, hx1, by (first | lia | omega), dsc⟩
  · rintro c st' ⟨rfl, rfl, dsc⟩
    rw [Nat.max_eq_right (by (first | lia | omega))] at dsc ⊢
    exact ⟨rfl, nrem, rfl, by (first | lia | omega), Nat.le_refl _, dsc⟩
  · have : i = 0 := by (first | lia | omega)
    subst this
    have e : lo + 1 - 1 = lo + 0 := by (first | lia | omega)
    rw [e] at dn; exact dn
  rintro c st' ⟨rfl, n, rfl, hn1, hn2, dsc⟩
  dsimp only
  rw [if_neg (by decide)]
  refine wpS_bind (wpS_reverse ?_)
  have hK : ∀ k, K (mirror a lo (lo + n) ((lo + n - lo) / 2)) k = if lo ≤ k ∧ k < lo + n then K a (lo + (lo + n) - 1 - k) else K a k := fun k => K_mirror (by (first | lia | omega)) k
  have hperm := mirror_perm a lo (lo + n) ((lo + n - lo) / 2)
  have hout : ∀ i, i < lo → (mirror a lo (lo + n) ((lo + n - lo) / 2))[i]? = a[i]? := fun i hi => by
    rw [getElem?_mirror_all (by (first | lia | omega)), if_neg (by (first | lia | omega))]
  have hsz' : (mirror a lo (lo + n) ((lo + n - lo) / 2)).size = a.size := mirror_size _ _ _ _
  generalize mirror a lo (lo + n) ((lo + n - lo) / 2) = b at hK hperm hout hsz' ⊢
  have hIb := ik_perm hI hperm
  show wpS _ _ _ _ _ _ (SortSt.mk' oneType' b pd g none)
  refine wpS_bind (wpS_mono (wpS_forRange (I := fun x c st' => st' = SortSt.mk' oneType' b pd g none ∧ c = (none, x) ∧ ∀ i, i + 1 < x → K b (lo + i) ≤ K b (lo + (i + 1)))
    (Q := fun c st' => st' = SortSt.mk' oneType' b pd g none ∧ ∃ n, c = (none, n) ∧ 1 ≤ n ∧ n ≤ nrem ∧ (∀ i, i + 1 < n → K b (lo + i) ≤ K b (lo + (i + 1)))) ?_ ?_ ⟨rfl, rfl, fun i hi => ?_⟩) ?_)
  · rintro x c st' hx1 hxn ⟨rfl, rfl, asc⟩
    dsimp only
    refine wpS_bind (ltK hIb (by (first | lia | omega)) (by (first | lia | omega)) ?_)
    dsimp only
    by_cases hlt : K b (lo + x) < K b (lo + x - 1)
    · rw [if_pos (decide_eq_true hlt)]
      exact wpS_pure ⟨rfl, x, rfl, by (first | lia | omega), by (first | lia | omega), asc⟩
    · rw [if_neg (by simpa using hlt)]
      refine wpS_pure ⟨rfl, rfl, fun i hi => ?_⟩
      by_cases e : i + 1 = x
      · have h3 : lo + x - 1 = lo + i := by (first | lia | omega)
        rw [h3] at hlt; rw [e]; (first | lia | omega)
      · exact asc i (by (first | lia | omega))
  · rintro c st' ⟨rfl, rfl, asc⟩
    rw [Nat.max_eq_right (by (first | lia | omega))] at asc ⊢
    exact ⟨rfl, nrem, rfl, by (first | lia | omega), Nat.le_refl _, asc⟩
  · rw [hK, hK, if_pos (by (first | lia | omega)), if_pos (by (first | lia | omega))]
    have := dsc (n - 2 - i) (by (first | lia | omega))
    have e1 : lo + (lo + n) - 1 - (lo + i) = lo + (n - 2 - i + 1) := by (first | lia | omega)
    have e2 : lo + (lo + n) - 1 - (lo + (i + 1)) = lo + (n - 2 - i) := by (first | lia | omega)
    rw [e1, e2]; (first | lia | omega)
  · rintro c st' ⟨rfl, n', rfl, hn1', hn2', asc⟩
    exact wpS_pure (h n' b hn1' hn2' (chain_le asc) hperm hout)

/-- insertion, upon numbers -/
noncomputable def insF (f : Nat → Int) (x l i : Nat) : Int := if i = l then f x else if l < i ∧ i ≤ x then f (i - 1) else f i
theorem insF_step {f : Nat → Int} {x l : Nat} (hs : ∀ i j, i ≤ j → j < x → f i ≤ f j) (hl : l ≤ x) (h1 : ∀ i, i < l → f i ≤ f x) (h2 : ∀ i, l ≤ i → i < x → f x < f i) (i : Nat) (hi : i + 1 < x + 1) : insF f x l i ≤ insF f x l (i + 1) := by
  have hi : i < x := by (first | lia | omega)
  unfold insF
  by_cases c1 : i < l
  · rw [if_neg (by (first | lia | omega)), if_neg (by (first | lia | omega))]
    by_cases c2 : i + 1 = l
    · rw [if_pos c2]; exact h1 i c1
    · rw [if_neg c2, if_neg (by (first | lia | omega))]; exact hs i (i + 1) (by (first | lia | omega)) (by (first | lia | omega))
  · rw [if_neg (show ¬ i + 1 = l by (first | lia | omega)), if_pos (show l < i + 1 ∧ i + 1 ≤ x by (first | lia | omega)), Nat.add_sub_cancel]
    by_cases c2 : i = l
    · rw [if_pos c2, c2]; exact Int.le_of_lt (h2 l (Nat.le_refl _) (c2 ▸ hi))
    · rw [if_neg c2, if_pos (by (first | lia | omega))]; exact hs (i - 1) i (by (first | lia | omega)) hi
theorem bub_d {lo x l : Nat} (h : l ≤ x) : lo + x - (lo + x - (lo + l)) = lo + l ∧ lo + x - (lo + l) ≤ lo + x := ⟨Nat.sub_sub_self (Nat.add_le_add_left h lo), Nat.sub_le _ _⟩
theorem K_bub {b : Array Keyed} {lo x l i : Nat} (hx : lo + x < b.size) (hl : l ≤ x) : K (bubble b (lo + x) (lo + x - (lo + l))) (lo + i) = insF (fun i => K b (lo + i)) x l i := by
  rw [K_bubble hx (bub_d hl).2, (bub_d hl).1]
  unfold insF
  by_cases c : i = l
  · rw [if_pos (by rw [c]), if_pos c]
  · rw [if_neg (by (first | lia | omega)), if_neg c]
    by_cases c2 : l < i ∧ i ≤ x
    · rw [if_pos (by (first | lia | omega)), if_pos c2, show lo + i - 1 = lo + (i - 1) by (first | lia | omega)]
    · rw [if_neg (by (first | lia | omega)), if_neg c2]
theorem lt_sz {lo n x : Nat} {a b : Array Keyed} (h : b.size = a.size) (hs : lo + n ≤ a.size) (hx : x < n) : lo + x < b.size := by (first | lia | omega)
theorem mid1 {l r : Nat} (h : ¬ l ≥ r) : l ≤ (l + r) / 2 ∧ (l + r) / 2 < r ∧ (l + r) / 2 + 1 ≤ r := by (first | lia | omega)
theorem shr {a b n x : Nat} (h1 : a < b) (h2 : b ≤ n - x) : a ≤ n - (x + 1) := Nat.le_sub_one_of_lt (Nat.lt_of_lt_of_le h1 h2)
theorem mid2 {l r x y : Nat} (h : ¬ l ≥ r) (h3 : r - l ≤ x - y) : (l + r) / 2 - l ≤ x - (y + 1) ∧ r - ((l + r) / 2 + 1) ≤ x - (y + 1) :=
  ⟨shr (Nat.sub_lt_sub_right (mid1 h).1 (mid1 h).2.1) h3, shr (Nat.sub_lt_sub_left (Nat.lt_of_not_le h) (Nat.lt_succ_of_le (mid1 h).1)) h3⟩
theorem mid3 {l r x y : Nat} (h : l ≤ r) (h3 : r - l ≤ x - max 0 x) : l = r := by
  rw [Nat.zero_max, Nat.sub_self] at h3
  exact Nat.le_antisymm h (Nat.sub_eq_zero_iff_le.mp (Nat.le_zero.mp h3))

/-- insertion, from lo on -/
theorem binaryLo {lo n ok : Nat} {a : Array Keyed} {Q : Bool → SortSt → Prop} (hI : IntKeys a) (hok : 1 ≤ ok) (hon : ok ≤ n) (hsz : lo + n ≤ a.size) (hs : ∀ i j, i ≤ j → j < ok → K a (lo + i) ≤ K a (lo + j))
    (h : ∀ a', (∀ i j, i ≤ j → j < n → K a' (lo + i) ≤ K a' (lo + j)) → a'.Perm a → (∀ i, i < lo → a'[i]? = a[i]?) → Q true (SortSt.mk' oneType' a' pd g none)) :
    wpS (model prog w) A E s (binarySort' lo n ok) Q (SortSt.mk' oneType' a pd g none) := by
  rw [binarySort'_eq]
  refine wpS_bind (wpS_mono (wpS_forRange (I := fun x c st' => c = (none, ()) ∧ ∃ b, st' = SortSt.mk' oneType' b pd g none ∧ (∀ i j, i ≤ j → j < x → K b (lo + i) ≤ K b (lo + j)) ∧ b.Perm a ∧ ∀ i, i < lo → b[i]? = a[i]?)
    (Q := fun c st' => c = (none, ()) ∧ ∃ b, st' = SortSt.mk' oneType' b pd g none ∧ (∀ i j, i ≤ j → j < n → K b (lo + i) ≤ K b (lo + j)) ∧ b.Perm a ∧ ∀ i, i < lo → b[i]? = a[i]?) ?_ ?_ ⟨rfl, a, rfl, by rw [Nat.max_eq_left hok]; exact hs, Array.Perm.refl _, fun _ _ => rfl⟩) ?_)
  · rintro x c st' hx1 hxn ⟨rfl, b, rfl, hb, hp, ho⟩
    have hIb := ik_perm hI hp
    have hxs := lt_sz hp.size_eq hsz hxn
    refine wpS_bind (wpS_mono (wpS_forRange (I := fun y c st' => st' = SortSt.mk' oneType' b pd g none ∧ ∃ l r, c = (none, l, r) ∧ l ≤ r ∧ r ≤ x ∧ (∀ i, i < l → K b (lo + i) ≤ K b (lo + x)) ∧ (∀ i, r ≤ i → i < x → K b (lo + x) < K b (lo + i)) ∧ r - l ≤ x - y)
      (Q := fun c st' => st' = SortSt.mk' oneType' b pd g none ∧ ∃ l r, c = (none, l, r) ∧ l ≤ x ∧ (∀ i, i < l → K b (lo + i) ≤ K b (lo + x)) ∧ (∀ i, l ≤ i → i < x → K b (lo + x) < K b (lo + i))) ?_ ?_ ⟨rfl, 0, x, rfl, Nat.zero_le _, Nat.le_refl _, fun i hi => absurd hi (Nat.not_lt_zero _), fun i h1 h2 => absurd h2 (Nat.not_lt.mpr h1), Nat.le_refl _⟩) ?_)
    · rintro y c st' _ hy ⟨rfl, l, r, rfl, hlr, hrx, h1, h2, h3⟩
      dsimp only
      by_cases hge : l ≥ r
      · rw [if_pos hge]
        have : l = r := Nat.le_antisymm hlr hge
        subst this
        exact wpS_pure ⟨rfl, l, l, rfl, hrx, h1, h2⟩
      · rw [if_neg hge]
        obtain ⟨m1, m2, m3⟩ := mid1 hge
        obtain ⟨m4, m5⟩ := mid2 hge h3
        have m6 := Nat.lt_of_lt_of_le m2 hrx
        refine wpS_bind (ltK hIb hxs (Nat.lt_of_le_of_lt (Nat.add_le_add_left (Nat.le_of_lt m6) _) hxs) ?_)
        dsimp only
        by_cases hlt : K b (lo + x) < K b (lo + (l + r) / 2)
        · rw [if_pos (decide_eq_true hlt)]
          exact wpS_pure ⟨rfl, l, (l + r) / 2, rfl, m1, Nat.le_of_lt m6, h1, fun i hi1 hi2 => Int.lt_of_lt_of_le hlt (hb _ i hi1 hi2), m4⟩
        · rw [if_neg (by simpa using hlt)]
          exact wpS_pure ⟨rfl, (l + r) / 2 + 1, r, rfl, m3, hrx, fun i hi => Int.le_trans (hb i _ (Nat.le_of_lt_succ hi) m6) (Int.not_lt.mp hlt), h2, m5⟩
    · rintro c st' ⟨rfl, l, r, rfl, hlr, hrx, h1, h2, h3⟩
      have : l = r := mid3 (y := 0) hlr h3
      subst this
      exact ⟨rfl, l, l, rfl, hrx, h1, h2⟩
    · rintro c st' ⟨rfl, l, r, rfl, hlx, h1, h2⟩
      show wpS _ _ _ _ (do moveDown' (lo + x) (lo + l); pure (ForInStep.yield (none, ()))) _ _
      rw [moveDown'_eq]
      refine wpS_bind (wpS_modify (wpS_pure ⟨rfl, bubble b (lo + x) (lo + x - (lo + l)), rfl, ?_, (bubble_perm _ _ _).trans hp, fun i hi => ?_⟩))
      · refine chain_le (f := fun i => K (bubble b (lo + x) (lo + x - (lo + l))) (lo + i)) fun i hi => ?_
        rw [K_bub hxs hlx, K_bub hxs hlx]
        exact insF_step hb hlx h1 h2 i hi
      · rw [getElem?_bubble hxs _ (bub_d hlx).2, (bub_d hlx).1, if_neg (Nat.ne_of_lt (Nat.lt_of_lt_of_le hi (Nat.le_add_right _ _))), if_neg fun q => Nat.lt_asymm (Nat.lt_of_le_of_lt (Nat.le_add_right _ _) q.1) hi]
        exact ho i hi
  · rintro c st' ⟨rfl, b, rfl, hb, hp, ho⟩
    rw [Nat.max_eq_left hok, Nat.max_eq_right hon] at hb
    exact ⟨rfl, b, rfl, hb, hp, ho⟩
  · rintro c st' ⟨rfl, b, rfl, hb, hp, ho⟩
    exact wpS_pure (h b hb hp ho)
end
end Mine

namespace Mine
open PySem PySem.Calls PyProof.Rows

noncomputable def gallop2 : Bool → Keyed → Array Keyed → Nat → Nat → Nat → StateT SortSt Sem (Option Nat) := sortPriv% PySem.Builtin.gallop
noncomputable def mergeLo2 : Array Keyed → Array Keyed → StateT SortSt Sem (Array Keyed) := sortPriv% PySem.Builtin.mergeLo
noncomputable def mergeHi2 : Array Keyed → Array Keyed → StateT SortSt Sem (Array Keyed) := sortPriv% PySem.Builtin.mergeHi

noncomputable def beyond2 (left : Bool) (key : Keyed) (arr : Array Keyed) (base : Nat) (i : Nat) : StateT SortSt Sem (Option Bool) := do
  let x ← elem' arr (base + i)
  if left then lt' x key else return (← lt' key x).map (!·)

theorem gallop2_eq (left : Bool) (key : Keyed) (arr : Array Keyed) (base n hint : Nat) : gallop2 left key arr base n hint = (do
  let mut lastofs := 0
  let mut ofs := 1
  let mut lo := 0
  let mut hi := 0
  let some right ← beyond2 left key arr base hint | return none
  if right then
    let maxofs := n - hint
    for _ in [0:n] do
      if ofs ≥ maxofs then break
      let some more ← beyond2 left key arr base (hint + ofs) | return none
      if !more then break
      lastofs := ofs
      ofs := 2 * ofs + 1
    lo := hint + lastofs + 1
    hi := hint + min ofs maxofs
  else
    let maxofs := hint + 1
    for _ in [0:n] do
      if ofs ≥ maxofs then break
      let some found ← beyond2 left key arr base (hint - ofs) | return none
      if found then break
      lastofs := ofs
      ofs := 2 * ofs + 1
    lo := hint + 1 - min ofs maxofs
    hi := hint - lastofs
  for _ in [0:n] do
    if lo ≥ hi then break
    let m := lo + (hi - lo) / 2
    let some more ← beyond2 left key arr base m | return none
    if more then lo := m + 1 else hi := m
  return some hi) := rfl

theorem mergeAt2_eq (i : Nat) : mergeAt' i = (do
  let s ← get
  let (some (sa, na, power), some (sb, nb, _)) := ((pendingOf s)[i]?, (pendingOf s)[i + 1]?) | unsupported "internal:list.sort.pending"
  set (setPending s (((pendingOf s).setIfInBounds i (sa, na + nb, power)).eraseIdxIfInBounds (i + 1)))
  let some k ← gallop2 false (← elem' (arrOf s) sb) (arrOf s) sa na 0 | return false
  let (sa, na) := (sa + k, na - k)
  if na == 0 then return true
  let some nb ← gallop2 true (← elem' (arrOf s) (sa + na - 1)) (arrOf s) sb nb (nb - 1) | return false
  if nb == 0 then return true
  let x := (arrOf s).extract sa sb
  let y := (arrOf s).extract sb (sb + nb)
  let merged ← if na ≤ nb then mergeLo2 x y else mergeHi2 x y
  modify fun s => setArr s (merged.toList.zipIdx.foldl (fun a (p, j) => a.setIfInBounds (sa + j) p) (arrOf s))
  return (failedOf (← get)).isNone) := rfl

theorem m_lt {lo hi : Nat} (h : ¬ lo ≥ hi) : lo + (hi - lo) / 2 < hi := by (first | lia | omega)
theorem d1 {lo hi m n x : Nat} (h : hi - lo ≤ n - x) (hl : lo ≤ m) (hm : m < hi) : hi - (m + 1) ≤ n - (x + 1) :=
  Nat.le_sub_one_of_lt (Nat.lt_of_lt_of_le (Nat.sub_lt_sub_left (Nat.lt_of_le_of_lt hl hm) (Nat.lt_succ_of_le hl)) h)
theorem d2 {lo hi m n x : Nat} (h : hi - lo ≤ n - x) (hl : lo ≤ m) (hm : m < hi) : m - lo ≤ n - (x + 1) :=
  Nat.le_sub_one_of_lt (Nat.lt_of_lt_of_le (Nat.sub_lt_sub_right hl hm) h)
theorem d3 {lo hi k n : Nat} (h1 : lo ≤ k) (h2 : k ≤ hi) (h4 : hi - lo ≤ n - max 0 n) : hi = k ∧ lo = k := by
  rw [Nat.zero_max, Nat.sub_self] at h4
  have h := Nat.sub_eq_zero_iff_le.mp (Nat.le_zero.mp h4)
  exact ⟨Nat.le_antisymm (Nat.le_trans h h1) h2, Nat.le_antisymm h1 (Nat.le_trans h2 h)⟩
theorem dbl {x ofs : Nat} (h : x + 1 ≤ ofs) : x + 1 + 1 ≤ 2 * ofs + 1 := by (first | lia | omega)

section
variable {prog : Program} {w : World} {A : Around} {E : Value → Shared → Prop} {s : Shared}
theorem wpS_set {σ : Type} {M : Model} {st st' : σ} {Q : PUnit → σ → Prop} (h : Q ⟨⟩ st') : wpS M A E s (set st' : StateT σ Sem PUnit) Q st := by
  unfold wpS; rw [StateT.run_set]; exact wpAny_pure ⟨rfl, h⟩

theorem elem_ok {a : Array Keyed} {i : Nat} {p : Keyed} {st : SortSt} {Q : Keyed → SortSt → Prop} (h : a[i]? = some p) (hq : Q p st) : wpS (model prog w) A E s (elem' a i) Q st := by
  rw [elem'_eq, h]; exact wpS_pure hq

theorem sets (c : Nat) : ∀ (xs : List Keyed) (j : Nat) (a : Array Keyed), c + j + xs.length ≤ a.size → (List.foldl (fun a (x : Keyed × Nat) => a.setIfInBounds (c + x.2) x.1) a (xs.zipIdx j)).toList = a.toList.take (c + j) ++ (xs ++ a.toList.drop (c + j + xs.length))
  | [], j, a, h => by simp
  | x :: xs, j, a, h => by
    simp only [List.length_cons] at h
    rw [List.zipIdx_cons, List.foldl_cons, sets c xs (j + 1) _ (by rw [Array.size_setIfInBounds]; (first | lia | omega))]
    have hlt : c + j < a.toList.length := by rw [Array.length_toList]; (first | lia | omega)
    have ht : (a.toList.take (c + j)).length = c + j := by rw [List.length_take]; (first | lia | omega)
    rw [Array.toList_setIfInBounds]
    show List.take (c + (j + 1)) (a.toList.set (c + j) x) ++ (xs ++ List.drop (c + (j + 1) + xs.length) (a.toList.set (c + j) x)) = _
    rw [List.drop_set_of_lt (by (first | lia | omega))]
    have e1 : List.take (c + (j + 1)) (a.toList.set (c + j) x) = List.take (c + j) a.toList ++ [x] := by
      rw [List.set_eq_take_append_cons_drop, if_pos hlt, List.take_append, ht, List.take_of_length_le (by (first | lia | omega)), show c + (j + 1) - (c + j) = 1 by (first | lia | omega)]; simp
    rw [e1, List.append_assoc, List.length_cons, show c + (j + 1) + xs.length = c + j + (xs.length + 1) by (first | lia | omega)]
    rfl

theorem minRun_le : ∀ (f n r : Nat), n ≤ f → r ≤ 1 → minRun' f n r ≤ 64
  | 0, n, r, h, hr => by show n + r ≤ 64; (first | lia | omega)
  | f + 1, n, r, h, hr => by
    rw [minRun'_succ]
    split
    · (first | lia | omega)
    · exact minRun_le f _ _ (by (first | lia | omega)) (by (first | lia | omega))
end
end Mine

namespace Mine
open PySem PySem.Calls PyProof.Rows

/-! merging two rows of ints -/
noncomputable def nk (p : Keyed) : Int := numOf p.1
noncomputable def IK (p : Keyed) : Prop := ∃ n t, p.1 = .int n t
noncomputable def setMin2 : Nat → StateT SortSt Sem Unit := sortPriv% PySem.Builtin.setMinGallop

section
variable {prog : Program} {w : World} {A : Around} {E : Value → Shared → Prop} {s : Shared}

theorem ltI {st : SortSt} {p q : Keyed} {Q : Option Bool → SortSt → Prop} (hk : kindOf st = oneType') (hp : IK p) (hq : IK q) (h : Q (some (decide (nk p < nk q))) st) :
    wpS (model prog w) A E s (lt' p q) Q st := by
  obtain ⟨x, a⟩ := p
  obtain ⟨y, b⟩ := q
  obtain ⟨n, t, rfl⟩ := hp
  obtain ⟨m, u, rfl⟩ := hq
  rw [lt'_eq]
  refine wpS_bind (wpS_get ?_)
  rw [hk, keyLt'_oneType]
  refine wpS_bind (wpS_lift (wpAny_attempt (oneLt_int ⟨rfl, ?_⟩)))
  exact wpS_pure h

theorem gl1 {hint lo ofs n k : Nat} (h1 : hint + lo < k) (hk : k ≤ n) : hint + lo + 1 ≤ k := h1
theorem gl2 {hint ofs n k : Nat} (h : k ≤ hint + ofs) (hn : hint < n) (hk : k ≤ n) : k ≤ hint + min ofs (n - hint) := by
  rcases Nat.le_total ofs (n - hint) with q | q
  · rw [Nat.min_eq_left q]; exact h
  · rw [Nat.min_eq_right q, Nat.add_sub_of_le (Nat.le_of_lt hn)]; exact hk
theorem gl3 {hint ofs n : Nat} (hn : hint < n) : hint + min ofs (n - hint) ≤ n := Nat.le_trans (Nat.add_le_add_left (Nat.min_le_right _ _) _) (Nat.le_of_eq (Nat.add_sub_of_le (Nat.le_of_lt hn)))
theorem gl4 {hint ofs n : Nat} (hn : hint < n) (h : ¬ ofs ≥ n - hint) : hint + ofs < n := Nat.add_lt_of_lt_sub' (Nat.lt_of_not_le h)
theorem gl5 {hint ofs n k : Nat} (hn : hint < n) (hk : k ≤ n) (h : ofs ≥ n - hint) : k ≤ hint + ofs := Nat.le_trans hk (Nat.sub_le_iff_le_add'.mp h)
theorem gl6 {hint ofs n k : Nat} (hn : hint < n) (hk : k ≤ n) (h : max 0 n + 1 ≤ ofs) : k ≤ hint + ofs := by (first | lia | omega)
theorem gr1 {hint ofs k : Nat} (h : ofs ≥ hint + 1 ∨ hint - ofs < k) : hint + 1 - min ofs (hint + 1) ≤ k := by
  rcases Nat.lt_or_ge ofs (hint + 1) with q | q
  · rw [Nat.min_eq_left (Nat.le_of_lt q), Nat.sub_add_comm (Nat.le_of_lt_succ q)]
    exact h.elim (fun e => absurd q (Nat.not_lt.mpr e)) id
  · rw [Nat.min_eq_right q, Nat.sub_self]
    exact Nat.zero_le _
theorem gr2 {hint ofs n : Nat} (hn : hint < n) : hint - ofs < n := Nat.lt_of_le_of_lt (Nat.sub_le _ _) hn
theorem gr3 {hint lo n : Nat} (hn : hint < n) : hint - lo ≤ n := Nat.le_trans (Nat.sub_le _ _) (Nat.le_of_lt hn)
theorem gr4 {hint ofs n : Nat} (hn : hint < n) (h : max 0 n + 1 ≤ ofs) : ofs ≥ hint + 1 := by (first | lia | omega)

/-- galloping, from anywhere -/
theorem gallopG {left : Bool} {key : Keyed} {arr : Array Keyed} {base n hint k : Nat} {st : SortSt} {Q : Option Nat → SortSt → Prop} (hn : hint < n) (hkn : k ≤ n)
    (hb : ∀ (i : Nat), i < n → ∀ {Q' : Option Bool → SortSt → Prop}, Q' (some (decide (i < k))) st → wpS (model prog w) A E s (beyond2 left key arr base i) Q' st)
    (h : Q (some k) st) : wpS (model prog w) A E s (gallop2 left key arr base n hint) Q st := by
  have fin : ∀ lo hi : Nat, lo ≤ k → k ≤ hi → hi ≤ n → wpS (model prog w) A E s (
      forIn [0:n] ((none, lo, hi) : Option (Option Nat) × Nat × Nat) fun _ __s => do
        if __s.2.1 ≥ __s.2.2 then pure (ForInStep.done (none, __s.2.1, __s.2.2)) else do
          let __x ← beyond2 left key arr base (__s.2.1 + (__s.2.2 - __s.2.1) / 2)
          match __x with
          | some more => if more = true then pure (ForInStep.yield (none, __s.2.1 + (__s.2.2 - __s.2.1) / 2 + 1, __s.2.2)) else pure (ForInStep.yield (none, __s.2.1, __s.2.1 + (__s.2.2 - __s.2.1) / 2))
          | _ => pure (ForInStep.done (some none, __s.2.1, __s.2.2))) (fun c st' => st' = st ∧ ∃ lo, c = (none, lo, k)) st := by
    intro lo hi h1 h2 h3
    refine (wpS_forRange (I := fun x c st' => st' = st ∧ ∃ lo hi, c = (none, lo, hi) ∧ lo ≤ k ∧ k ≤ hi ∧ hi ≤ n ∧ hi - lo ≤ n - x) ?_ ?_ ⟨rfl, lo, hi, rfl, h1, h2, h3, Nat.le_trans (Nat.sub_le _ _) h3⟩)
    · rintro x c st' _ hxn ⟨rfl, lo, hi, rfl, h1, h2, h3, h4⟩
      dsimp only
      by_cases hge : lo ≥ hi
      · rw [if_pos hge]
        have : hi = k := Nat.le_antisymm (Nat.le_trans hge h1) h2
        subst this
        exact wpS_pure ⟨rfl, _, rfl⟩
      · rw [if_neg hge]
        refine wpS_bind (hb _ (Nat.lt_of_lt_of_le (m_lt hge) h3) ?_)
        dsimp only
        by_cases hm : lo + (hi - lo) / 2 < k
        · rw [if_pos (by simpa using hm)]
          exact wpS_pure ⟨rfl, _, _, rfl, hm, h2, h3, d1 h4 (Nat.le_add_right _ _) (m_lt hge)⟩
        · rw [if_neg (by simpa using hm)]
          exact wpS_pure ⟨rfl, _, _, rfl, h1, Nat.le_of_not_lt hm, Nat.le_trans (Nat.le_of_lt (m_lt hge)) h3, d2 h4 (Nat.le_add_right _ _) (m_lt hge)⟩
    · rintro c st' ⟨rfl, lo, hi, rfl, h1, h2, h3, h4⟩
      have : hi = k := (d3 h1 h2 h4).1
      subst this
      exact ⟨rfl, _, rfl⟩
  have nd : ∀ (c : Option (Option Nat) × Nat × Nat) (st' : SortSt), (st' = st ∧ ∃ lo, c = (none, lo, k)) → ∃ lo, c = (none, lo, k) ∧ st' = st := fun c st' ⟨a, lo, b⟩ => ⟨lo, b, a⟩
  rw [gallop2_eq]
  refine wpS_bind (hb hint hn ?_)
  dsimp only
  by_cases h0 : hint < k
  · rw [if_pos (by simpa using h0)]
    refine wpS_bind (wpS_forRange (I := fun x c st' => st' = st ∧ ∃ lo ofs, c = (none, lo, ofs) ∧ hint + lo < k ∧ x + 1 ≤ ofs)
      (Q := fun c st' => wpS (model prog w) A E s _ Q st') ?_ ?_ ⟨rfl, 0, 1, rfl, h0, Nat.le_refl _⟩)
    · rintro x c st' _ hxn ⟨rfl, lo, ofs, rfl, h1, h2⟩
      dsimp only
      by_cases hge : ofs ≥ n - hint
      · rw [if_pos hge]
        exact wpS_pure (wpS_bind (wpS_mono (fin (hint + lo + 1) (hint + min ofs (n - hint)) (gl1 (ofs := ofs) h1 hkn) (gl2 (gl5 hn hkn hge) hn hkn) (gl3 hn)) fun c st' h' => by obtain ⟨lo', rfl, rfl⟩ := nd _ _ h'; exact wpS_pure h))
      · rw [if_neg hge]
        refine wpS_bind (hb _ (gl4 hn hge) ?_)
        dsimp only
        by_cases hm : hint + ofs < k
        · rw [if_neg (by simpa using hm)]
          exact wpS_pure ⟨rfl, _, _, rfl, hm, dbl h2⟩
        · rw [if_pos (by simpa using hm)]
          exact wpS_pure (wpS_bind (wpS_mono (fin (hint + lo + 1) (hint + min ofs (n - hint)) (gl1 (ofs := ofs) h1 hkn) (gl2 (Nat.le_of_not_lt hm) hn hkn) (gl3 hn)) fun c st' h' => by obtain ⟨lo', rfl, rfl⟩ := nd _ _ h'; exact wpS_pure h))
    · rintro c st' ⟨rfl, lo, ofs, rfl, h1, h2⟩
      exact wpS_bind (wpS_mono (fin (hint + lo + 1) (hint + min ofs (n - hint)) (gl1 (ofs := ofs) h1 hkn) (gl2 (gl6 hn hkn h2) hn hkn) (gl3 hn)) fun c st' h' => by obtain ⟨lo', rfl, rfl⟩ := nd _ _ h'; exact wpS_pure h)
  · rw [if_neg (by simpa using h0)]
    refine wpS_bind (wpS_forRange (I := fun x c st' => st' = st ∧ ∃ lo ofs, c = (none, lo, ofs) ∧ k ≤ hint - lo ∧ x + 1 ≤ ofs)
      (Q := fun c st' => wpS (model prog w) A E s _ Q st') ?_ ?_ ⟨rfl, 0, 1, rfl, Nat.le_of_not_lt h0, Nat.le_refl _⟩)
    · rintro x c st' _ hxn ⟨rfl, lo, ofs, rfl, h1, h2⟩
      dsimp only
      by_cases hge : ofs ≥ hint + 1
      · rw [if_pos hge]
        exact wpS_pure (wpS_bind (wpS_mono (fin (hint + 1 - min ofs (hint + 1)) (hint - lo) (gr1 (.inl hge)) h1 (gr3 hn)) fun c st' h' => by obtain ⟨lo', rfl, rfl⟩ := nd _ _ h'; exact wpS_pure h))
      · rw [if_neg hge]
        refine wpS_bind (hb _ (gr2 hn) ?_)
        dsimp only
        by_cases hm : hint - ofs < k
        · rw [if_pos (by simpa using hm)]
          exact wpS_pure (wpS_bind (wpS_mono (fin (hint + 1 - min ofs (hint + 1)) (hint - lo) (gr1 (.inr hm)) h1 (gr3 hn)) fun c st' h' => by obtain ⟨lo', rfl, rfl⟩ := nd _ _ h'; exact wpS_pure h))
        · rw [if_neg (by simpa using hm)]
          exact wpS_pure ⟨rfl, _, _, rfl, Nat.le_of_not_lt hm, dbl h2⟩
    · rintro c st' ⟨rfl, lo, ofs, rfl, h1, h2⟩
      exact wpS_bind (wpS_mono (fin (hint + 1 - min ofs (hint + 1)) (hint - lo) (gr1 (.inl (gr4 hn h2))) h1 (gr3 hn)) fun c st' h' => by obtain ⟨lo', rfl, rfl⟩ := nd _ _ h'; exact wpS_pure h)

end

theorem mergeLo2_eq (a b : Array Keyed) : mergeLo2 a b = (do
  rule "list.sort.merge-lo"
  let total := a.size + b.size
  let done (out : Array Keyed) (ia ib : Nat) := out ++ a.extract ia a.size ++ b.extract ib b.size
  let lastOfA (out : Array Keyed) (ia ib : Nat) := out ++ b.extract ib b.size ++ a.extract ia a.size
  let mut out : Array Keyed := #[← elem' b 0]
  let mut ia := 0
  let mut ib := 1
  if ib == b.size then return done out ia ib
  if ia + 1 == a.size then return lastOfA out ia ib
  let mut minGallop := gallopOf (← get)
  for _ in [0:total] do
    let mut acount := 0
    let mut bcount := 0
    for _ in [0:total] do
      let some bWins ← lt' (← elem' b ib) (← elem' a ia) | return done out ia ib
      if bWins then
        out := out.push (← elem' b ib); ib := ib + 1; bcount := bcount + 1; acount := 0
        if ib == b.size then return done out ia ib
        if bcount ≥ minGallop then break
      else
        out := out.push (← elem' a ia); ia := ia + 1; acount := acount + 1; bcount := 0
        if ia + 1 == a.size then return lastOfA out ia ib
        if acount ≥ minGallop then break
    rule "list.sort.gallop"
    minGallop := minGallop + 1
    for _ in [0:total] do
      if minGallop > 1 then minGallop := minGallop - 1
      setMin2 minGallop
      let some k ← gallop2 false (← elem' b ib) a ia (a.size - ia) 0 | return done out ia ib
      acount := k
      if k > 0 then
        out := out ++ a.extract ia (ia + k); ia := ia + k
        if ia + 1 == a.size then return lastOfA out ia ib
        if ia == a.size then return done out ia ib
      out := out.push (← elem' b ib); ib := ib + 1
      if ib == b.size then return done out ia ib
      let some k ← gallop2 true (← elem' a ia) b ib (b.size - ib) 0 | return done out ia ib
      bcount := k
      if k > 0 then
        out := out ++ b.extract ib (ib + k); ib := ib + k
        if ib == b.size then return done out ia ib
      out := out.push (← elem' a ia); ia := ia + 1
      if ia + 1 == a.size then return lastOfA out ia ib
      if acount < 7 && bcount < 7 then break
    minGallop := minGallop + 1
    setMin2 minGallop
  unsupported "internal:list.sort.merge-bound") := rfl
end Mine

namespace Mine
open PySem PySem.Calls PyProof.Rows

noncomputable def Asc (l : List Keyed) : Prop := l.Pairwise (fun p q => nk p ≤ nk q)
structure Mid (T out x y : List Keyed) : Prop where
  perm : (out ++ (x ++ y)).Perm T
  asc : Asc out
  le : ∀ p ∈ out, ∀ q ∈ x ++ y, nk p ≤ nk q
  ax : Asc x
  ay : Asc y
theorem Mid.swap {T out x y : List Keyed} (m : Mid T out x y) : Mid T out y x :=
  ⟨(List.Perm.append_left out List.perm_append_comm).trans m.perm, m.asc, fun p hp q hq => m.le p hp q (by rw [List.mem_append] at hq ⊢; exact hq.symm), m.ay, m.ax⟩
theorem Mid.left {T out u x y : List Keyed} (m : Mid T out (u ++ x) y) (h : ∀ p ∈ u, ∀ q ∈ y, nk p ≤ nk q) : Mid T (out ++ u) x y := by
  have ax := List.pairwise_append.mp m.ax
  refine ⟨?_, ?_, ?_, ax.2.1, m.ay⟩
  · have := m.perm; simpa [List.append_assoc] using this
  · refine List.pairwise_append.mpr ⟨m.asc, ax.1, fun p hp q hq => m.le p hp q ?_⟩
    simp [hq]
  · intro p hp q hq
    rcases List.mem_append.mp hp with hp | hp
    · refine m.le p hp q ?_
      rcases List.mem_append.mp hq with hq | hq <;> simp [hq]
    · rcases List.mem_append.mp hq with hq | hq
      · exact ax.2.2 p hp q hq
      · exact h p hp q hq
theorem Mid.right {T out u x y : List Keyed} (m : Mid T out x (u ++ y)) (h : ∀ p ∈ u, ∀ q ∈ x, nk p ≤ nk q) : Mid T (out ++ u) x y := (m.swap.left h).swap

/-- the same from behind -/
structure MidH (T out x y : List Keyed) : Prop where
  perm : ((x ++ y) ++ out).Perm T
  asc : Asc out
  le : ∀ p ∈ out, ∀ q ∈ x ++ y, nk q ≤ nk p
  ax : Asc x
  ay : Asc y
theorem MidH.swap {T out x y : List Keyed} (m : MidH T out x y) : MidH T out y x :=
  ⟨(List.Perm.append_right out List.perm_append_comm).trans m.perm, m.asc, fun p hp q hq => m.le p hp q (by rw [List.mem_append] at hq ⊢; exact hq.symm), m.ay, m.ax⟩
theorem MidH.right {T out u x y : List Keyed} (m : MidH T out x (y ++ u)) (h : ∀ p ∈ u, ∀ q ∈ x, nk q ≤ nk p) : MidH T (u ++ out) x y := by
  have ay := List.pairwise_append.mp m.ay
  refine ⟨?_, ?_, ?_, m.ax, ay.1⟩
  · have := m.perm; simpa [List.append_assoc] using this
  · refine List.pairwise_append.mpr ⟨ay.2.1, m.asc, fun p hp q hq => m.le q hq p ?_⟩
    simp [hp]
  · intro p hp q hq
    rcases List.mem_append.mp hp with hp | hp
    · rcases List.mem_append.mp hq with hq | hq
      · exact h p hp q hq
      · exact ay.2.2 q hq p hp
    · refine m.le p hp q ?_
      rcases List.mem_append.mp hq with hq | hq <;> simp [hq]
theorem MidH.left {T out u x y : List Keyed} (m : MidH T out (x ++ u) y) (h : ∀ p ∈ u, ∀ q ∈ y, nk q ≤ nk p) : MidH T (u ++ out) x y := (m.swap.right h).swap

/-- how many from the front -/
noncomputable def cutK (P : Keyed → Bool) (l : List Keyed) : Nat := (l.takeWhile P).length
theorem cutK_le (P : Keyed → Bool) (l : List Keyed) : cutK P l ≤ l.length := by
  unfold cutK; exact List.IsPrefix.length_le (List.takeWhile_prefix P)
theorem cutK_iff {P : Keyed → Bool} : ∀ {l : List Keyed}, Asc l → (∀ p q, nk p ≤ nk q → P q = true → P p = true) → ∀ (i : Nat) x, l[i]? = some x → P x = decide (i < cutK P l)
  | [], _, _, i, x, h => by simp at h
  | z :: l, ha, hP, i, x, h => by
    have ha := List.pairwise_cons.mp ha
    unfold cutK
    cases hz : P z with
    | true =>
      rw [List.takeWhile_cons_of_pos hz]
      cases i with
      | zero => simp at h; subst h; simp [hz]
      | succ i =>
        simp at h
        have := cutK_iff ha.2 hP i x h
        unfold cutK at this
        rw [this]; simp
    | false =>
      rw [List.takeWhile_cons_of_neg (by simp [hz])]
      cases i with
      | zero => simp at h; subst h; simp [hz]
      | succ i =>
        simp at h
        have hm := ha.1 x (List.mem_of_getElem? h)
        cases hx : P x with
        | true => rw [hP z x hm hx] at hz; cases hz
        | false => simp
theorem cutK_take {P : Keyed → Bool} {l : List Keyed} (ha : Asc l) (hP : ∀ p q, nk p ≤ nk q → P q = true → P p = true) : (∀ p ∈ l.take (cutK P l), P p = true) ∧ (∀ p ∈ l.drop (cutK P l), P p = false) := by
  constructor
  · intro p hp
    obtain ⟨i, hi⟩ := List.getElem?_of_mem hp
    have hlt : i < cutK P l := by
      have := (List.getElem?_eq_some_iff.mp hi).1
      rw [List.length_take] at this
      (first | lia | omega)
    rw [List.getElem?_take_of_lt hlt] at hi
    rw [cutK_iff ha hP i p hi]; simpa using hlt
  · intro p hp
    obtain ⟨i, hi⟩ := List.getElem?_of_mem hp
    rw [List.getElem?_drop] at hi
    rw [cutK_iff ha hP _ p hi]; simp
noncomputable def leP (n : Int) (p : Keyed) : Bool := decide (nk p ≤ n)
noncomputable def ltP' (n : Int) (p : Keyed) : Bool := decide (nk p < n)
theorem leP_dn (n : Int) : ∀ p q, nk p ≤ nk q → leP n q = true → leP n p = true := by intro p q h; simp only [leP, decide_eq_true_eq]; (first | lia | omega)
theorem ltP_dn (n : Int) : ∀ p q, nk p ≤ nk q → ltP' n q = true → ltP' n p = true := by intro p q h; simp only [ltP', decide_eq_true_eq]; (first | lia | omega)

theorem extr_to (a : Array Keyed) (i : Nat) : (a.extract i a.size).toList = a.toList.drop i := by
  rw [Array.toList_extract, List.extract_eq_take_drop, List.take_of_length_le (by simp)]
theorem extr_k (a : Array Keyed) (i k : Nat) : (a.extract i (i + k)).toList = (a.toList.drop i).take k := by
  rw [Array.toList_extract, List.extract_eq_take_drop]; simp
theorem extr_0 (a : Array Keyed) (n : Nat) : (a.extract 0 n).toList = a.toList.take n := by simp
theorem at_of {a : Array Keyed} {i : Nat} (h : i < a.size) : ∃ p, a[i]? = some p ∧ p ∈ a.toList ∧ a.toList.drop i = p :: a.toList.drop (i + 1) ∧ a.toList.take (i + 1) = a.toList.take i ++ [p] := by
  obtain ⟨l⟩ := a
  have h : i < l.length := by simpa using h
  refine ⟨l[i], by simp [h], by simp, ?_, ?_⟩
  · exact List.drop_eq_getElem_cons h
  · exact List.take_succ_eq_append_getElem h
theorem asc_drop {l : List Keyed} (h : Asc l) (i : Nat) : Asc (l.drop i) := List.Pairwise.sublist (List.drop_sublist i l) h
theorem asc_take {l : List Keyed} (h : Asc l) (i : Nat) : Asc (l.take i) := List.Pairwise.sublist (List.take_sublist i l) h

section
variable {prog : Program} {w : World} {A : Around} {E : Value → Shared → Prop} {s : Shared}

/-- galloping among ints -/
theorem gal_le {key : Keyed} {arr : Array Keyed} {base n hint : Nat} {l : List Keyed} {st : SortSt} {Q : Option Nat → SortSt → Prop} (hk : kindOf st = oneType') (hkey : IK key) (hl : ∀ p ∈ l, IK p) (hn : hint < n) (hln : l.length = n)
    (he : ∀ i, i < n → arr[base + i]? = l[i]?) (ha : Asc l) (h : Q (some (cutK (leP (nk key)) l)) st) : wpS (model prog w) A E s (gallop2 false key arr base n hint) Q st := by
  refine gallopG hn (hln ▸ cutK_le _ _) (fun i hi Q' hq => ?_) h
  have hx : l[i]? = some l[i] := List.getElem?_eq_getElem (hln ▸ hi)
  unfold beyond2
  refine wpS_bind (elem_ok ((he i hi).trans hx) ?_)
  refine wpS_bind (ltI hk hkey (hl _ (List.getElem_mem _)) (wpS_pure ?_))
  rw [← cutK_iff ha (leP_dn _) i _ hx] at hq
  have e : (some (!decide (nk key < nk l[i]))) = some (leP (nk key) l[i]) := by
    unfold leP; congr 1; rw [Bool.eq_iff_iff]; simp only [Bool.not_eq_true', decide_eq_false_iff_not, decide_eq_true_eq]; (first | lia | omega)
  show Q' (some (!decide (nk key < nk l[i]))) st
  rw [e]; exact hq
theorem gal_lt {key : Keyed} {arr : Array Keyed} {base n hint : Nat} {l : List Keyed} {st : SortSt} {Q : Option Nat → SortSt → Prop} (hk : kindOf st = oneType') (hkey : IK key) (hl : ∀ p ∈ l, IK p) (hn : hint < n) (hln : l.length = n)
    (he : ∀ i, i < n → arr[base + i]? = l[i]?) (ha : Asc l) (h : Q (some (cutK (ltP' (nk key)) l)) st) : wpS (model prog w) A E s (gallop2 true key arr base n hint) Q st := by
  refine gallopG hn (hln ▸ cutK_le _ _) (fun i hi Q' hq => ?_) h
  have hx : l[i]? = some l[i] := List.getElem?_eq_getElem (hln ▸ hi)
  unfold beyond2
  refine wpS_bind (elem_ok ((he i hi).trans hx) ?_)
  refine ltI hk (hl _ (List.getElem_mem _)) hkey ?_
  rw [← cutK_iff ha (ltP_dn _) i _ hx] at hq
  exact hq
end
end Mine

namespace Mine
open PySem PySem.Calls PyProof.Rows

abbrev LB := Option (Array Keyed) × Array Keyed × Nat × Nat × Nat × Nat × Nat
abbrev CB := Option (Array Keyed) × Array Keyed × Nat × Nat × Nat × Nat
noncomputable def loDone (a b : Array Keyed) (out : Array Keyed) (ia ib : Nat) := out ++ a.extract ia a.size ++ b.extract ib b.size
noncomputable def loLast (a b : Array Keyed) (out : Array Keyed) (ia ib : Nat) := out ++ b.extract ib b.size ++ a.extract ia a.size
noncomputable def loG3 (a b : Array Keyed) (out : Array Keyed) (ia ib g ac bc : Nat) : StateT SortSt Sem (ForInStep LB) := do
  let q ← elem' a ia
  if ia + 1 + 1 == a.size then pure (.done (some (loLast a b (out.push q) (ia + 1) ib), out.push q, ia + 1, ib, g, ac, bc))
  else if (decide (ac < 7) && decide (bc < 7)) = true then pure (.done (none, out.push q, ia + 1, ib, g, ac, bc))
  else pure (.yield (none, out.push q, ia + 1, ib, g, ac, bc))
noncomputable def loG2 (a b : Array Keyed) (out : Array Keyed) (ia ib g ac bc : Nat) : StateT SortSt Sem (ForInStep LB) := do
  let p ← elem' b ib
  if ib + 1 == b.size then pure (.done (some (loDone a b (out.push p) ia (ib + 1)), out.push p, ia, ib + 1, g, ac, bc))
  else do
    let q ← elem' a ia
    let x ← gallop2 true q b (ib + 1) (b.size - (ib + 1)) 0
    match x with
    | some k =>
      if k > 0 then
        if ib + 1 + k == b.size then pure (.done (some (loDone a b (out.push p ++ b.extract (ib + 1) (ib + 1 + k)) ia (ib + 1 + k)), out.push p ++ b.extract (ib + 1) (ib + 1 + k), ia, ib + 1 + k, g, ac, k))
        else loG3 a b (out.push p ++ b.extract (ib + 1) (ib + 1 + k)) ia (ib + 1 + k) g ac k
      else loG3 a b (out.push p) ia (ib + 1) g ac k
    | _ => pure (.done (some (loDone a b (out.push p) ia (ib + 1)), out.push p, ia, ib + 1, g, ac, bc))
noncomputable def loG (a b : Array Keyed) (out : Array Keyed) (ia ib g ac bc : Nat) : StateT SortSt Sem (ForInStep LB) := do
  setMin2 g
  let p ← elem' b ib
  let x ← gallop2 false p a ia (a.size - ia) 0
  match x with
  | some k =>
    if k > 0 then
      if ia + k + 1 == a.size then pure (.done (some (loLast a b (out ++ a.extract ia (ia + k)) (ia + k) ib), out ++ a.extract ia (ia + k), ia + k, ib, g, k, bc))
      else if ia + k == a.size then pure (.done (some (loDone a b (out ++ a.extract ia (ia + k)) (ia + k) ib), out ++ a.extract ia (ia + k), ia + k, ib, g, k, bc))
      else loG2 a b (out ++ a.extract ia (ia + k)) (ia + k) ib g k bc
    else loG2 a b out ia ib g k bc
  | _ => pure (.done (some (loDone a b out ia ib), out, ia, ib, g, ac, bc))
noncomputable def loC (a b : Array Keyed) (mg : Nat) (out : Array Keyed) (ia ib ac bc : Nat) : StateT SortSt Sem (ForInStep CB) := do
  let p ← elem' b ib
  let q ← elem' a ia
  let x ← lt' p q
  match x with
  | some bWins =>
    if bWins = true then do
      let p ← elem' b ib
      if ib + 1 == b.size then pure (.done (some (loDone a b (out.push p) ia (ib + 1)), out.push p, ia, ib + 1, 0, bc + 1))
      else if bc + 1 ≥ mg then pure (.done (none, out.push p, ia, ib + 1, 0, bc + 1))
      else pure (.yield (none, out.push p, ia, ib + 1, 0, bc + 1))
    else do
      let q ← elem' a ia
      if ia + 1 + 1 == a.size then pure (.done (some (loLast a b (out.push q) (ia + 1) ib), out.push q, ia + 1, ib, ac + 1, 0))
      else if ac + 1 ≥ mg then pure (.done (none, out.push q, ia + 1, ib, ac + 1, 0))
      else pure (.yield (none, out.push q, ia + 1, ib, ac + 1, 0))
  | _ => pure (.done (some (loDone a b out ia ib), out, ia, ib, ac, bc))
theorem mergeLo3_eq (a b : Array Keyed) : mergeLo2 a b = (do
  rule "list.sort.merge-lo"
  let p ← elem' b 0
  if 1 == b.size then pure (loDone a b #[p] 0 1)
  else if 0 + 1 == a.size then pure (loLast a b #[p] 0 1)
  else do
    let st ← get
    let S ← forIn [0:a.size + b.size] ((none, #[p], 0, 1, gallopOf st) : Option (Array Keyed) × Array Keyed × Nat × Nat × Nat) fun _ S => do
      let C ← forIn [0:a.size + b.size] ((none, S.2.1, S.2.2.1, S.2.2.2.1, 0, 0) : CB) fun _ C => loC a b S.2.2.2.2 C.2.1 C.2.2.1 C.2.2.2.1 C.2.2.2.2.1 C.2.2.2.2.2
      match C.1 with
      | some r => pure (.done (some r, C.2.1, C.2.2.1, C.2.2.2.1, S.2.2.2.2))
      | none => do
        rule "list.sort.gallop"
        let G ← forIn [0:a.size + b.size] ((none, C.2.1, C.2.2.1, C.2.2.2.1, S.2.2.2.2 + 1, C.2.2.2.2.1, C.2.2.2.2.2) : LB) fun _ G =>
          if G.2.2.2.2.1 > 1 then loG a b G.2.1 G.2.2.1 G.2.2.2.1 (G.2.2.2.2.1 - 1) G.2.2.2.2.2.1 G.2.2.2.2.2.2
          else loG a b G.2.1 G.2.2.1 G.2.2.2.1 G.2.2.2.2.1 G.2.2.2.2.2.1 G.2.2.2.2.2.2
        match G.1 with
        | some r => pure (.done (some r, G.2.1, G.2.2.1, G.2.2.2.1, G.2.2.2.2.1))
        | none => do
          setMin2 (G.2.2.2.2.1 + 1)
          pure (.yield (none, G.2.1, G.2.2.1, G.2.2.2.1, G.2.2.2.2.1 + 1))
    match S.1 with
    | some r => pure r
    | none => unsupported "internal:list.sort.merge-bound") := by
  rw [mergeLo2_eq]
  dsimp only
  refine congrArg _ (funext fun _ => ?_)
  refine congrArg _ (funext fun p => ?_)
  refine ite_congr rfl (fun _ => rfl) fun _ => ite_congr rfl (fun _ => rfl) fun _ => ?_
  refine congrArg _ (funext fun st => ?_)
  refine congr (congrArg _ ?_) (funext fun ⟨c, C⟩ => by cases c <;> rfl)
  refine congrArg _ (funext fun _ => funext fun S => ?_)
  refine congr (congrArg _ rfl) (funext fun ⟨c, C⟩ => ?_)
  cases c with
  | some r => rfl
  | none =>
    dsimp only
    refine congrArg _ (funext fun _ => ?_)
    exact congr (congrArg _ rfl) (funext fun ⟨c, C⟩ => by cases c <;> rfl)


/-- the state of the sort while two rows are merged -/
noncomputable def Sts (arr : Array Keyed) (pd : Array (Nat × Nat × Nat)) (st : SortSt) : Prop := ∃ g, st = SortSt.mk' oneType' arr pd g none
theorem Sts.kind {arr : Array Keyed} {pd : Array (Nat × Nat × Nat)} {st : SortSt} (h : Sts arr pd st) : kindOf st = oneType' := by
  obtain ⟨g, rfl⟩ := h; rfl

/-- the two rows -/
structure Rows2 (a b : Array Keyed) : Prop where
  ika : ∀ p ∈ a.toList, IK p
  ikb : ∀ p ∈ b.toList, IK p
  asa : Asc a.toList
  asb : Asc b.toList
  pos : 0 < b.size
  posa : 0 < a.size
  last : ∀ p ∈ b.toList, ∀ z, a[a.size - 1]? = some z → nk p < nk z
  first : ∀ p ∈ a.toList, ∀ z, b[0]? = some z → nk z < nk p

structure LoI (a b out : Array Keyed) (ia ib : Nat) : Prop where
  mid : Mid (a.toList ++ b.toList) out.toList (a.toList.drop ia) (b.toList.drop ib)
  la : ia + 1 < a.size
  lb : ib < b.size
noncomputable def Fin2 (a b o : Array Keyed) : Prop := o.toList.Perm (a.toList ++ b.toList) ∧ Asc o.toList
noncomputable def LoR (a b : Array Keyed) (n : Nat) : LB → Prop
  | (some r, _) => Fin2 a b r
  | (none, out, ia, ib, _) => LoI a b out ia ib ∧ n < ia + ib
noncomputable def LoR' (a b : Array Keyed) (n : Nat) : CB → Prop
  | (some r, _) => Fin2 a b r
  | (none, out, ia, ib, _) => LoI a b out ia ib ∧ n < ia + ib
noncomputable def inS {β : Type} : ForInStep β → β
  | .done b => b
  | .yield b => b

theorem drop_all {a : Array Keyed} : a.toList.drop a.size = [] := by rw [← Array.length_toList]; exact List.drop_length
theorem lo_done {a b out : Array Keyed} {ia ib : Nat} (m : Mid (a.toList ++ b.toList) out.toList (a.toList.drop ia) (b.toList.drop ib)) (h : ib = b.size) : Fin2 a b (loDone a b out ia ib) := by
  subst h
  rw [drop_all] at m
  have e : (loDone a b out ia b.size).toList = out.toList ++ a.toList.drop ia := by
    unfold loDone; rw [Array.toList_append, Array.toList_append, extr_to, extr_to, drop_all, List.append_nil]
  have m2 := Mid.left (u := a.toList.drop ia) (x := []) (by rw [List.append_nil]; exact m) (by simp)
  unfold Fin2
  rw [e]
  exact ⟨by simpa using m2.perm, m2.asc⟩
theorem last_drop {a : Array Keyed} {ia : Nat} (h : ia + 1 = a.size) : ∃ z, a[a.size - 1]? = some z ∧ a.toList.drop ia = [z] := by
  obtain ⟨p, h1, _, h3, _⟩ := at_of (a := a) (i := ia) (by (first | lia | omega))
  refine ⟨p, by rw [show a.size - 1 = ia by (first | lia | omega)]; exact h1, ?_⟩
  rw [h3, h, drop_all]
theorem mem_drop {l : List Keyed} {i : Nat} {p : Keyed} (h : p ∈ l.drop i) : p ∈ l := List.mem_of_mem_drop h
theorem lo_last {a b out : Array Keyed} {ia ib : Nat} (R : Rows2 a b) (m : Mid (a.toList ++ b.toList) out.toList (a.toList.drop ia) (b.toList.drop ib)) (h : ia + 1 = a.size) : Fin2 a b (loLast a b out ia ib) := by
  obtain ⟨z, hz, hd⟩ := last_drop h
  have e : (loLast a b out ia ib).toList = out.toList ++ b.toList.drop ib ++ a.toList.drop ia := by
    unfold loLast; rw [Array.toList_append, Array.toList_append, extr_to, extr_to]
  have m2 := Mid.right (u := b.toList.drop ib) (y := []) (by rw [List.append_nil]; exact m) (fun p hp q hq => by
    rw [hd] at hq
    cases List.mem_singleton.mp hq
    exact Int.le_of_lt (R.last p (mem_drop hp) _ hz))
  have m3 := Mid.left (u := a.toList.drop ia) (x := []) (by rw [List.append_nil]; exact m2) (by simp)
  unfold Fin2
  rw [e]
  exact ⟨by simpa using m3.perm, m3.asc⟩
theorem head_le {p : Keyed} {l : List Keyed} (h : Asc (p :: l)) : ∀ q ∈ p :: l, nk p ≤ nk q := by
  intro q hq
  rcases List.mem_cons.mp hq with rfl | hq
  · exact Int.le_refl _
  · exact (List.pairwise_cons.mp h).1 q hq
theorem nbeq {i j : Nat} (h : ¬ (i == j) = true) : i ≠ j := by simpa using h

section
variable {prog : Program} {w : World} {A : Around} {E : Value → Shared → Prop} {s : Shared} {arr : Array Keyed} {pd : Array (Nat × Nat × Nat)}

theorem min_ok {g : Nat} {st : SortSt} {Q : Unit → SortSt → Prop} (hs : Sts arr pd st) (h : ∀ st', Sts arr pd st' → Q () st') : wpS (model prog w) A E s (setMin2 g) Q st := by
  obtain ⟨g', rfl⟩ := hs
  exact wpS_modify (h _ ⟨g, rfl⟩)

theorem loG3_ok {a b out : Array Keyed} {ia ib g ac bc n : Nat} {st : SortSt} {Q : ForInStep LB → SortSt → Prop} (R : Rows2 a b) (I : LoI a b out ia ib) (hn : n ≤ ia + ib)
    (hle : ∀ p z, a[ia]? = some p → b[ib]? = some z → nk p ≤ nk z) (h : ∀ r, LoR a b n (inS r) → (∀ x, r = .yield x → x.1 = none) → Q r st) : wpS (model prog w) A E s (loG3 a b out ia ib g ac bc) Q st := by
  unfold loG3
  obtain ⟨p, hp, hm, hd, _⟩ := at_of (a := a) (i := ia) (by have := I.la; (first | lia | omega))
  obtain ⟨z, hz, hm', hd', _⟩ := at_of (a := b) (i := ib) I.lb
  refine wpS_bind (elem_ok hp ?_)
  have m : Mid (a.toList ++ b.toList) (out.push p).toList (a.toList.drop (ia + 1)) (b.toList.drop ib) := by
    rw [Array.toList_push]
    refine Mid.left (u := [p]) (by rw [List.singleton_append, ← hd]; exact I.mid) fun x hx q hq => ?_
    cases List.mem_singleton.mp hx
    have e := I.mid.ay
    rw [hd'] at hq e
    exact Int.le_trans (hle p z hp hz) (head_le e q hq)
  by_cases c : (ia + 1 + 1 == a.size) = true
  · rw [if_pos c]
    exact wpS_pure (h _ (lo_last R m (by simpa using c)) (by intro x e; cases e))
  · rw [if_neg c]
    have I2 : LoI a b (out.push p) (ia + 1) ib := ⟨m, by have := nbeq c; have := I.la; (first | lia | omega), I.lb⟩
    split
    · exact wpS_pure (h _ ⟨I2, by (first | lia | omega)⟩ (by intro x e; cases e))
    · exact wpS_pure (h _ ⟨I2, by (first | lia | omega)⟩ (by intro x e; cases e; rfl))

theorem loG2_ok {a b out : Array Keyed} {ia ib g ac bc n : Nat} {st : SortSt} {Q : ForInStep LB → SortSt → Prop} (R : Rows2 a b) (hs : Sts arr pd st) (I : LoI a b out ia ib) (hn : n ≤ ia + ib)
    (hle : ∀ p z, a[ia]? = some p → b[ib]? = some z → nk z ≤ nk p) (h : ∀ r, LoR a b n (inS r) → (∀ x, r = .yield x → x.1 = none) → Q r st) : wpS (model prog w) A E s (loG2 a b out ia ib g ac bc) Q st := by
  unfold loG2
  obtain ⟨p, hp, hm, hd, _⟩ := at_of (a := a) (i := ia) (by have := I.la; (first | lia | omega))
  obtain ⟨z, hz, hm', hd', _⟩ := at_of (a := b) (i := ib) I.lb
  refine wpS_bind (elem_ok hz ?_)
  have m : Mid (a.toList ++ b.toList) (out.push z).toList (a.toList.drop ia) (b.toList.drop (ib + 1)) := by
    rw [Array.toList_push]
    refine Mid.right (u := [z]) (by rw [List.singleton_append, ← hd']; exact I.mid) fun x hx q hq => ?_
    cases List.mem_singleton.mp hx
    have e := I.mid.ax
    rw [hd] at hq e
    exact Int.le_trans (hle p z hp hz) (head_le e q hq)
  by_cases c : (ib + 1 == b.size) = true
  · rw [if_pos c]
    exact wpS_pure (h _ (lo_done m (by simpa using c)) (by intro x e; cases e))
  · rw [if_neg c]
    have hlt : ib + 1 < b.size := by have := nbeq c; have := I.lb; (first | lia | omega)
    refine wpS_bind (elem_ok hp ?_)
    have hcl := cutK_le (ltP' (nk p)) (b.toList.drop (ib + 1))
    have hct := cutK_take (asc_drop R.asb (ib + 1)) (ltP_dn (nk p))
    refine wpS_bind (gal_lt (l := b.toList.drop (ib + 1)) hs.kind (R.ika p hm) (fun q hq => R.ikb q (mem_drop hq)) (by (first | lia | omega)) (by simp) (fun i hi => by rw [List.getElem?_drop, Array.getElem?_toList]) (asc_drop R.asb _) ?_)
    dsimp only
    generalize cutK (ltP' (nk p)) (b.toList.drop (ib + 1)) = k at hcl hct ⊢
    rw [List.length_drop, Array.length_toList] at hcl
    by_cases ck : k > 0
    · rw [if_pos ck]
      have m2 : Mid (a.toList ++ b.toList) (out.push z ++ b.extract (ib + 1) (ib + 1 + k)).toList (a.toList.drop ia) (b.toList.drop (ib + 1 + k)) := by
        rw [Array.toList_append, extr_k, show b.toList.drop (ib + 1 + k) = (b.toList.drop (ib + 1)).drop k from List.drop_drop.symm]
        refine Mid.right (by rw [List.take_append_drop]; exact m) fun x hx q hq => ?_
        have := hct.1 x hx
        unfold ltP' at this
        have e := I.mid.ax
        rw [hd] at hq e
        exact Int.le_trans (Int.le_of_lt (of_decide_eq_true this)) (head_le e q hq)
      by_cases c2 : (ib + 1 + k == b.size) = true
      · rw [if_pos c2]
        exact wpS_pure (h _ (lo_done m2 (by simpa using c2)) (by intro x e; cases e))
      · rw [if_neg c2]
        have := nbeq c2
        refine loG3_ok R ⟨m2, I.la, by (first | lia | omega)⟩ (by (first | lia | omega)) (fun p' z' hp' hz' => ?_) h
        rw [hp] at hp'; cases hp'
        have hz2 : z' ∈ (b.toList.drop (ib + 1)).drop k := by
          rw [List.drop_drop]
          refine List.mem_of_getElem? (i := 0) ?_
          rw [List.getElem?_drop, Array.getElem?_toList]; exact hz'
        have := hct.2 z' hz2
        unfold ltP' at this
        have := of_decide_eq_false this
        (first | lia | omega)
    · rw [if_neg ck]
      have k0 : k = 0 := by (first | lia | omega)
      subst k0
      refine loG3_ok R ⟨m, I.la, hlt⟩ (by (first | lia | omega)) (fun p' z' hp' hz' => ?_) h
      rw [hp] at hp'; cases hp'
      have hz2 : z' ∈ (b.toList.drop (ib + 1)).drop 0 := by
        rw [List.drop_drop]
        refine List.mem_of_getElem? (i := 0) ?_
        rw [List.getElem?_drop, Array.getElem?_toList]; exact hz'
      have := hct.2 z' hz2
      unfold ltP' at this
      have := of_decide_eq_false this
      (first | lia | omega)

theorem loG_ok {a b out : Array Keyed} {ia ib g ac bc n : Nat} {st : SortSt} {Q : ForInStep LB → SortSt → Prop} (R : Rows2 a b) (hs : Sts arr pd st) (I : LoI a b out ia ib) (hn : n ≤ ia + ib)
    (h : ∀ r st', Sts arr pd st' → LoR a b n (inS r) → (∀ x, r = .yield x → x.1 = none) → Q r st') : wpS (model prog w) A E s (loG a b out ia ib g ac bc) Q st := by
  unfold loG
  refine wpS_bind (min_ok hs fun st hs => ?_)
  obtain ⟨z, hz, hm', hd', _⟩ := at_of (a := b) (i := ib) I.lb
  refine wpS_bind (elem_ok hz ?_)
  have hcl := cutK_le (leP (nk z)) (a.toList.drop ia)
  have hct := cutK_take (asc_drop R.asa ia) (leP_dn (nk z))
  have la := I.la
  refine wpS_bind (gal_le (l := a.toList.drop ia) hs.kind (R.ikb z hm') (fun q hq => R.ika q (mem_drop hq)) (by (first | lia | omega)) (by simp) (fun i hi => by rw [List.getElem?_drop, Array.getElem?_toList]) (asc_drop R.asa _) ?_)
  dsimp only
  generalize cutK (leP (nk z)) (a.toList.drop ia) = k at hcl hct ⊢
  rw [List.length_drop, Array.length_toList] at hcl
  have key : ∀ p' z', a[ia + k]? = some p' → b[ib]? = some z' → nk z' ≤ nk p' := fun p' z' hp' hz' => by
    rw [hz] at hz'; cases hz'
    have hz2 : p' ∈ (a.toList.drop ia).drop k := by
      rw [List.drop_drop]
      refine List.mem_of_getElem? (i := 0) ?_
      rw [List.getElem?_drop, Array.getElem?_toList]; exact hp'
    have := hct.2 p' hz2
    unfold leP at this
    have := of_decide_eq_false this
    (first | lia | omega)
  have hk : ia + k ≠ a.size := by
    intro e
    obtain ⟨y, hy, hym, _, _⟩ := at_of (a := a) (i := a.size - 1) (by (first | lia | omega))
    have h1 := R.last z hm' y hy
    have h2 : y ∈ (a.toList.drop ia).take k := by
      rw [List.take_of_length_le (by simp; (first | lia | omega))]
      refine List.mem_of_getElem? (i := a.size - 1 - ia) ?_
      rw [List.getElem?_drop, Array.getElem?_toList, show ia + (a.size - 1 - ia) = a.size - 1 by (first | lia | omega)]; exact hy
    have := hct.1 y h2
    unfold leP at this
    have := of_decide_eq_true this
    (first | lia | omega)
  by_cases ck : k > 0
  · rw [if_pos ck]
    have m2 : Mid (a.toList ++ b.toList) (out ++ a.extract ia (ia + k)).toList (a.toList.drop (ia + k)) (b.toList.drop ib) := by
      rw [Array.toList_append, extr_k, ← List.drop_drop]
      refine Mid.left (by rw [List.take_append_drop]; exact I.mid) fun x hx q hq => ?_
      have := hct.1 x hx
      unfold leP at this
      have e := I.mid.ay
      rw [hd'] at hq e
      exact Int.le_trans (of_decide_eq_true this) (head_le e q hq)
    by_cases c2 : (ia + k + 1 == a.size) = true
    · rw [if_pos c2]
      exact wpS_pure (h _ _ hs (lo_last R m2 (by simpa using c2)) (by intro x e; cases e))
    · rw [if_neg c2, if_neg (by simpa using hk)]
      have := nbeq c2
      exact loG2_ok R hs ⟨m2, by (first | lia | omega), I.lb⟩ (by (first | lia | omega)) key fun r hr hy => h r _ hs hr hy
  · rw [if_neg ck]
    have k0 : k = 0 := by (first | lia | omega)
    subst k0
    exact loG2_ok R hs I hn key fun r hr hy => h r _ hs hr hy

theorem loC_ok {a b out : Array Keyed} {ia ib mg ac bc n : Nat} {st : SortSt} {Q : ForInStep CB → SortSt → Prop} (R : Rows2 a b) (hs : Sts arr pd st) (I : LoI a b out ia ib) (hn : n ≤ ia + ib)
    (h : ∀ r, LoR' a b n (inS r) → (∀ x, r = .yield x → x.1 = none) → Q r st) : wpS (model prog w) A E s (loC a b mg out ia ib ac bc) Q st := by
  unfold loC
  obtain ⟨p, hp, hm, hd, _⟩ := at_of (a := a) (i := ia) (by have := I.la; (first | lia | omega))
  obtain ⟨z, hz, hm', hd', _⟩ := at_of (a := b) (i := ib) I.lb
  refine wpS_bind (elem_ok hz (wpS_bind (elem_ok hp ?_)))
  refine wpS_bind (ltI hs.kind (R.ikb z hm') (R.ika p hm) ?_)
  dsimp only
  have ax := I.mid.ax
  have ay := I.mid.ay
  by_cases c : nk z < nk p
  · rw [if_pos (decide_eq_true c)]
    refine wpS_bind (elem_ok hz ?_)
    have m : Mid (a.toList ++ b.toList) (out.push z).toList (a.toList.drop ia) (b.toList.drop (ib + 1)) := by
      rw [Array.toList_push]
      refine Mid.right (u := [z]) (by rw [List.singleton_append, ← hd']; exact I.mid) fun x hx q hq => ?_
      cases List.mem_singleton.mp hx
      rw [hd] at hq ax
      exact Int.le_trans (Int.le_of_lt c) (head_le ax q hq)
    by_cases c2 : (ib + 1 == b.size) = true
    · rw [if_pos c2]
      exact wpS_pure (h _ (lo_done m (by simpa using c2)) (by intro x e; cases e))
    · rw [if_neg c2]
      have I2 : LoI a b (out.push z) ia (ib + 1) := ⟨m, I.la, by have := nbeq c2; have := I.lb; (first | lia | omega)⟩
      split
      · exact wpS_pure (h _ ⟨I2, by (first | lia | omega)⟩ (by intro x e; cases e))
      · exact wpS_pure (h _ ⟨I2, by (first | lia | omega)⟩ (by intro x e; cases e; rfl))
  · rw [if_neg (by simpa using c)]
    refine wpS_bind (elem_ok hp ?_)
    have m : Mid (a.toList ++ b.toList) (out.push p).toList (a.toList.drop (ia + 1)) (b.toList.drop ib) := by
      rw [Array.toList_push]
      refine Mid.left (u := [p]) (by rw [List.singleton_append, ← hd]; exact I.mid) fun x hx q hq => ?_
      cases List.mem_singleton.mp hx
      rw [hd'] at hq ay
      exact Int.le_trans (Int.not_lt.mp c) (head_le ay q hq)
    by_cases c2 : (ia + 1 + 1 == a.size) = true
    · rw [if_pos c2]
      exact wpS_pure (h _ (lo_last R m (by simpa using c2)) (by intro x e; cases e))
    · rw [if_neg c2]
      have I2 : LoI a b (out.push p) (ia + 1) ib := ⟨m, by have := nbeq c2; have := I.la; (first | lia | omega), I.lb⟩
      split
      · exact wpS_pure (h _ ⟨I2, by (first | lia | omega)⟩ (by intro x e; cases e))
      · exact wpS_pure (h _ ⟨I2, by (first | lia | omega)⟩ (by intro x e; cases e; rfl))

theorem mergeLo_ok {a b : Array Keyed} {st : SortSt} {Q : Array Keyed → SortSt → Prop} (R : Rows2 a b) (hs : Sts arr pd st) (h : ∀ o st', Sts arr pd st' → Fin2 a b o → Q o st') :
    wpS (model prog w) A E s (mergeLo2 a b) Q st := by
  rw [mergeLo3_eq]
  refine wpS_bind (wpS_lift (wpAny_rule ⟨rfl, ?_⟩))
  obtain ⟨z, hz, hm', hd', _⟩ := at_of (a := b) (i := 0) R.pos
  refine wpS_bind (elem_ok hz ?_)
  have m : Mid (a.toList ++ b.toList) (#[z] : Array Keyed).toList (a.toList.drop 0) (b.toList.drop 1) := by
    have m0 : Mid (a.toList ++ b.toList) [] (a.toList.drop 0) (b.toList.drop 0) := ⟨by simp, List.Pairwise.nil, by simp, R.asa, R.asb⟩
    refine Mid.right (out := []) (u := [z]) (by rw [List.singleton_append, ← hd']; exact m0) fun x hx q hq => ?_
    cases List.mem_singleton.mp hx
    exact Int.le_of_lt (R.first q hq _ hz)
  by_cases c : (1 == b.size) = true
  · rw [if_pos c]
    exact wpS_pure (h _ _ hs (lo_done m (by simpa using c)))
  rw [if_neg c]
  by_cases c2 : (0 + 1 == a.size) = true
  · rw [if_pos c2]
    exact wpS_pure (h _ _ hs (lo_last R m (by simpa using c2)))
  rw [if_neg c2]
  have c := nbeq c
  have c2 := nbeq c2
  have hpa := R.posa
  have hpb := R.pos
  have I0 : LoI a b #[z] 0 1 := ⟨m, by (first | lia | omega), by (first | lia | omega)⟩
  refine wpS_bind (wpS_get ?_)
  refine wpS_bind (wpS_mono (wpS_forRange (I := fun i S st' => Sts arr pd st' ∧ S.1 = none ∧ LoI a b S.2.1 S.2.2.1 S.2.2.2.1 ∧ i < S.2.2.1 + S.2.2.2.1)
    (Q := fun S st' => Sts arr pd st' ∧ ∃ r, S.1 = some r ∧ Fin2 a b r) ?_ ?_ ⟨hs, rfl, I0, Nat.zero_lt_one⟩) ?_)
  · rintro i ⟨r, out, ia, ib, mg⟩ st1 _ hi ⟨hs1, h1, I1, hn1⟩
    dsimp only at h1 I1 hn1 ⊢
    subst h1
    refine wpS_bind (wpS_mono (wpS_forRange (I := fun j (C : CB) st' => Sts arr pd st' ∧ C.1 = none ∧ LoI a b C.2.1 C.2.2.1 C.2.2.2.1 ∧ ia + ib + j ≤ C.2.2.1 + C.2.2.2.1)
      (Q := fun C st' => Sts arr pd st' ∧ LoR' a b (ia + ib) C) ?_ ?_ ⟨hs1, rfl, I1, Nat.le_refl _⟩) ?_)
    · rintro j ⟨r, out', ia', ib', ac, bc⟩ st2 _ hj ⟨hs2, h2, I2, hn2⟩
      dsimp only at h2 I2 hn2 ⊢
      refine loC_ok R hs2 I2 hn2 fun r hr hy => ?_
      cases r with
      | done C =>
        refine ⟨hs2, ?_⟩
        obtain ⟨o, C⟩ := C
        cases o with
        | some o => exact hr
        | none => exact ⟨hr.1, Nat.lt_of_le_of_lt (Nat.le_add_right _ _) hr.2⟩
      | yield C =>
        obtain ⟨o, C⟩ := C
        cases hy _ rfl
        exact ⟨hs2, rfl, hr.1, hr.2⟩
    · rintro ⟨r, out', ia', ib', ac, bc⟩ st2 ⟨hs2, h2, I2, hn2⟩
      dsimp only at h2 I2 hn2
      subst h2
      exact ⟨hs2, I2, by show ia + ib < ia' + ib'; (first | lia | omega)⟩
    · rintro ⟨r, out', ia', ib', ac, bc⟩ st2 ⟨hs2, h2⟩
      cases r with
      | some r => exact wpS_pure ⟨hs2, r, rfl, h2⟩
      | none =>
        obtain ⟨I2, hn2⟩ := h2
        refine wpS_bind (wpS_lift (wpAny_rule ⟨rfl, ?_⟩))
        refine wpS_bind (wpS_mono (wpS_forRange (I := fun j (C : LB) st' => Sts arr pd st' ∧ C.1 = none ∧ LoI a b C.2.1 C.2.2.1 C.2.2.2.1 ∧ ia + ib < C.2.2.1 + C.2.2.2.1)
          (Q := fun C st' => Sts arr pd st' ∧ LoR a b (ia + ib) C) ?_ ?_ ⟨hs2, rfl, I2, hn2⟩) ?_)
        · rintro j ⟨r, out', ia', ib', g, ac, bc⟩ st3 _ hj ⟨hs3, h3, I3, hn3⟩
          dsimp only at h3 I3 hn3 ⊢
          have fin : ∀ (r : ForInStep LB) st', Sts arr pd st' → LoR a b (ia + ib) (inS r) → (∀ x, r = .yield x → x.1 = none) → (match r with
              | .done C => Sts arr pd st' ∧ LoR a b (ia + ib) C
              | .yield C => Sts arr pd st' ∧ C.1 = none ∧ LoI a b C.2.1 C.2.2.1 C.2.2.2.1 ∧ ia + ib < C.2.2.1 + C.2.2.2.1) := fun r st' hs' hr hy => by
            cases r with
            | done C => exact ⟨hs', hr⟩
            | yield C =>
              obtain ⟨o, C⟩ := C
              cases hy _ rfl
              exact ⟨hs', rfl, hr.1, hr.2⟩
          split
          all_goals
            refine loG_ok R hs3 I3 (Nat.le_of_lt hn3) fun r st' hs' hr hy => ?_
            have := fin r st' hs' hr hy
            cases r <;> exact this
        · rintro ⟨r, out', ia', ib', g, ac, bc⟩ st3 ⟨hs3, h3, I3, hn3⟩
          dsimp only at h3 I3 hn3
          subst h3
          exact ⟨hs3, I3, hn3⟩
        · rintro ⟨r, out', ia', ib', g, ac, bc⟩ st3 ⟨hs3, h3⟩
          cases r with
          | some r => exact wpS_pure ⟨hs3, r, rfl, h3⟩
          | none =>
            refine wpS_bind (min_ok hs3 fun st4 hs4 => ?_)
            exact wpS_pure ⟨hs4, rfl, h3.1, Nat.lt_of_le_of_lt hn1 h3.2⟩
  · rintro ⟨r, out, ia, ib, mg⟩ st1 ⟨hs1, h1, I1, hn1⟩
    dsimp only at h1 I1 hn1
    have := I1.la
    have := I1.lb
    (first | lia | omega)
  · rintro ⟨r, out, ia, ib, mg⟩ st1 ⟨hs1, r', h1, hf⟩
    dsimp only at h1
    subst h1
    exact wpS_pure (h _ _ hs1 hf)
end
end Mine

namespace Mine
open PySem PySem.Calls PyProof.Rows

theorem mergeHi2_eq (a b : Array Keyed) : mergeHi2 a b = (do
  rule "list.sort.merge-hi"
  let total := a.size + b.size
  let done (out : Array Keyed) (na nb : Nat) := a.extract 0 na ++ b.extract 0 nb ++ out.reverse
  let firstOfB (out : Array Keyed) (na nb : Nat) := b.extract 0 nb ++ a.extract 0 na ++ out.reverse
  let mut na := a.size - 1
  let mut nb := b.size
  let mut out : Array Keyed := #[← elem' a na]
  if na == 0 then return done out na nb
  if nb == 1 then return firstOfB out na nb
  let mut minGallop := gallopOf (← get)
  for _ in [0:total] do
    let mut acount := 0
    let mut bcount := 0
    for _ in [0:total] do
      let some aWins ← lt' (← elem' b (nb - 1)) (← elem' a (na - 1)) | return done out na nb
      if aWins then
        na := na - 1; out := out.push (← elem' a na); acount := acount + 1; bcount := 0
        if na == 0 then return done out na nb
        if acount ≥ minGallop then break
      else
        nb := nb - 1; out := out.push (← elem' b nb); bcount := bcount + 1; acount := 0
        if nb == 1 then return firstOfB out na nb
        if bcount ≥ minGallop then break
    rule "list.sort.gallop"
    minGallop := minGallop + 1
    for _ in [0:total] do
      if minGallop > 1 then minGallop := minGallop - 1
      setMin2 minGallop
      let some at_ ← gallop2 false (← elem' b (nb - 1)) a 0 na (na - 1) | return done out na nb
      let k := na - at_
      acount := k
      if k > 0 then
        out := out ++ (a.extract at_ na).reverse; na := at_
        if na == 0 then return done out na nb
      nb := nb - 1; out := out.push (← elem' b nb)
      if nb == 1 then return firstOfB out na nb
      let some at_ ← gallop2 true (← elem' a (na - 1)) b 0 nb (nb - 1) | return done out na nb
      let k := nb - at_
      bcount := k
      if k > 0 then
        out := out ++ (b.extract at_ nb).reverse; nb := at_
        if nb == 1 then return firstOfB out na nb
        if nb == 0 then return done out na nb
      na := na - 1; out := out.push (← elem' a na)
      if na == 0 then return done out na nb
      if acount < 7 && bcount < 7 then break
    minGallop := minGallop + 1
    setMin2 minGallop
  unsupported "internal:list.sort.merge-bound") := rfl

abbrev HB := Option (Array Keyed) × Nat × Nat × Array Keyed × Nat × Nat × Nat
abbrev DB := Option (Array Keyed) × Nat × Nat × Array Keyed × Nat × Nat
noncomputable def hiDone (a b out : Array Keyed) (na nb : Nat) := a.extract 0 na ++ b.extract 0 nb ++ out.reverse
noncomputable def hiFirst (a b out : Array Keyed) (na nb : Nat) := b.extract 0 nb ++ a.extract 0 na ++ out.reverse
noncomputable def hiG3 (a b out : Array Keyed) (na nb g ac bc : Nat) : StateT SortSt Sem (ForInStep HB) := do
  let q ← elem' a (na - 1)
  if na - 1 == 0 then pure (.done (some (hiDone a b (out.push q) (na - 1) nb), na - 1, nb, out.push q, g, ac, bc))
  else if (decide (ac < 7) && decide (bc < 7)) = true then pure (.done (none, na - 1, nb, out.push q, g, ac, bc))
  else pure (.yield (none, na - 1, nb, out.push q, g, ac, bc))
noncomputable def hiG2 (a b out : Array Keyed) (na nb g ac bc : Nat) : StateT SortSt Sem (ForInStep HB) := do
  let p ← elem' b (nb - 1)
  if nb - 1 == 1 then pure (.done (some (hiFirst a b (out.push p) na (nb - 1)), na, nb - 1, out.push p, g, ac, bc))
  else do
    let q ← elem' a (na - 1)
    let x ← gallop2 true q b 0 (nb - 1) (nb - 1 - 1)
    match x with
    | some k =>
      if nb - 1 - k > 0 then
        if k == 1 then pure (.done (some (hiFirst a b (out.push p ++ (b.extract k (nb - 1)).reverse) na k), na, k, out.push p ++ (b.extract k (nb - 1)).reverse, g, ac, nb - 1 - k))
        else if k == 0 then pure (.done (some (hiDone a b (out.push p ++ (b.extract k (nb - 1)).reverse) na k), na, k, out.push p ++ (b.extract k (nb - 1)).reverse, g, ac, nb - 1 - k))
        else hiG3 a b (out.push p ++ (b.extract k (nb - 1)).reverse) na k g ac (nb - 1 - k)
      else hiG3 a b (out.push p) na (nb - 1) g ac (nb - 1 - k)
    | _ => pure (.done (some (hiDone a b (out.push p) na (nb - 1)), na, nb - 1, out.push p, g, ac, bc))
noncomputable def hiG (a b out : Array Keyed) (na nb g ac bc : Nat) : StateT SortSt Sem (ForInStep HB) := do
  setMin2 g
  let p ← elem' b (nb - 1)
  let x ← gallop2 false p a 0 na (na - 1)
  match x with
  | some k =>
    if na - k > 0 then
      if k == 0 then pure (.done (some (hiDone a b (out ++ (a.extract k na).reverse) k nb), k, nb, out ++ (a.extract k na).reverse, g, na - k, bc))
      else hiG2 a b (out ++ (a.extract k na).reverse) k nb g (na - k) bc
    else hiG2 a b out na nb g (na - k) bc
  | _ => pure (.done (some (hiDone a b out na nb), na, nb, out, g, ac, bc))
noncomputable def hiC (a b : Array Keyed) (mg : Nat) (na nb : Nat) (out : Array Keyed) (ac bc : Nat) : StateT SortSt Sem (ForInStep DB) := do
  let p ← elem' b (nb - 1)
  let q ← elem' a (na - 1)
  let x ← lt' p q
  match x with
  | some aWins =>
    if aWins = true then do
      let q ← elem' a (na - 1)
      if na - 1 == 0 then pure (.done (some (hiDone a b (out.push q) (na - 1) nb), na - 1, nb, out.push q, ac + 1, 0))
      else if ac + 1 ≥ mg then pure (.done (none, na - 1, nb, out.push q, ac + 1, 0))
      else pure (.yield (none, na - 1, nb, out.push q, ac + 1, 0))
    else do
      let p ← elem' b (nb - 1)
      if nb - 1 == 1 then pure (.done (some (hiFirst a b (out.push p) na (nb - 1)), na, nb - 1, out.push p, 0, bc + 1))
      else if bc + 1 ≥ mg then pure (.done (none, na, nb - 1, out.push p, 0, bc + 1))
      else pure (.yield (none, na, nb - 1, out.push p, 0, bc + 1))
  | _ => pure (.done (some (hiDone a b out na nb), na, nb, out, ac, bc))
theorem mergeHi3_eq (a b : Array Keyed) : mergeHi2 a b = (do
  rule "list.sort.merge-hi"
  let p ← elem' a (a.size - 1)
  if a.size - 1 == 0 then pure (hiDone a b #[p] (a.size - 1) b.size)
  else if b.size == 1 then pure (hiFirst a b #[p] (a.size - 1) b.size)
  else do
    let st ← get
    let S ← forIn [0:a.size + b.size] ((none, a.size - 1, b.size, #[p], gallopOf st) : Option (Array Keyed) × Nat × Nat × Array Keyed × Nat) fun _ S => do
      let C ← forIn [0:a.size + b.size] ((none, S.2.1, S.2.2.1, S.2.2.2.1, 0, 0) : DB) fun _ C => hiC a b S.2.2.2.2 C.2.1 C.2.2.1 C.2.2.2.1 C.2.2.2.2.1 C.2.2.2.2.2
      match C.1 with
      | some r => pure (.done (some r, C.2.1, C.2.2.1, C.2.2.2.1, S.2.2.2.2))
      | none => do
        rule "list.sort.gallop"
        let G ← forIn [0:a.size + b.size] ((none, C.2.1, C.2.2.1, C.2.2.2.1, S.2.2.2.2 + 1, C.2.2.2.2.1, C.2.2.2.2.2) : HB) fun _ G =>
          if G.2.2.2.2.1 > 1 then hiG a b G.2.2.2.1 G.2.1 G.2.2.1 (G.2.2.2.2.1 - 1) G.2.2.2.2.2.1 G.2.2.2.2.2.2
          else hiG a b G.2.2.2.1 G.2.1 G.2.2.1 G.2.2.2.2.1 G.2.2.2.2.2.1 G.2.2.2.2.2.2
        match G.1 with
        | some r => pure (.done (some r, G.2.1, G.2.2.1, G.2.2.2.1, G.2.2.2.2.1))
        | none => do
          setMin2 (G.2.2.2.2.1 + 1)
          pure (.yield (none, G.2.1, G.2.2.1, G.2.2.2.1, G.2.2.2.2.1 + 1))
    match S.1 with
    | some r => pure r
    | none => unsupported "internal:list.sort.merge-bound") := by
  rw [mergeHi2_eq]
  dsimp only
  refine congrArg _ (funext fun _ => ?_)
  refine congrArg _ (funext fun p => ?_)
  refine ite_congr rfl (fun _ => rfl) fun _ => ite_congr rfl (fun _ => rfl) fun _ => ?_
  refine congrArg _ (funext fun st => ?_)
  refine congr (congrArg _ ?_) (funext fun ⟨c, C⟩ => by cases c <;> rfl)
  refine congrArg _ (funext fun _ => funext fun S => ?_)
  refine congr (congrArg _ rfl) (funext fun ⟨c, C⟩ => ?_)
  cases c with
  | some r => rfl
  | none =>
    dsimp only
    refine congrArg _ (funext fun _ => ?_)
    exact congr (congrArg _ rfl) (funext fun ⟨c, C⟩ => by cases c <;> rfl)

structure HiI (a b out : Array Keyed) (na nb : Nat) : Prop where
  mid : MidH (a.toList ++ b.toList) out.reverse.toList (a.toList.take na) (b.toList.take nb)
  pa : 0 < na
  pb : 1 < nb
  la : na ≤ a.size
  lb : nb ≤ b.size
noncomputable def HiR (a b : Array Keyed) (n : Nat) : HB → Prop
  | (some r, _) => Fin2 a b r
  | (none, na, nb, out, _) => HiI a b out na nb ∧ na + nb < n
noncomputable def HiR' (a b : Array Keyed) (n : Nat) : DB → Prop
  | (some r, _) => Fin2 a b r
  | (none, na, nb, out, _) => HiI a b out na nb ∧ na + nb < n

theorem hi_done {a b out : Array Keyed} {na nb : Nat} (m : MidH (a.toList ++ b.toList) out.reverse.toList (a.toList.take na) (b.toList.take nb)) (h : na = 0) : Fin2 a b (hiDone a b out na nb) := by
  subst h
  rw [List.take_zero] at m
  have e : (hiDone a b out 0 nb).toList = b.toList.take nb ++ out.reverse.toList := by
    unfold hiDone; rw [Array.toList_append, Array.toList_append, extr_0, extr_0, List.take_zero, List.nil_append]
  have m2 := MidH.right (u := b.toList.take nb) (y := []) (by rw [List.nil_append]; exact m) (by simp)
  unfold Fin2
  rw [e]
  exact ⟨by have := m2.perm; rw [List.append_nil, List.nil_append] at this; exact this, m2.asc⟩
theorem hi_first {a b out : Array Keyed} {na nb : Nat} (R : Rows2 a b) (m : MidH (a.toList ++ b.toList) out.reverse.toList (a.toList.take na) (b.toList.take nb)) (h : nb = 1) : Fin2 a b (hiFirst a b out na nb) := by
  subst h
  obtain ⟨z, hz, _, _, hd⟩ := at_of (a := b) (i := 0) R.pos
  rw [List.take_zero, List.nil_append] at hd
  have e : (hiFirst a b out na 1).toList = b.toList.take 1 ++ (a.toList.take na ++ out.reverse.toList) := by
    unfold hiFirst; rw [Array.toList_append, Array.toList_append, extr_0, extr_0, List.append_assoc]
  have m2 := MidH.left (u := a.toList.take na) (x := []) (by rw [List.nil_append]; exact m) (fun p hp q hq => by
    rw [hd] at hq
    cases List.mem_singleton.mp hq
    exact Int.le_of_lt (R.first p (List.mem_of_mem_take hp) _ hz))
  have m3 := MidH.right (u := b.toList.take 1) (y := []) (by rw [List.nil_append]; exact m2) (by simp)
  unfold Fin2
  rw [e]
  exact ⟨by have := m3.perm; rw [List.append_nil, List.nil_append] at this; exact this, m3.asc⟩
theorem last_ge {l : List Keyed} {p : Keyed} (h : Asc (l ++ [p])) : ∀ q ∈ l ++ [p], nk q ≤ nk p := by
  intro q hq
  rcases List.mem_append.mp hq with hq | hq
  · exact (List.pairwise_append.mp h).2.2 q hq p (List.mem_singleton.mpr rfl)
  · cases List.mem_singleton.mp hq; exact Int.le_refl _
theorem top_of {a : Array Keyed} {n : Nat} (h0 : 0 < n) (h : n ≤ a.size) : ∃ p, a[n - 1]? = some p ∧ p ∈ a.toList ∧ a.toList.take n = a.toList.take (n - 1) ++ [p] := by
  obtain ⟨p, h1, h2, _, h4⟩ := at_of (a := a) (i := n - 1) (by (first | lia | omega))
  refine ⟨p, h1, h2, ?_⟩
  rw [show n - 1 + 1 = n by (first | lia | omega)] at h4
  exact h4
theorem rev_push (out : Array Keyed) (p : Keyed) : (out.push p).reverse.toList = [p] ++ out.reverse.toList := by simp
theorem rev_app (out u : Array Keyed) : (out ++ u.reverse).reverse.toList = u.toList ++ out.reverse.toList := by simp
theorem extr_mn (a : Array Keyed) (k n : Nat) : (a.extract k n).toList = (a.toList.take n).drop k := by
  rw [Array.toList_extract, List.extract_eq_take_drop, List.drop_take]
theorem take_split (l : List Keyed) {k n : Nat} (h : k ≤ n) : l.take n = l.take k ++ (l.take n).drop k := by
  have e := List.take_append_drop k (l.take n)
  rw [List.take_take, Nat.min_eq_left h] at e
  exact e.symm
theorem take_take_le (l : List Keyed) {k n : Nat} (h : k ≤ n) : (l.take n).take k = l.take k := by rw [List.take_take, Nat.min_eq_left h]

section
variable {prog : Program} {w : World} {A : Around} {E : Value → Shared → Prop} {s : Shared} {arr : Array Keyed} {pd : Array (Nat × Nat × Nat)}

theorem hi_pushA {a b out : Array Keyed} {na nb : Nat} {p : Keyed} (m : MidH (a.toList ++ b.toList) out.reverse.toList (a.toList.take na) (b.toList.take nb)) (hd : a.toList.take na = a.toList.take (na - 1) ++ [p]) (h : ∀ q ∈ b.toList.take nb, nk q ≤ nk p) :
    MidH (a.toList ++ b.toList) (out.push p).reverse.toList (a.toList.take (na - 1)) (b.toList.take nb) := by
  rw [rev_push]
  refine MidH.left (u := [p]) (by rw [← hd]; exact m) fun x hx q hq => ?_
  cases List.mem_singleton.mp hx
  exact h q hq
theorem hi_pushB {a b out : Array Keyed} {na nb : Nat} {p : Keyed} (m : MidH (a.toList ++ b.toList) out.reverse.toList (a.toList.take na) (b.toList.take nb)) (hd : b.toList.take nb = b.toList.take (nb - 1) ++ [p]) (h : ∀ q ∈ a.toList.take na, nk q ≤ nk p) :
    MidH (a.toList ++ b.toList) (out.push p).reverse.toList (a.toList.take na) (b.toList.take (nb - 1)) := by
  rw [rev_push]
  refine MidH.right (u := [p]) (by rw [← hd]; exact m) fun x hx q hq => ?_
  cases List.mem_singleton.mp hx
  exact h q hq

theorem hiG3_ok {a b out : Array Keyed} {na nb g ac bc n : Nat} {st : SortSt} {Q : ForInStep HB → SortSt → Prop} (R : Rows2 a b) (I : HiI a b out na nb) (hn : na + nb ≤ n)
    (hle : ∀ p, a[na - 1]? = some p → ∀ q ∈ b.toList.take nb, nk q ≤ nk p) (h : ∀ r, HiR a b n (inS r) → (∀ x, r = .yield x → x.1 = none) → Q r st) : wpS (model prog w) A E s (hiG3 a b out na nb g ac bc) Q st := by
  unfold hiG3
  have pa := I.pa
  have la := I.la
  obtain ⟨p, hp, hm, hd⟩ := top_of I.pa I.la
  refine wpS_bind (elem_ok hp ?_)
  have m := hi_pushA I.mid hd (hle p hp)
  by_cases c : (na - 1 == 0) = true
  · rw [if_pos c]
    exact wpS_pure (h _ (hi_done m (by simpa using c)) (by intro x e; cases e))
  · rw [if_neg c]
    have I2 : HiI a b (out.push p) (na - 1) nb := ⟨m, by have := nbeq c; (first | lia | omega), I.pb, by (first | lia | omega), I.lb⟩
    split
    · exact wpS_pure (h _ ⟨I2, by (first | lia | omega)⟩ (by intro x e; cases e))
    · exact wpS_pure (h _ ⟨I2, by (first | lia | omega)⟩ (by intro x e; cases e; rfl))

theorem hiG2_ok {a b out : Array Keyed} {na nb g ac bc n : Nat} {st : SortSt} {Q : ForInStep HB → SortSt → Prop} (R : Rows2 a b) (hs : Sts arr pd st) (I : HiI a b out na nb) (hn : na + nb ≤ n)
    (hle : ∀ p, b[nb - 1]? = some p → ∀ q ∈ a.toList.take na, nk q ≤ nk p) (h : ∀ r, HiR a b n (inS r) → (∀ x, r = .yield x → x.1 = none) → Q r st) : wpS (model prog w) A E s (hiG2 a b out na nb g ac bc) Q st := by
  unfold hiG2
  have pb := I.pb
  have lb := I.lb
  have pa := I.pa
  obtain ⟨z, hz, hmz, hdz⟩ := top_of (a := b) (n := nb) (by (first | lia | omega)) I.lb
  refine wpS_bind (elem_ok hz ?_)
  have m := hi_pushB I.mid hdz (hle z hz)
  by_cases c : (nb - 1 == 1) = true
  · rw [if_pos c]
    exact wpS_pure (h _ (hi_first R m (by simpa using c)) (by intro x e; cases e))
  · rw [if_neg c]
    have c := nbeq c
    obtain ⟨p, hp, hm, hd⟩ := top_of I.pa I.la
    refine wpS_bind (elem_ok hp ?_)
    have hcl := cutK_le (ltP' (nk p)) (b.toList.take (nb - 1))
    have hct := cutK_take (asc_take R.asb (nb - 1)) (ltP_dn (nk p))
    have hlen : (b.toList.take (nb - 1)).length = nb - 1 := by rw [List.length_take, Array.length_toList]; (first | lia | omega)
    refine wpS_bind (gal_lt (l := b.toList.take (nb - 1)) hs.kind (R.ika p hm) (fun q hq => R.ikb q (List.mem_of_mem_take hq)) (by (first | lia | omega)) hlen (fun i hi => by rw [List.getElem?_take_of_lt hi, Array.getElem?_toList, Nat.zero_add]) (asc_take R.asb _) ?_)
    dsimp only
    generalize cutK (ltP' (nk p)) (b.toList.take (nb - 1)) = k at hcl hct ⊢
    rw [hlen] at hcl
    rw [take_take_le _ hcl] at hct
    have hge : ∀ q ∈ b.toList.take k, nk q ≤ nk p := fun q hq => by
      have := hct.1 q hq
      unfold ltP' at this
      exact Int.le_of_lt (of_decide_eq_true this)
    have hk0 : k ≠ 0 := by
      intro e
      subst e
      obtain ⟨y, hy, hym, hyd, _⟩ := at_of (a := b) (i := 0) R.pos
      have h1 := R.first p hm y hy
      have h2 := hct.2 y (by
        rw [List.drop_zero]
        refine List.mem_of_getElem? (i := 0) ?_
        rw [List.getElem?_take_of_lt (by (first | lia | omega)), Array.getElem?_toList]; exact hy)
      unfold ltP' at h2
      exact of_decide_eq_false h2 h1
    by_cases ck : nb - 1 - k > 0
    · rw [if_pos ck]
      have m2 : MidH (a.toList ++ b.toList) (out.push z ++ (b.extract k (nb - 1)).reverse).reverse.toList (a.toList.take na) (b.toList.take k) := by
        rw [rev_app, extr_mn]
        refine MidH.right (by rw [← take_split _ hcl]; exact m) fun x hx q hq => ?_
        have := hct.2 x hx
        unfold ltP' at this
        have e := I.mid.ax
        rw [hd] at hq e
        have := last_ge e q hq
        have := of_decide_eq_false ‹decide (nk x < nk p) = false›
        (first | lia | omega)
      by_cases c2 : (k == 1) = true
      · rw [if_pos c2]
        exact wpS_pure (h _ (hi_first R m2 (by simpa using c2)) (by intro x e; cases e))
      · rw [if_neg c2, if_neg (by simpa using hk0)]
        have := nbeq c2
        refine hiG3_ok R ⟨m2, I.pa, by (first | lia | omega), I.la, by (first | lia | omega)⟩ (by (first | lia | omega)) (fun p' hp' => ?_) h
        rw [hp] at hp'; cases hp'
        exact hge
    · rw [if_neg ck]
      have hk : k = nb - 1 := by (first | lia | omega)
      refine hiG3_ok R ⟨m, I.pa, by (first | lia | omega), I.la, by (first | lia | omega)⟩ (by (first | lia | omega)) (fun p' hp' => ?_) h
      rw [hp] at hp'; cases hp'
      rw [← hk]
      exact hge

theorem hiG_ok {a b out : Array Keyed} {na nb g ac bc n : Nat} {st : SortSt} {Q : ForInStep HB → SortSt → Prop} (R : Rows2 a b) (hs : Sts arr pd st) (I : HiI a b out na nb) (hn : na + nb ≤ n)
    (h : ∀ r st', Sts arr pd st' → HiR a b n (inS r) → (∀ x, r = .yield x → x.1 = none) → Q r st') : wpS (model prog w) A E s (hiG a b out na nb g ac bc) Q st := by
  unfold hiG
  have pb := I.pb
  have lb := I.lb
  have pa := I.pa
  have la := I.la
  refine wpS_bind (min_ok hs fun st hs => ?_)
  obtain ⟨z, hz, hmz, hdz⟩ := top_of (a := b) (n := nb) (by (first | lia | omega)) I.lb
  refine wpS_bind (elem_ok hz ?_)
  have hcl := cutK_le (leP (nk z)) (a.toList.take na)
  have hct := cutK_take (asc_take R.asa na) (leP_dn (nk z))
  have hlen : (a.toList.take na).length = na := by rw [List.length_take, Array.length_toList]; (first | lia | omega)
  refine wpS_bind (gal_le (l := a.toList.take na) hs.kind (R.ikb z hmz) (fun q hq => R.ika q (List.mem_of_mem_take hq)) (by (first | lia | omega)) hlen (fun i hi => by rw [List.getElem?_take_of_lt hi, Array.getElem?_toList, Nat.zero_add]) (asc_take R.asa _) ?_)
  dsimp only
  generalize cutK (leP (nk z)) (a.toList.take na) = k at hcl hct ⊢
  rw [hlen] at hcl
  rw [take_take_le _ hcl] at hct
  have key : ∀ p, b[nb - 1]? = some p → ∀ q ∈ a.toList.take k, nk q ≤ nk p := fun p hp q hq => by
    rw [hz] at hp; cases hp
    have := hct.1 q hq
    unfold leP at this
    exact of_decide_eq_true this
  by_cases ck : na - k > 0
  · rw [if_pos ck]
    have m2 : MidH (a.toList ++ b.toList) (out ++ (a.extract k na).reverse).reverse.toList (a.toList.take k) (b.toList.take nb) := by
      rw [rev_app, extr_mn]
      refine MidH.left (by rw [← take_split _ hcl]; exact I.mid) fun x hx q hq => ?_
      have := hct.2 x hx
      unfold leP at this
      have e := I.mid.ay
      rw [hdz] at hq e
      have := last_ge e q hq
      have := of_decide_eq_false ‹decide (nk x ≤ nk z) = false›
      (first | lia | omega)
    by_cases c2 : (k == 0) = true
    · rw [if_pos c2]
      exact wpS_pure (h _ _ hs (hi_done m2 (by simpa using c2)) (by intro x e; cases e))
    · rw [if_neg c2]
      have := nbeq c2
      exact hiG2_ok R hs ⟨m2, by (first | lia | omega), I.pb, by (first | lia | omega), I.lb⟩ (by (first | lia | omega)) key fun r hr hy => h r _ hs hr hy
  · rw [if_neg ck]
    have hk : k = na := by (first | lia | omega)
    subst hk
    exact hiG2_ok R hs I hn key fun r hr hy => h r _ hs hr hy

theorem hiC_ok {a b out : Array Keyed} {na nb mg ac bc n : Nat} {st : SortSt} {Q : ForInStep DB → SortSt → Prop} (R : Rows2 a b) (hs : Sts arr pd st) (I : HiI a b out na nb) (hn : na + nb ≤ n)
    (h : ∀ r, HiR' a b n (inS r) → (∀ x, r = .yield x → x.1 = none) → Q r st) : wpS (model prog w) A E s (hiC a b mg na nb out ac bc) Q st := by
  unfold hiC
  have pb := I.pb
  have lb := I.lb
  have pa := I.pa
  have la := I.la
  obtain ⟨z, hz, hmz, hdz⟩ := top_of (a := b) (n := nb) (by (first | lia | omega)) I.lb
  obtain ⟨p, hp, hm, hd⟩ := top_of I.pa I.la
  refine wpS_bind (elem_ok hz (wpS_bind (elem_ok hp ?_)))
  refine wpS_bind (ltI hs.kind (R.ikb z hmz) (R.ika p hm) ?_)
  dsimp only
  have ax := I.mid.ax
  have ay := I.mid.ay
  by_cases c : nk z < nk p
  · rw [if_pos (decide_eq_true c)]
    refine wpS_bind (elem_ok hp ?_)
    have m := hi_pushA I.mid hd fun q hq => by
      rw [hdz] at hq ay
      exact Int.le_trans (last_ge ay q hq) (Int.le_of_lt c)
    by_cases c2 : (na - 1 == 0) = true
    · rw [if_pos c2]
      exact wpS_pure (h _ (hi_done m (by simpa using c2)) (by intro x e; cases e))
    · rw [if_neg c2]
      have I2 : HiI a b (out.push p) (na - 1) nb := ⟨m, by have := nbeq c2; (first | lia | omega), I.pb, by (first | lia | omega), I.lb⟩
      split
      · exact wpS_pure (h _ ⟨I2, by (first | lia | omega)⟩ (by intro x e; cases e))
      · exact wpS_pure (h _ ⟨I2, by (first | lia | omega)⟩ (by intro x e; cases e; rfl))
  · rw [if_neg (by simpa using c)]
    refine wpS_bind (elem_ok hz ?_)
    have m := hi_pushB I.mid hdz fun q hq => by
      rw [hd] at hq ax
      exact Int.le_trans (last_ge ax q hq) (Int.not_lt.mp c)
    by_cases c2 : (nb - 1 == 1) = true
    · rw [if_pos c2]
      exact wpS_pure (h _ (hi_first R m (by simpa using c2)) (by intro x e; cases e))
    · rw [if_neg c2]
      have I2 : HiI a b (out.push z) na (nb - 1) := ⟨m, I.pa, by have := nbeq c2; (first | lia | omega), I.la, by (first | lia | omega)⟩
      split
      · exact wpS_pure (h _ ⟨I2, by (first | lia | omega)⟩ (by intro x e; cases e))
      · exact wpS_pure (h _ ⟨I2, by (first | lia | omega)⟩ (by intro x e; cases e; rfl))

theorem mergeHi_ok {a b : Array Keyed} {st : SortSt} {Q : Array Keyed → SortSt → Prop} (R : Rows2 a b) (hs : Sts arr pd st) (h : ∀ o st', Sts arr pd st' → Fin2 a b o → Q o st') :
    wpS (model prog w) A E s (mergeHi2 a b) Q st := by
  rw [mergeHi3_eq]
  refine wpS_bind (wpS_lift (wpAny_rule ⟨rfl, ?_⟩))
  have hpa := R.posa
  have hpb := R.pos
  obtain ⟨p, hp, hm, hd⟩ := top_of (a := a) (n := a.size) R.posa (Nat.le_refl _)
  refine wpS_bind (elem_ok hp ?_)
  have m : MidH (a.toList ++ b.toList) (#[p] : Array Keyed).reverse.toList (a.toList.take (a.size - 1)) (b.toList.take b.size) := by
    have ea : a.toList.take a.size = a.toList := List.take_of_length_le (by simp)
    have eb : b.toList.take b.size = b.toList := List.take_of_length_le (by simp)
    have m0 : MidH (a.toList ++ b.toList) (#[] : Array Keyed).reverse.toList (a.toList.take a.size) (b.toList.take b.size) := by
      rw [ea, eb]; exact ⟨by simp, List.Pairwise.nil, by simp, R.asa, R.asb⟩
    exact hi_pushA m0 hd fun q hq => by
      rw [eb] at hq
      exact Int.le_of_lt (R.last q hq _ hp)
  by_cases c : (a.size - 1 == 0) = true
  · rw [if_pos c]
    exact wpS_pure (h _ _ hs (hi_done m (by simpa using c)))
  rw [if_neg c]
  by_cases c2 : (b.size == 1) = true
  · rw [if_pos c2]
    exact wpS_pure (h _ _ hs (hi_first R m (by simpa using c2)))
  rw [if_neg c2]
  have c := nbeq c
  have c2 := nbeq c2
  have I0 : HiI a b #[p] (a.size - 1) b.size := ⟨m, by (first | lia | omega), by (first | lia | omega), by (first | lia | omega), by (first | lia | omega)⟩
  have n0 : 0 + (a.size - 1 + b.size) < a.size + b.size := by (first | lia | omega)
  refine wpS_bind (wpS_get ?_)
  refine wpS_bind (wpS_mono (wpS_forRange (I := fun i S st' => Sts arr pd st' ∧ S.1 = none ∧ HiI a b S.2.2.2.1 S.2.1 S.2.2.1 ∧ i + (S.2.1 + S.2.2.1) < a.size + b.size)
    (Q := fun S st' => Sts arr pd st' ∧ ∃ r, S.1 = some r ∧ Fin2 a b r) ?_ ?_ ⟨hs, rfl, I0, n0⟩) ?_)
  · rintro i ⟨r, na, nb, out, mg⟩ st1 _ hi ⟨hs1, h1, I1, hn1⟩
    dsimp only at h1 I1 hn1 ⊢
    subst h1
    refine wpS_bind (wpS_mono (wpS_forRange (I := fun j (C : DB) st' => Sts arr pd st' ∧ C.1 = none ∧ HiI a b C.2.2.2.1 C.2.1 C.2.2.1 ∧ j + (C.2.1 + C.2.2.1) ≤ na + nb)
      (Q := fun C st' => Sts arr pd st' ∧ HiR' a b (na + nb) C) ?_ ?_ ⟨hs1, rfl, I1, Nat.le_of_eq (Nat.zero_add _)⟩) ?_)
    · rintro j ⟨r, na', nb', out', ac, bc⟩ st2 _ hj ⟨hs2, h2, I2, hn2⟩
      dsimp only at h2 I2 hn2 ⊢
      refine hiC_ok R hs2 I2 (Nat.le_refl _) fun r hr hy => ?_
      cases r with
      | done C =>
        refine ⟨hs2, ?_⟩
        obtain ⟨o, C⟩ := C
        cases o with
        | some o => exact hr
        | none => exact ⟨hr.1, Nat.lt_of_lt_of_le hr.2 (Nat.le_trans (Nat.le_add_left _ _) hn2)⟩
      | yield C =>
        obtain ⟨o, na2, nb2, out2, C⟩ := C
        cases hy _ rfl
        have : na2 + nb2 < na' + nb' := hr.2
        exact ⟨hs2, rfl, hr.1, by show j + 1 + (na2 + nb2) ≤ na + nb; (first | lia | omega)⟩
    · rintro ⟨r, na', nb', out', ac, bc⟩ st2 ⟨hs2, h2, I2, hn2⟩
      dsimp only at h2 I2 hn2
      subst h2
      exact ⟨hs2, I2, by show na' + nb' < na + nb; (first | lia | omega)⟩
    · rintro ⟨r, na', nb', out', ac, bc⟩ st2 ⟨hs2, h2⟩
      cases r with
      | some r => exact wpS_pure ⟨hs2, r, rfl, h2⟩
      | none =>
        obtain ⟨I2, hn2⟩ := h2
        refine wpS_bind (wpS_lift (wpAny_rule ⟨rfl, ?_⟩))
        refine wpS_bind (wpS_mono (wpS_forRange (I := fun j (C : HB) st' => Sts arr pd st' ∧ C.1 = none ∧ HiI a b C.2.2.2.1 C.2.1 C.2.2.1 ∧ C.2.1 + C.2.2.1 < na + nb)
          (Q := fun C st' => Sts arr pd st' ∧ HiR a b (na + nb) C) ?_ ?_ ⟨hs2, rfl, I2, hn2⟩) ?_)
        · rintro j ⟨r, na', nb', out', g, ac, bc⟩ st3 _ hj ⟨hs3, h3, I3, hn3⟩
          dsimp only at h3 I3 hn3 ⊢
          have fin : ∀ (r : ForInStep HB) st', Sts arr pd st' → HiR a b (na + nb) (inS r) → (∀ x, r = .yield x → x.1 = none) → (match r with
              | .done C => Sts arr pd st' ∧ HiR a b (na + nb) C
              | .yield C => Sts arr pd st' ∧ C.1 = none ∧ HiI a b C.2.2.2.1 C.2.1 C.2.2.1 ∧ C.2.1 + C.2.2.1 < na + nb) := fun r st' hs' hr hy => by
            cases r with
            | done C => exact ⟨hs', hr⟩
            | yield C =>
              obtain ⟨o, C⟩ := C
              cases hy _ rfl
              exact ⟨hs', rfl, hr.1, hr.2⟩
          split
          all_goals
            refine hiG_ok R hs3 I3 (Nat.le_of_lt hn3) fun r st' hs' hr hy => ?_
            have := fin r st' hs' hr hy
            cases r <;> exact this
        · rintro ⟨r, na', nb', out', g, ac, bc⟩ st3 ⟨hs3, h3, I3, hn3⟩
          dsimp only at h3 I3 hn3
          subst h3
          exact ⟨hs3, I3, hn3⟩
        · rintro ⟨r, na', nb', out', g, ac, bc⟩ st3 ⟨hs3, h3⟩
          cases r with
          | some r => exact wpS_pure ⟨hs3, r, rfl, h3⟩
          | none =>
            refine wpS_bind (min_ok hs3 fun st4 hs4 => ?_)
            have : na' + nb' < na + nb := h3.2
            exact wpS_pure ⟨hs4, rfl, h3.1, by show i + 1 + (na' + nb') < a.size + b.size; (first | lia | omega)⟩
  · rintro ⟨r, na, nb, out, mg⟩ st1 ⟨hs1, h1, I1, hn1⟩
    dsimp only at h1 I1 hn1
    (first | lia | omega)
  · rintro ⟨r, na, nb, out, mg⟩ st1 ⟨hs1, r', h1, hf⟩
    dsimp only at h1
    subst h1
    exact wpS_pure (h _ _ hs1 hf)
end
end Mine

namespace Mine
open PySem PySem.Calls PyProof.Rows

theorem K_nk {a : Array Keyed} {i : Nat} {p : Keyed} (h : a[i]? = some p) : K a i = nk p := by unfold K; rw [h]; rfl
theorem asc_of {a : Array Keyed} {lo m : Nat} (hs : lo + m ≤ a.size) (h : ∀ i j, i ≤ j → j < m → K a (lo + i) ≤ K a (lo + j)) : Asc ((a.toList.drop lo).take m) := by
  unfold Asc
  rw [List.pairwise_iff_getElem]
  intro i j hi hj hij
  have hjm : j < m := by rw [List.length_take] at hj; (first | lia | omega)
  have g : ∀ k, k < m → ∀ hk, K a (lo + k) = nk (((a.toList.drop lo).take m)[k]'hk) := by
    intro k hk hk'
    apply K_nk
    rw [← Array.getElem?_toList, ← List.getElem?_drop, ← List.getElem?_take_of_lt hk, List.getElem?_eq_getElem]
  rw [← g i (by (first | lia | omega)) hi, ← g j hjm hj]
  exact h i j (by (first | lia | omega)) hjm
theorem sortedTo_of {a : Array Keyed} {n : Nat} (hn : n = a.size) (h : Asc a.toList) : SortedTo a n := by
  intro i j hij hj
  subst hn
  by_cases e : i = j
  · subst e; exact Int.le_refl _
  rw [K_nk (getElem?_pos a i (by (first | lia | omega))), K_nk (getElem?_pos a j hj)]
  have := List.pairwise_iff_getElem.mp h i j (by simp; (first | lia | omega)) (by simp; (first | lia | omega)) (by (first | lia | omega))
  simpa using this
theorem keys_ne {a : Array Keyed} (h : (a.toList.map nk).Nodup) {i j : Nat} (hij : i < j) (hj : j < a.size) : K a i ≠ K a j := by
  rw [K_nk (getElem?_pos a i (by (first | lia | omega))), K_nk (getElem?_pos a j hj)]
  have := List.pairwise_iff_getElem.mp h i j (by simp; (first | lia | omega)) (by simp; (first | lia | omega)) hij
  simpa using this

section
variable {prog : Program} {w : World} {A : Around} {E : Value → Shared → Prop} {s : Shared}

theorem asc_app {a b : List Keyed} {k : Int} (ha : Asc a) (hb : Asc b) (h1 : ∀ p ∈ a, nk p ≤ k) (h2 : ∀ q ∈ b, k ≤ nk q) : Asc (a ++ b) :=
  List.pairwise_append.mpr ⟨ha, hb, fun p hp q hq => Int.le_trans (h1 p hp) (h2 q hq)⟩
theorem ik_list {a : Array Keyed} (h : IntKeys a) : ∀ p ∈ a.toList, IK p := h

theorem mergeAt2_ok {a : Array Keyed} {n1 n2 pw g : Nat} {Q : Bool → SortSt → Prop} (hI : IntKeys a) (h1 : 0 < n1) (h2 : 0 < n2) (hsz : a.size = n1 + n2) (hs1 : Asc (a.toList.take n1)) (hs2 : Asc (a.toList.drop n1))
    (h : ∀ st', pendingOf st' = #[(0, n1 + n2, pw)] → failedOf st' = none → (arrOf st').Perm a → Asc (arrOf st').toList → Q true st') :
    wpS (model prog w) A E s (mergeAt' 0) Q (SortSt.mk' oneType' a #[(0, n1, pw), (n1, n2, 0)] g none) := by
  rw [mergeAt2_eq]
  refine wpS_bind (wpS_get ?_)
  rw [show (pendingOf (SortSt.mk' oneType' a #[(0, n1, pw), (n1, n2, 0)] g none))[0]? = some (0, n1, pw) from rfl,
    show (pendingOf (SortSt.mk' oneType' a #[(0, n1, pw), (n1, n2, 0)] g none))[0 + 1]? = some (n1, n2, 0) from rfl]
  dsimp only
  have hp : ((#[(0, n1, pw), (n1, n2, 0)] : Array (Nat × Nat × Nat)).setIfInBounds 0 (0, n1 + n2, pw)).eraseIdxIfInBounds (0 + 1) = #[(0, n1 + n2, pw)] := by
    apply Array.toList_inj.mp; simp
  refine wpS_bind (wpS_set ?_)
  show wpS _ _ _ _ _ _ (SortSt.mk' oneType' a (((#[(0, n1, pw), (n1, n2, 0)] : Array (Nat × Nat × Nat)).setIfInBounds 0 (0, n1 + n2, pw)).eraseIdxIfInBounds (0 + 1)) g none)
  rw [hp]
  obtain ⟨y, hy, hym, hyd, _⟩ := at_of (a := a) (i := n1) (by (first | lia | omega))
  obtain ⟨z, hz, hzm, hzd⟩ := top_of (a := a) (n := n1) h1 (by (first | lia | omega))
  have ik := ik_list hI
  have whole : a.toList = a.toList.take n1 ++ a.toList.drop n1 := (List.take_append_drop n1 a.toList).symm
  refine wpS_bind (elem_ok hy ?_)
  have lenx : (a.toList.take n1).length = n1 := by rw [List.length_take, Array.length_toList]; (first | lia | omega)
  have leny : (a.toList.drop n1).length = n2 := by rw [List.length_drop, Array.length_toList]; (first | lia | omega)
  have hcl := cutK_le (leP (nk y)) (a.toList.take n1)
  have hct := cutK_take hs1 (leP_dn (nk y))
  refine wpS_bind (gal_le (l := a.toList.take n1) rfl (ik y hym) (fun q hq => ik q (List.mem_of_mem_take hq)) h1 lenx (fun i hi => by show a[0 + i]? = _; rw [List.getElem?_take_of_lt hi, Array.getElem?_toList, Nat.zero_add]) hs1 ?_)
  dsimp only
  generalize cutK (leP (nk y)) (a.toList.take n1) = k at hcl hct ⊢
  rw [lenx] at hcl
  rw [take_take_le _ hcl] at hct
  have lo1 : ∀ p ∈ a.toList.take k, nk p ≤ nk y := fun p hp => by have := hct.1 p hp; unfold leP at this; exact of_decide_eq_true this
  have lo2 : ∀ p ∈ (a.toList.take n1).drop k, nk y < nk p := fun p hp => by have := hct.2 p hp; unfold leP at this; have := of_decide_eq_false this; (first | lia | omega)
  have geY : ∀ q ∈ a.toList.drop n1, nk y ≤ nk q := by
    have := hs2
    rw [hyd] at this ⊢
    exact head_le this
  have leZ : ∀ q ∈ a.toList.take n1, nk q ≤ nk z := by
    have := hs1
    rw [hzd] at this ⊢
    exact last_ge this
  by_cases c1 : (n1 - k == 0) = true
  · rw [if_pos c1]
    have : k = n1 := by have : n1 - k = 0 := by simpa using c1
                        (first | lia | omega)
    subst this
    refine wpS_pure (h _ rfl rfl (Array.Perm.refl _) ?_)
    show Asc a.toList
    rw [whole]
    exact asc_app hs1 hs2 lo1 geY
  rw [if_neg c1]
  have c1 := nbeq c1
  refine wpS_bind (elem_ok (p := z) (by show a[_]? = _; rw [show 0 + k + (n1 - k) - 1 = n1 - 1 by (first | lia | omega)]; exact hz) ?_)
  have hcl2 := cutK_le (ltP' (nk z)) (a.toList.drop n1)
  have hct2 := cutK_take hs2 (ltP_dn (nk z))
  refine wpS_bind (gal_lt (l := a.toList.drop n1) rfl (ik z hzm) (fun q hq => ik q (mem_drop hq)) (by (first | lia | omega)) leny (fun i hi => by show a[n1 + i]? = _; rw [List.getElem?_drop, Array.getElem?_toList]) hs2 ?_)
  dsimp only
  generalize cutK (ltP' (nk z)) (a.toList.drop n1) = m at hcl2 hct2 ⊢
  rw [leny] at hcl2
  have hi1 : ∀ p ∈ (a.toList.drop n1).take m, nk p < nk z := fun p hp => by have := hct2.1 p hp; unfold ltP' at this; exact of_decide_eq_true this
  have hi2 : ∀ p ∈ (a.toList.drop n1).drop m, nk z ≤ nk p := fun p hp => by have := hct2.2 p hp; unfold ltP' at this; have := of_decide_eq_false this; (first | lia | omega)
  by_cases c2 : (m == 0) = true
  · rw [if_pos c2]
    have : m = 0 := by simpa using c2
    subst this
    rw [List.drop_zero] at hi2
    refine wpS_pure (h _ rfl rfl (Array.Perm.refl _) ?_)
    show Asc a.toList
    rw [whole]
    exact asc_app hs1 hs2 leZ hi2
  rw [if_neg c2]
  have c2 := nbeq c2
  have ex : (a.extract (0 + k) n1).toList = (a.toList.take n1).drop k := by rw [Nat.zero_add, extr_mn]
  have ey : (a.extract n1 (n1 + m)).toList = (a.toList.drop n1).take m := extr_k _ _ _
  have R : Rows2 (a.extract (0 + k) n1) (a.extract n1 (n1 + m)) := by
    refine ⟨?_, ?_, ?_, ?_, ?_, ?_, ?_, ?_⟩
    · rw [ex]; exact fun p hp => ik p (List.mem_of_mem_take (mem_drop hp))
    · rw [ey]; exact fun p hp => ik p (mem_drop (List.mem_of_mem_take hp))
    · rw [ex]; exact asc_drop hs1 k
    · rw [ey]; exact asc_take hs2 m
    · rw [← Array.length_toList, ey, List.length_take, leny]; (first | lia | omega)
    · rw [← Array.length_toList, ex, List.length_drop, lenx]; (first | lia | omega)
    · intro p hp u hu
      rw [ey] at hp
      have hsx : (a.extract (0 + k) n1).size = n1 - k := by rw [← Array.length_toList, ex, List.length_drop, lenx]
      rw [hsx, ← Array.getElem?_toList, ex, List.getElem?_drop, List.getElem?_take_of_lt (by (first | lia | omega)), Array.getElem?_toList, show k + (n1 - k - 1) = n1 - 1 by (first | lia | omega), hz] at hu
      cases hu
      exact hi1 p hp
    · intro p hp u hu
      rw [ex] at hp
      rw [← Array.getElem?_toList, ey, List.getElem?_take_of_lt (by (first | lia | omega)), List.getElem?_drop, Array.getElem?_toList, Nat.add_zero, hy] at hu
      cases hu
      exact lo2 p hp
  have main : ∀ o st', Sts a #[(0, n1 + n2, pw)] st' → Fin2 (a.extract (0 + k) n1) (a.extract n1 (n1 + m)) o → wpS (model prog w) A E s (do
      modify fun s => setArr s (o.toList.zipIdx.foldl (fun a (x : Keyed × Nat) => a.setIfInBounds (0 + k + x.2) x.1) (arrOf s))
      let __do_lift ← get
      pure (failedOf __do_lift).isNone) Q st' := by
    rintro o st' ⟨g', rfl⟩ ⟨op, oa⟩
    rw [ex, ey] at op
    have ol : o.toList.length = n1 - k + m := by rw [op.length_eq, List.length_append, List.length_drop, lenx, List.length_take, leny]; (first | lia | omega)
    refine wpS_bind (wpS_modify (wpS_bind (wpS_get (wpS_pure ?_))))
    have e1 := sets (0 + k) o.toList 0 a (by (first | lia | omega))
    rw [show 0 + k + 0 = k by (first | lia | omega), ol] at e1
    have e2 : a.toList.drop (k + (n1 - k + m)) = (a.toList.drop n1).drop m := by rw [List.drop_drop]; congr 1; (first | lia | omega)
    rw [e2] at e1
    have whole2 : a.toList = a.toList.take k ++ (((a.toList.take n1).drop k ++ (a.toList.drop n1).take m) ++ (a.toList.drop n1).drop m) := by
      rw [List.append_assoc, List.take_append_drop, ← List.append_assoc, ← take_split _ hcl]; exact whole
    refine h _ rfl rfl ?_ ?_
    · refine Array.perm_iff_toList_perm.mpr ?_
      show (List.foldl (fun a (x : Keyed × Nat) => a.setIfInBounds (0 + k + x.2) x.1) a (o.toList.zipIdx 0)).toList.Perm a.toList
      rw [e1]
      refine List.Perm.trans ?_ (List.Perm.of_eq whole2.symm)
      exact List.Perm.append_left _ (List.Perm.append_right _ op)
    · show Asc (List.foldl (fun a (x : Keyed × Nat) => a.setIfInBounds (0 + k + x.2) x.1) a (o.toList.zipIdx 0)).toList
      rw [e1]
      refine asc_app (k := nk y) (by rw [← take_take_le a.toList hcl]; exact asc_take hs1 k) (asc_app (k := nk z) oa (asc_drop hs2 m) ?_ hi2) lo1 ?_
      · intro p hp
        rcases List.mem_append.mp (op.mem_iff.mp hp) with hp | hp
        · exact leZ p (mem_drop hp)
        · exact Int.le_of_lt (hi1 p hp)
      · intro p hp
        rcases List.mem_append.mp hp with hp | hp
        · rcases List.mem_append.mp (op.mem_iff.mp hp) with hp | hp
          · exact Int.le_of_lt (lo2 p hp)
          · exact geY p (List.mem_of_mem_take hp)
        · exact geY p (mem_drop hp)
  by_cases c3 : n1 - k ≤ m
  · rw [if_pos c3]
    exact wpS_bind (mergeLo_ok R ⟨g, rfl⟩ fun o st' hs hf => main o st' hs hf)
  · rw [if_neg c3]
    exact wpS_bind (mergeHi_ok R ⟨g, rfl⟩ fun o st' hs hf => main o st' hs hf)

theorem minRun_two {n : Nat} (h1 : 64 ≤ n) (h2 : n ≤ 127) : minRun' n n 0 = n / 2 + n % 2 := by
  obtain ⟨f, rfl⟩ : ∃ f, n = f + 2 := ⟨n - 2, by (first | lia | omega)⟩
  rw [minRun'_succ, if_neg (by (first | lia | omega)), minRun'_succ, if_pos (by (first | lia | omega))]
  (first | lia | omega)
theorem keys_perm {a b : Array Keyed} (p : b.Perm a) (h : (a.toList.map nk).Nodup) : (b.toList.map nk).Nodup :=
  ((Array.perm_iff_toList_perm.mp p).map nk).nodup_iff.mpr h
theorem same_take {a b : Array Keyed} {n : Nat} (hs : b.size = a.size) (h : ∀ i, i < n → b[i]? = a[i]?) : b.toList.take n = a.toList.take n := by
  apply List.ext_getElem?
  intro i
  by_cases hi : i < n
  · rw [List.getElem?_take_of_lt hi, List.getElem?_take_of_lt hi, Array.getElem?_toList, Array.getElem?_toList]; exact h i hi
  · rw [List.getElem?_eq_none (by rw [List.length_take]; (first | lia | omega)), List.getElem?_eq_none (by rw [List.length_take]; (first | lia | omega))]

/-- one run from lo on, made as long as need be -/
theorem run_ok2 {lo mr : Nat} {a : Array Keyed} {pd : Array (Nat × Nat × Nat)} {g : Nat} {β : Type} {r : Nat → StateT SortSt Sem β} {e : StateT SortSt Sem β} {Q : β → SortSt → Prop} (hI : IntKeys a) (hd : (a.toList.map nk).Nodup) (hlo : lo < a.size)
    (h : ∀ m a', 1 ≤ m → lo + m ≤ a.size → min (a.size - lo) mr ≤ m → Asc ((a'.toList.drop lo).take m) → a'.Perm a → a'.toList.take lo = a.toList.take lo → wpS (model prog w) A E s (r m) Q (SortSt.mk' oneType' a' pd g none)) :
    wpS (model prog w) A E s (do
      let x ← countRun' lo (a.size - lo)
      match x with
      | some n =>
        if n < mr then
          (rule "list.sort.binary-insertion" : StateT SortSt Sem PUnit) >>= fun _ => binarySort' lo (min (a.size - lo) mr) n >>= fun y => if (!y) = true then e else r (min (a.size - lo) mr)
        else r n
      | _ => e) Q (SortSt.mk' oneType' a pd g none) := by
  refine wpS_bind (countLo hI (by (first | lia | omega)) (by (first | lia | omega)) (fun i j hij hj => keys_ne hd (by (first | lia | omega)) (by (first | lia | omega))) fun m a' hm1 hm2 hs hp ho => ?_)
  dsimp only
  have sz := hp.size_eq
  by_cases c : m < mr
  · rw [if_pos c]
    refine wpS_bind (wpS_lift (wpAny_rule ⟨rfl, ?_⟩))
    refine wpS_bind (binaryLo (ik_perm hI hp) hm1 (by (first | lia | omega)) (by (first | lia | omega)) hs fun a2 hs2 hp2 ho2 => ?_)
    simp only [Bool.not_true, Bool.false_eq_true, if_false]
    refine h _ a2 (by (first | lia | omega)) (by (first | lia | omega)) (Nat.le_refl _) (asc_of (by have := hp2.size_eq; (first | lia | omega)) hs2) (hp2.trans hp) ?_
    exact (same_take hp2.size_eq ho2).trans (same_take sz ho)
  · rw [if_neg c]
    exact h m a' hm1 (by (first | lia | omega)) (by (first | lia | omega)) (asc_of (by (first | lia | omega)) hs) hp (same_take sz ho)

theorem runs_two {a : Array Keyed} {Q : Unit → SortSt → Prop} (hI : IntKeys a) (hd : (a.toList.map nk).Nodup) (h64 : 64 ≤ a.size) (h127 : a.size ≤ 127)
    (h : ∀ st', failedOf st' = none → (arrOf st').Perm a → Asc (arrOf st').toList → Q () st') :
    wpS (model prog w) A E s sortRuns' Q (SortSt.mk' oneType' a #[] 7 none) := by
  rw [sortRuns'_eq]
  refine wpS_bind (wpS_get ?_)
  dsimp only
  show wpS _ _ _ _ _ _ (SortSt.mk' oneType' a #[] 7 none)
  simp only [show (arrOf (SortSt.mk' oneType' a #[] 7 none)) = a from rfl]
  have hmr := minRun_two h64 h127
  generalize hm : minRun' a.size a.size 0 = mr at hmr ⊢
  clear hm
  -- the end of one run
  have whole : ∀ {b : Array Keyed}, b.size = a.size → Asc ((b.toList.drop 0).take a.size) → Asc b.toList := fun e x => by
    rw [List.drop_zero, List.take_of_length_le (by simp [e])] at x; exact x
  refine wpS_bind (wpS_mono (wpS_forRange
    (I := fun x c st' => (x = 0 ∧ c = (none, 0) ∧ st' = SortSt.mk' oneType' a #[] 7 none) ∨
      (x = 1 ∧ ∃ n1 b, mr ≤ n1 ∧ n1 ≤ a.size ∧ c = (none, n1) ∧ b.Perm a ∧ Asc (b.toList.take n1) ∧ st' = SortSt.mk' oneType' b #[(0, n1, 0)] 7 none) ∨
      (2 ≤ x ∧ ∃ n1 b pw, 0 < n1 ∧ n1 < a.size ∧ c = (none, a.size) ∧ b.Perm a ∧ Asc (b.toList.take n1) ∧ Asc (b.toList.drop n1) ∧ st' = SortSt.mk' oneType' b #[(0, n1, pw), (n1, a.size - n1, 0)] 7 none))
    (Q := fun c st' => c = (none, a.size) ∧ ((∃ b : Array Keyed, b.Perm a ∧ Asc b.toList ∧ st' = SortSt.mk' oneType' b #[(0, a.size, 0)] 7 none) ∨
      (∃ n1 b pw, 0 < n1 ∧ n1 < a.size ∧ b.Perm a ∧ Asc (b.toList.take n1) ∧ Asc (b.toList.drop n1) ∧ st' = SortSt.mk' oneType' b #[(0, n1, pw), (n1, a.size - n1, 0)] 7 none))) ?step ?fin (.inl ⟨rfl, rfl, rfl⟩)) ?post)
  case fin =>
    rintro c st' (⟨hx, _, _⟩ | ⟨hx, _⟩ | ⟨_, n1, b, pw, h1, h2, hc, h3, h4, h5, h6⟩)
    · (first | lia | omega)
    · (first | lia | omega)
    · exact ⟨hc, .inr ⟨n1, b, pw, h1, h2, h3, h4, h5, h6⟩⟩
  case step =>
    rintro x c st' _ hxn (⟨rfl, rfl, rfl⟩ | ⟨rfl, n1, b, hn1, hn2, rfl, hb, hb1, rfl⟩ | ⟨hx, n1, b, pw, h1, h2, rfl, h3, h4, h5, rfl⟩)
    · dsimp only
      rw [if_neg (by (first | lia | omega))]
      refine run_ok2 hI hd (by (first | lia | omega)) fun m a' h1 h2 h3 h4 h5 h6 => ?_
      refine wpS_bind (wpS_get ?_)
      show wpS _ _ _ _ (do
          modify fun s => setPending s ((pendingOf s).push (0, m, 0))
          pure (ForInStep.yield (none, 0 + m))) _ _
      refine wpS_bind (wpS_modify (wpS_pure (.inr (.inl ⟨rfl, m, a', by (first | lia | omega), by (first | lia | omega), by rw [Nat.zero_add], h5, ?_, rfl⟩))))
      rw [List.drop_zero] at h4; exact h4
    · dsimp only
      have sz := hb.size_eq
      by_cases c : n1 ≥ a.size
      · rw [if_pos c]
        have : n1 = a.size := by (first | lia | omega)
        subst this
        exact wpS_pure ⟨rfl, .inl ⟨b, hb, whole sz (by rw [List.drop_zero]; exact hb1), rfl⟩⟩
      · rw [if_neg c, ← sz]
        refine run_ok2 (ik_perm hI hb) (keys_perm hb hd) (by (first | lia | omega)) fun m a' h1 h2 h3 h4 h5 h6 => ?_
        have hm : m = b.size - n1 := by (first | lia | omega)
        subst hm
        refine wpS_bind (wpS_get ?_)
        rw [show (pendingOf (SortSt.mk' oneType' a' #[(0, n1, 0)] 7 none)).back? = some (0, n1, 0) from rfl]
        dsimp only
        refine wpS_bind (wpS_mono (wpS_forRange (I := fun _ c st' => c = (none, ()) ∧ st' = SortSt.mk' oneType' a' #[(0, n1, 0)] 7 none)
          (Q := fun c st' => c = (none, ()) ∧ st' = SortSt.mk' oneType' a' #[(0, n1, 0)] 7 none) ?_ (fun _ _ h => h) ⟨rfl, rfl⟩) ?_)
        · rintro x c st' _ _ ⟨rfl, rfl⟩
          refine wpS_bind (wpS_get ?_)
          rw [if_neg (by show ¬ ((1 : Nat) > 1); exact Nat.lt_irrefl _)]
          exact wpS_pure ⟨rfl, rfl⟩
        · rintro c st' ⟨rfl, rfl⟩
          dsimp only
          have hmod : ∀ pw : Nat, ((#[(0, n1, 0)] : Array (Nat × Nat × Nat)).modify (1 - 1) fun x => (x.fst, x.2.fst, pw)) = #[(0, n1, pw)] := by
            intro pw; apply Array.toList_inj.mp; simp
          refine wpS_bind (wpS_modify (wpS_bind (wpS_modify (wpS_pure (.inr (.inr ⟨Nat.le_refl _, n1, a', power' b.size (2 * 0 + n1) (2 * 0 + n1 + n1 + (b.size - n1)) b.size, by (first | lia | omega), by (first | lia | omega), by rw [show n1 + (b.size - n1) = b.size by (first | lia | omega)], h5.trans hb, by rw [h6]; exact hb1, ?_, ?_⟩))))))
          · rw [List.take_of_length_le (by rw [List.length_drop, Array.length_toList, h5.size_eq]; exact Nat.le_refl _)] at h4
            exact h4
          · show SortSt.mk' oneType' a' (((#[(0, n1, 0)] : Array (Nat × Nat × Nat)).modify (1 - 1) fun x => (x.fst, x.2.fst, _)).push (n1, b.size - n1, 0)) 7 none = _
            rw [hmod]
            rfl
    · dsimp only
      rw [if_pos (Nat.le_refl _)]
      exact wpS_pure ⟨rfl, .inr ⟨n1, b, pw, h1, h2, h3, h4, h5, rfl⟩⟩
  case post =>
    rintro c st' ⟨rfl, hD⟩
    dsimp only
    refine wpS_bind (wpS_mono (wpS_forRange (I := fun x c st'' => c = (none, ()) ∧ ((x = 0 ∧ st'' = st') ∨ ((∃ p, pendingOf st'' = #[p]) ∧ failedOf st'' = none ∧ (arrOf st'').Perm a ∧ Asc (arrOf st'').toList)))
      (Q := fun c st'' => c = (none, ()) ∧ failedOf st'' = none ∧ (arrOf st'').Perm a ∧ Asc (arrOf st'').toList) ?_ ?_ ⟨rfl, .inl ⟨rfl, rfl⟩⟩) ?_)
    · have one : ∀ (st'' : SortSt), (∃ p, pendingOf st'' = #[p]) → (pendingOf st'').size ≤ 1 := by
        rintro st'' ⟨p, e⟩; rw [e]; exact Nat.le_refl 1
      rintro x c st'' _ _ ⟨rfl, ⟨rfl, rfl⟩ | ⟨h3, h4, h5⟩⟩
      · rcases hD with ⟨b, hb, ha, rfl⟩ | ⟨n1, b, pw, h1, h2, hb, h4, h5, rfl⟩
        · refine wpS_bind (wpS_get ?_)
          rw [if_pos (one _ ⟨_, rfl⟩)]
          exact wpS_pure ⟨rfl, rfl, hb, ha⟩
        · refine wpS_bind (wpS_get ?_)
          rw [if_neg (by show ¬ ((2 : Nat) ≤ 1); decide)]
          have sz := hb.size_eq
          refine wpS_bind (mergeAt2_ok (n1 := n1) (n2 := a.size - n1) (pw := pw) (ik_perm hI hb) h1 (by (first | lia | omega)) (by (first | lia | omega)) h4 h5 fun st2 e1 e2 e3 e4 => ?_)
          simp only [Bool.not_true, Bool.false_eq_true, if_false]
          exact wpS_pure ⟨rfl, .inr ⟨⟨_, e1⟩, e2, e3.trans hb, e4⟩⟩
      · refine wpS_bind (wpS_get ?_)
        rw [if_pos (one _ h3)]
        exact wpS_pure ⟨rfl, h4, h5⟩
    · rintro c st'' ⟨rfl, ⟨h3, _⟩ | ⟨h3, h4, h5⟩⟩
      · (first | lia | omega)
      · exact ⟨rfl, h4, h5⟩
    · rintro c st'' ⟨rfl, h4, h5, h6⟩
      exact wpS_pure (h _ h4 h5 h6)
end
end Mine

namespace Mine
open PySem PySem.Calls PyProof.Rows

/-- pure data -/
inductive D where
  | none
  | bool (b : Bool)
  | int (i : Int)
  | str (x : Str)
  | tup (ds : List D)
  | lst (ds : List D)

/-- no list within, nested n deep at most -/
noncomputable def D.okN : Nat → D → Bool
  | 0, .tup _ => false
  | n + 1, .tup ds => ds.all (okN n)
  | _, .lst _ => false
  | _, _ => true
noncomputable def D.pure (d : D) : Bool := d.okN 8
noncomputable def D.pures (ds : List D) : Bool := ds.all D.pure
@[simp] theorem D.okN_none (n : Nat) : D.okN n .none = true := by cases n <;> rfl
@[simp] theorem D.okN_bool (n : Nat) (b : Bool) : D.okN n (.bool b) = true := by cases n <;> rfl
@[simp] theorem D.okN_int (n : Nat) (b : Int) : D.okN n (.int b) = true := by cases n <;> rfl
@[simp] theorem D.okN_str (n : Nat) (b : Str) : D.okN n (.str b) = true := by cases n <;> rfl
@[simp] theorem D.okN_lst (n : Nat) (b : List D) : D.okN n (.lst b) = false := by cases n <;> rfl
theorem D.okN_tup (n : Nat) (ds : List D) : D.okN (n + 1) (.tup ds) = ds.all (D.okN n) := rfl
theorem D.okN_succ : ∀ (n : Nat) (d : D), d.okN n = true → d.okN (n + 1) = true
  | 0, .tup _, h => by cases h
  | n + 1, .tup ds, h => by
    simp only [D.okN_tup, List.all_eq_true] at h ⊢
    exact fun x hx => D.okN_succ n x (h x hx)
  | _, .none, _ => by simp
  | _, .bool _, _ => by simp
  | _, .int _, _ => by simp
  | _, .str _, _ => by simp
  | _, .lst _, h => by simp at h
theorem D.okN_le {n m : Nat} (h : n ≤ m) {d : D} (e : d.okN n = true) : d.okN m = true := by
  induction h with
  | refl => exact e
  | step _ ih => exact D.okN_succ _ _ ih
@[simp] theorem D.pure_none : D.pure .none = true := rfl
@[simp] theorem D.pure_bool (b : Bool) : D.pure (.bool b) = true := rfl
@[simp] theorem D.pure_int (b : Int) : D.pure (.int b) = true := rfl
@[simp] theorem D.pure_str (b : Str) : D.pure (.str b) = true := rfl
theorem D.pure_item {ds : List D} (h : D.pure (.tup ds) = true) : D.pures ds = true := by
  simp only [D.pure, D.okN_tup, D.pures, List.all_eq_true] at h ⊢
  exact fun x hx => D.okN_succ _ _ (h x hx)

/-- the greatest length of a tuple or list here -/
noncomputable def lim : Nat := 1000000

mutual
inductive V (h : Heap) : Value → D → Prop
  | none : V h .none .none
  | bool (b : Bool) : V h (.bool b) (.bool b)
  | int (i : Int) (t : Tok) : V h (.int i t) (.int i)
  | str (x : Str) (t : Tok) : V h (.str x t) (.str x)
  | tup {a : Addr} {vs : List Value} {ds : List D} : h.IsTuple a vs.toArray → Vs h vs ds → ds.length ≤ lim → V h (.ref a) (.tup ds)
  | lst {a : Addr} {vs : List Value} {ds : List D} : h.PlainList a vs.toArray → Vs h vs ds → ds.length ≤ lim → V h (.ref a) (.lst ds)
inductive Vs (h : Heap) : List Value → List D → Prop
  | nil : Vs h [] []
  | cons {v : Value} {vs : List Value} {d : D} {ds : List D} : V h v d → Vs h vs ds → Vs h (v :: vs) (d :: ds)
end

theorem IsTuple_keep {h h' : Heap} {a : Addr} {items : Array Value} (x : h.IsTuple a items) (k : ∀ b o, h.get? b = some o → h'.get? b = some o) : h'.IsTuple a items :=
  let ⟨o, ho, r⟩ := x; ⟨o, k a o ho, r⟩
theorem IsList_keep {h h' : Heap} {a : Addr} {items : Array Value} (x : h.IsList a items) (k : ∀ b o, h.get? b = some o → h'.get? b = some o) : h'.IsList a items :=
  let ⟨o, ho, r⟩ := x; ⟨o, k a o ho, r⟩

theorem V.mono {h h' : Heap} (k : ∀ b o, h.get? b = some o → h'.get? b = some o) {v : Value} {d : D} (x : V h v d) : V h' v d :=
  V.rec (motive_1 := fun v d _ => V h' v d) (motive_2 := fun vs ds _ => Vs h' vs ds) .none (fun b => .bool b) (fun i t => .int i t) (fun x t => .str x t)
    (fun a _ c b => .tup (IsTuple_keep a k) b c) (fun a _ c b => .lst (a.at fun o e => k _ o e) b c) .nil (fun _ _ a b => .cons a b) x
theorem Vs.mono {h h' : Heap} (k : ∀ b o, h.get? b = some o → h'.get? b = some o) {vs : List Value} {ds : List D} (x : Vs h vs ds) : Vs h' vs ds := by
  induction vs generalizing ds with
  | nil => cases x; exact .nil
  | cons v vs ih => cases x with | cons a b => exact .cons (a.mono k) (ih b)

/-- pure data hangs on tuples alone -/
theorem V.okKeep {h h' : Heap} (k : ∀ a items, h.IsTuple a items → h'.IsTuple a items) (n : Nat) {v : Value} {d : D} (x : V h v d) (e : d.okN n = true) : V h' v d := by
  induction n generalizing v d with
  | zero =>
    cases x with
    | none => exact .none
    | bool b => exact .bool b
    | int i t => exact .int i t
    | str x t => exact .str x t
    | tup => cases e
    | lst => cases e
  | succ n ih =>
    cases x with
    | none => exact .none
    | bool b => exact .bool b
    | int i t => exact .int i t
    | str x t => exact .str x t
    | lst => cases e
    | tup a b c =>
      rename_i p vs ds
      rw [D.okN_tup] at e
      refine .tup (k _ _ a) ?_ c
      clear a c
      induction vs generalizing ds with
      | nil => cases b; exact .nil
      | cons v vs ih2 =>
        cases b with
        | cons x y =>
          rw [List.all_cons, Bool.and_eq_true] at e
          exact .cons (ih x e.1) (ih2 y e.2)
theorem V.pureKeep {h h' : Heap} (k : ∀ a items, h.IsTuple a items → h'.IsTuple a items) {v : Value} {d : D} (x : V h v d) (e : d.pure = true) : V h' v d := V.okKeep k 8 x e
theorem Vs.pureKeep {h h' : Heap} (k : ∀ a items, h.IsTuple a items → h'.IsTuple a items) {vs : List Value} {ds : List D} (x : Vs h vs ds) (e : D.pures ds = true) : Vs h' vs ds := by
  induction vs generalizing ds with
  | nil => cases x; exact .nil
  | cons v vs ih =>
    cases x with
    | cons a b =>
      rw [D.pures, List.all_cons, Bool.and_eq_true] at e
      exact .cons (a.pureKeep k e.1) (ih b e.2)

section
variable {h : Heap} {vs ws : List Value} {ds es : List D} {v : Value} {d : D}
theorem Vs.length (x : Vs h vs ds) : vs.length = ds.length := by
  induction vs generalizing ds with
  | nil => cases x; rfl
  | cons v vs ih => cases x with | cons a b => rw [List.length_cons, List.length_cons, ih b]
theorem Vs.append (x : Vs h vs ds) (y : Vs h ws es) : Vs h (vs ++ ws) (ds ++ es) := by
  induction vs generalizing ds with
  | nil => cases x; exact y
  | cons v vs ih => cases x with | cons a b => exact .cons a (ih b)
theorem Vs.one (x : V h v d) : Vs h [v] [d] := .cons x .nil
theorem Vs.get (x : Vs h vs ds) {k : Nat} (e : ds[k]? = some d) : ∃ v, vs[k]? = some v ∧ V h v d := by
  induction vs generalizing ds k with
  | nil => cases x; simp at e
  | cons v vs ih =>
    cases x with
    | cons a b =>
      cases k with
      | zero => simp at e; subst e; exact ⟨v, rfl, a⟩
      | succ k => simp at e; simpa using ih b e
theorem Vs.get' (x : Vs h vs ds) {k : Nat} (e : vs[k]? = some v) : ∃ d, ds[k]? = some d ∧ V h v d := by
  induction vs generalizing ds k with
  | nil => simp at e
  | cons v vs ih =>
    cases x with
    | cons a b =>
      cases k with
      | zero => simp at e; subst e; exact ⟨_, rfl, a⟩
      | succ k => simp at e; simpa using ih b e
theorem Vs.take (x : Vs h vs ds) (k : Nat) : Vs h (vs.take k) (ds.take k) := by
  induction vs generalizing ds k with
  | nil => cases x; simpa using Vs.nil
  | cons v vs ih =>
    cases x with
    | cons a b =>
      cases k with
      | zero => exact .nil
      | succ k => exact .cons a (ih b k)
theorem Vs.drop (x : Vs h vs ds) (k : Nat) : Vs h (vs.drop k) (ds.drop k) := by
  induction vs generalizing ds k with
  | nil => cases x; simpa using Vs.nil
  | cons v vs ih =>
    cases x with
    | cons a b =>
      cases k with
      | zero => exact .cons a b
      | succ k => exact ih b k
theorem Vs.set (x : Vs h vs ds) (k : Nat) (y : V h v d) : Vs h (vs.set k v) (ds.set k d) := by
  induction vs generalizing ds k with
  | nil => cases x; simpa using Vs.nil
  | cons v vs ih =>
    cases x with
    | cons a b =>
      cases k with
      | zero => exact .cons y b
      | succ k => exact .cons a (ih b k)
end

/-- a key of a dict: an int, or a pair of a str and an int -/
abbrev Ky := Option Str × Int
/-- what a local holds: data; an argument; a list of the frame's own; a dict of the frame's own -/
inductive Lo where
  | dat (d : D)
  | arg (d : D)
  | own (ds : List D)
  | dic (kvs : List (Ky × D))
noncomputable def Lo.val : Lo → D
  | .dat d => d
  | .arg d => d
  | .own ds => .lst ds
  | .dic _ => .none
/-- an object of the frame's own, that may change -/
noncomputable def Lo.mine : Lo → Bool
  | .own _ => true
  | .dic _ => true
  | _ => false
noncomputable def Lo.dic? : Lo → Option (List (Ky × D))
  | .dic kvs => some kvs
  | _ => none
noncomputable def Lo.val? (lo : Lo) : Option D := match lo with
  | .dic _ => none
  | lo => some lo.val

set_option genSizeOf false
set_option genInjectivity false
inductive Op where | add | sub | mul | div | mod | pow
inductive Cm where | eq | ne | lt | le | gt | ge
inductive Ty where | tuple | int | bool

mutual
inductive E where
  | k (d : D)
  | v (i : Nat)
  | bin (o : Op) (a b : E)
  | neg (a : E)
  | not (a : E)
  | cmp (o : Cm) (a b : E)
  | chain (o₁ o₂ : Cm) (a b c : E)
  | and (a b : E)
  | or (a b : E)
  | idx (a i : E)
  | slFrom (a lo : E)
  | tup (es : Es)
  | lst (es : Es)
  | call (f : Nat) (es : Es)
  | len (a : E)
  | isi (a : E) (t : Ty)
  | max (a b : E)
  | toInt (a : E)
  | toTup (a : E)
  | comp (elt : E) (it : It) (cond : E)
  | inD (neg : Bool) (a : E) (x : Nat)
  | srtK (x : Nat)
  | srtL (a : E)
inductive It where
  | range (a : E)
  | seq (a : E)
  | keys (x : Nat)
inductive Es where
  | nil
  | cons (e : E) (es : Es)
end

set_option genInjectivity true
/-- what a call gives: a value, or a list or dict of its own -/
inductive Out where
  | ok (d : D)
  | own (lo : Lo)
abbrev Fns := Nat → List D → Option Out
abbrev Rho := List (Option Lo)
noncomputable def Rho.get (ρ : Rho) (i : Nat) : Option Lo := (ρ[i]?).getD none

/-! taking apart -/
theorem nns {α : Type} {x : α} {P : Prop} (h : (none : Option α) = some x) : P := nomatch h
theorem nnb {P : Prop} (h : false = true) : P := nomatch h
theorem ob {α β : Type} {x : Option α} {f : α → Option β} {b : β} (h : x.bind f = some b) : ∃ a, x = some a ∧ f a = some b := Option.bind_eq_some_iff.mp h
theorem om {α β : Type} {x : Option α} {f : α → β} {b : β} (h : x.map f = some b) : ∃ a, x = some a ∧ f a = b := Option.map_eq_some_iff.mp h
theorem oi {p : Prop} [Decidable p] {α : Type} {x y : α} (h : (if p then some x else none) = some y) : p ∧ x = y := by
  by_cases q : p
  · rw [if_pos q] at h; exact ⟨q, Option.some.inj h⟩
  · rw [if_neg q] at h; cases h
theorem oi' {p : Prop} [Decidable p] {α : Type} {x : Option α} {y : α} (h : (if p then x else none) = some y) : p ∧ x = some y := by
  by_cases q : p
  · rw [if_pos q] at h; exact ⟨q, h⟩
  · rw [if_neg q] at h; cases h

noncomputable def intOf : D → Option Int
  | .int i => some i
  | _ => none
noncomputable def tupOf : D → Option (List D)
  | .tup i => some i
  | _ => none
noncomputable def lstOf : D → Option (List D)
  | .lst i => some i
  | _ => none
noncomputable def strOf : D → Option Str
  | .str i => some i
  | _ => none
noncomputable def isTrueD : D → Option Bool
  | .bool b => some b
  | _ => none
noncomputable def items : D → Option (List D)
  | .tup ds => some ds
  | .lst ds => some ds
  | _ => none
theorem intOf_some {d : D} {i : Int} (h : intOf d = some i) : d = .int i := by cases d <;> cases h <;> rfl
theorem tupOf_some {d : D} {i : List D} (h : tupOf d = some i) : d = .tup i := by cases d <;> cases h <;> rfl
theorem lstOf_some {d : D} {i : List D} (h : lstOf d = some i) : d = .lst i := by cases d <;> cases h <;> rfl
theorem strOf_some {d : D} {i : Str} (h : strOf d = some i) : d = .str i := by cases d <;> cases h <;> rfl
theorem isTrueD_some {d : D} {b : Bool} (h : isTrueD d = some b) : d = .bool b := by cases d <;> cases h <;> rfl
noncomputable def i2 {α : Type} (x y : D) (f : Int → Int → Option α) : Option α := (intOf x).bind fun a => (intOf y).bind fun b => f a b
theorem i2_some {α : Type} {x y : D} {f : Int → Int → Option α} {r : α} (h : i2 x y f = some r) : ∃ a b, x = .int a ∧ y = .int b ∧ f a b = some r := by
  replace h := ob h
  obtain ⟨a, ha, h⟩ := h
  replace h := ob h
  obtain ⟨b, hb, h⟩ := h
  exact ⟨a, b, intOf_some ha, intOf_some hb, h⟩

noncomputable def addD (x y : D) : Option D := match x with
  | .int a => (intOf y).map fun b => .int (a + b)
  | .tup a => (tupOf y).bind fun b => if a.length + b.length ≤ lim then some (.tup (a ++ b)) else none
  | .lst a => (lstOf y).bind fun b => if a.length + b.length ≤ lim then some (.lst (a ++ b)) else none
  | _ => none
noncomputable def evBin (o : Op) (x y : D) : Option D := match o with
  | .add => addD x y
  | .sub => i2 x y fun a b => some (.int (a - b))
  | .mul => i2 x y fun a b => if a.natAbs < 1000000000 ∨ b.natAbs < 1000000000 then some (.int (a * b)) else none
  | .div => i2 x y fun a b => if 0 < b ∧ b < 1000000000 then some (.int (a / b)) else none
  | .mod => i2 x y fun a b => if 0 < b then some (.int (a % b)) else none
  | .pow => i2 x y fun a b => if a = 10 ∧ b = 60 then some (.int (10 ^ 60)) else none

/-- == of ints and of strs -/
noncomputable def eqS (x y : D) : Option Bool := match x with
  | .int a => (intOf y).map fun b => a == b
  | .str a => (strOf y).map fun b => a == b
  | _ => none
noncomputable def evCmp (o : Cm) (x y : D) : Option Bool := match o with
  | .eq => eqS x y
  | .ne => (eqS x y).map fun b => !b
  | .lt => i2 x y fun a b => some (decide (a < b))
  | .le => i2 x y fun a b => some (decide (a ≤ b))
  | .gt => i2 x y fun a b => some (decide (a > b))
  | .ge => i2 x y fun a b => some (decide (a ≥ b))

noncomputable def evIsi (t : Ty) (x : D) : Bool := match t with
  | .tuple => (tupOf x).isSome
  | .int => (intOf x).isSome || (isTrueD x).isSome
  | .bool => (isTrueD x).isSome

/-- a place of a sequence, from nought; no place below it is asked -/
noncomputable def evIdx (x y : D) : Option D := (items x).bind fun ds => (intOf y).bind fun i => if 0 ≤ i then ds[i.toNat]? else none
noncomputable def negD (x : D) : Option D := (intOf x).map fun i => .int (-i)
noncomputable def notD (x : D) : Option D := (isTrueD x).map fun i => .bool (!i)
noncomputable def maxD (x y : D) : Option D := i2 x y fun a b => some (.int (if b > a then b else a))
noncomputable def toIntD (x : D) : Option D := (isTrueD x).map fun b => .int (if b then 1 else 0)
noncomputable def cutFrom (x y : D) : Option D := (tupOf x).bind fun ds => (intOf y).bind fun i => if 0 ≤ i then some (.tup (ds.drop i.toNat)) else none
noncomputable def okOf : Out → Option D
  | .ok d => some d
  | .own _ => none
theorem okOf_some {o : Out} {d : D} (h : okOf o = some d) : o = .ok d := by cases o <;> cases h; rfl

/-- a comprehension: the items whose test is true, each by f -/
noncomputable def compO {α β : Type} (c : α → Option Bool) (f : α → Option β) : List α → Option (List β)
  | [] => some []
  | a :: as => (c a).bind fun p => if p = true then (f a).bind fun b => (compO c f as).map fun bs => b :: bs else compO c f as
noncomputable def rangeD (a b : Int) : List D := (List.range (b - a).toNat).map fun (i : Nat) => D.int (a + i)

theorem rangeD_get {a b : Int} {i : Nat} (h : i < (rangeD a b).length) : (rangeD a b)[i]? = some (.int (a + i)) := by
  simp only [rangeD, List.length_map, List.length_range] at h
  simp [rangeD, h]

/-! sorting ints -/
/-- the rows of ints whose sorting is proved -/
noncomputable def SortOk (ns : List Int) : Prop := ns.length < 64 ∨ (ns.length ≤ 127 ∧ ns.Nodup) ∨ ns.Pairwise (· < ·)
instance (ns : List Int) : Decidable (SortOk ns) := by unfold SortOk; infer_instance
noncomputable def insI (n : Int) : List Int → List Int
  | [] => [n]
  | m :: r => if n ≤ m then n :: m :: r else m :: insI n r
noncomputable def isort : List Int → List Int
  | [] => []
  | n :: r => insI n (isort r)
noncomputable def intsOf : List D → Option (List Int)
  | [] => some []
  | d :: r => (intOf d).bind fun n => (intsOf r).map fun ns => n :: ns
noncomputable def sortD (ds : List D) : Option D := (intsOf ds).bind fun ns => if SortOk ns then some (.lst ((isort ns).map .int)) else none

/-! dicts -/
noncomputable def keyD : D → Option Ky
  | .int i => some (none, i)
  | .tup ds => match ds with
    | [.str x, .int i] => some (some x, i)
    | _ => none
  | _ => none
noncomputable def lookK (kvs : List (Ky × D)) (k : Ky) : Option D := (kvs.find? fun x => decide (x.1 = k)).map (·.2)
noncomputable def putK (kvs : List (Ky × D)) (k : Ky) (d : D) : List (Ky × D) := if (lookK kvs k).isSome = true then kvs.map (fun x => if x.1 = k then (x.1, d) else x) else kvs ++ [(k, d)]
/-- keys of one kind -/
noncomputable def kindOk (kvs : List (Ky × D)) (k : Ky) : Bool := kvs.all (fun x => x.1.1.isSome == k.1.isSome)
/-- a key as a datum -/
noncomputable def kyD (k : Ky) : D := match k.1 with
  | none => .int k.2
  | some x => .tup [.str x, .int k.2]
noncomputable def flat : D → Bool
  | .bool _ => true
  | .int _ => true
  | _ => false
noncomputable def Rho.dic? (ρ : Rho) (x : Nat) : Option (List (Ky × D)) := (ρ.get x).bind Lo.dic?

mutual
noncomputable def ev (Φ : Fns) (ρ : Rho) : E → Option D
  | .k d => some d
  | .v i => (ρ.get i).bind Lo.val?
  | .bin o a b => (ev Φ ρ a).bind fun x => (ev Φ ρ b).bind fun y => evBin o x y
  | .neg a => (ev Φ ρ a).bind negD
  | .not a => (ev Φ ρ a).bind notD
  | .cmp o a b => (ev Φ ρ a).bind fun x => (ev Φ ρ b).bind fun y => (evCmp o x y).map .bool
  | .chain o₁ o₂ a b c => (ev Φ ρ a).bind fun x => (ev Φ ρ b).bind fun y => (evCmp o₁ x y).bind fun p => if p = true then (ev Φ ρ c).bind fun z => (evCmp o₂ y z).map .bool else some (.bool false)
  | .and a b => (ev Φ ρ a).bind fun x => (isTrueD x).bind fun p => if p = true then (ev Φ ρ b).bind fun y => (isTrueD y).map .bool else some (.bool false)
  | .or a b => (ev Φ ρ a).bind fun x => (isTrueD x).bind fun p => if p = true then some (.bool true) else (ev Φ ρ b).bind fun y => (isTrueD y).map .bool
  | .idx a i => (ev Φ ρ a).bind fun x => (ev Φ ρ i).bind fun y => evIdx x y
  | .slFrom a lo => (ev Φ ρ a).bind fun x => (ev Φ ρ lo).bind fun y => cutFrom x y
  | .tup es => (evs Φ ρ es).map .tup
  | .lst es => (evs Φ ρ es).map .lst
  | .call f es => (evs Φ ρ es).bind fun ds => (Φ f ds).bind okOf
  | .len a => (ev Φ ρ a).bind fun x => (items x).map fun ds => .int ds.length
  | .isi a t => (ev Φ ρ a).map fun d => .bool (evIsi t d)
  | .max a b => (ev Φ ρ a).bind fun x => (ev Φ ρ b).bind fun y => maxD x y
  | .toInt a => (ev Φ ρ a).bind toIntD
  | .toTup a => (ev Φ ρ a).bind fun x => (items x).map .tup
  | .comp elt it cond => (evIt Φ ρ it).bind fun ds => (compO (fun d => (ev Φ (ρ ++ [some (.dat d)]) cond).bind isTrueD) (fun d => ev Φ (ρ ++ [some (.dat d)]) elt) ds).bind fun res => if D.pures res = true then some (.lst res) else none
  | .inD neg a x => (ev Φ ρ a).bind fun d => (keyD d).bind fun k => (ρ.dic? x).bind fun kvs => if kindOk kvs k = true then some (.bool (if neg = true then !(lookK kvs k).isSome else (lookK kvs k).isSome)) else none
  | .srtK x => (ρ.dic? x).bind fun kvs => if kvs.length ≤ lim then sortD (kvs.map fun p => kyD p.1) else none
  | .srtL a => (ev Φ ρ a).bind fun d => (lstOf d).bind sortD
noncomputable def evIt (Φ : Fns) (ρ : Rho) : It → Option (List D)
  | .range a => (ev Φ ρ a).bind fun x => (intOf x).bind fun n => if -lim ≤ n ∧ n ≤ lim then some (rangeD 0 n) else none
  | .seq a => (ev Φ ρ a).bind fun d => (items d).bind fun ds => if D.pures ds = true then some ds else none
  | .keys x => (ρ.dic? x).bind fun kvs => if kvs.length ≤ lim then some (kvs.map fun p => kyD p.1) else none
noncomputable def evs (Φ : Fns) (ρ : Rho) : Es → Option (List D)
  | .nil => some []
  | .cons e es => (ev Φ ρ e).bind fun d => (evs Φ ρ es).map fun ds => d :: ds
end
end Mine

namespace Mine
open PySem PySem.Calls PyProof.Rows


theorem pairs_nk {vs : List Value} {ns : List Int} (hI : IntsAre vs ns) : (pairsOf vs).toList.map nk = ns := by
  rw [pairsOf_toList]
  have : (vs.zip vs).map nk = ((vs.zip vs).map Prod.fst).map numOf := by rw [List.map_map]; rfl
  rw [this, List.map_fst_zip (Nat.le_refl _), hI.nums]

section
variable {prog : Program} {w : World} {A : Around} {E : Value → Shared → Prop} {s : Shared}

theorem count_rise {n : Nat} {a : Array Keyed} {pd : Array (Nat × Nat × Nat)} {g : Nat} {Q : Option Nat → SortSt → Prop} (hI : IntKeys a) (h1 : 1 ≤ n) (hn : n ≤ a.size) (hr : ∀ i, i + 1 < n → K a i < K a (i + 1)) (h : Q (some n) (SortSt.mk' oneType' a pd g none)) :
    wpS (model prog w) A E s (countRun' 0 n) Q (SortSt.mk' oneType' a pd g none) := by
  rw [countRun'_eq]
  refine wpS_bind (wpS_mono (wpS_forRange (I := fun x c st' => st' = SortSt.mk' oneType' a pd g none ∧ c = (none, x))
    (Q := fun c st' => st' = SortSt.mk' oneType' a pd g none ∧ c = (none, n)) ?_ ?_ ⟨rfl, rfl⟩) ?_)
  · rintro x c st' hx1 hxn ⟨rfl, rfl⟩
    dsimp only
    refine wpS_bind (ltK hI (by (first | lia | omega)) (by (first | lia | omega)) ?_)
    dsimp only
    have := hr (x - 1) (by (first | lia | omega))
    rw [show x - 1 + 1 = x by (first | lia | omega)] at this
    rw [if_neg (by rw [show 0 + x - 1 = x - 1 by (first | lia | omega), show 0 + x = x by (first | lia | omega)]; simp; (first | lia | omega))]
    exact wpS_pure ⟨rfl, rfl⟩
  · rintro c st' ⟨rfl, rfl⟩
    exact ⟨rfl, by rw [Nat.max_eq_right h1]⟩
  · rintro c st' ⟨rfl, rfl⟩
    dsimp only
    rw [if_pos (by simp)]
    exact wpS_pure h
theorem runs_rise {a : Array Keyed} {Q : Unit → SortSt → Prop} (hI : IntKeys a) (h64 : 64 ≤ a.size) (hr : ∀ i, i + 1 < a.size → K a i < K a (i + 1)) (h : ∀ st', failedOf st' = none → arrOf st' = a → Q () st') :
    wpS (model prog w) A E s sortRuns' Q (SortSt.mk' oneType' a #[] 7 none) := by
  rw [sortRuns'_eq]
  refine wpS_bind (wpS_get ?_)
  dsimp only
  simp only [show (arrOf (SortSt.mk' oneType' a #[] 7 none)) = a from rfl]
  have hm : ¬ a.size < minRun' a.size a.size 0 := Nat.not_lt.mpr (Nat.le_trans (minRun_le _ _ _ (Nat.le_refl _) (by (first | lia | omega))) h64)
  refine wpS_bind (wpS_mono (wpS_forRange (I := fun x c st' => (x = 0 ∧ c = (none, 0) ∧ st' = SortSt.mk' oneType' a #[] 7 none) ∨ (1 ≤ x ∧ c = (none, a.size) ∧ st' = SortSt.mk' oneType' a #[(0, a.size, 0)] 7 none))
    (Q := fun c st' => c = (none, a.size) ∧ st' = SortSt.mk' oneType' a #[(0, a.size, 0)] 7 none) ?_ ?_ (.inl ⟨rfl, rfl, rfl⟩)) ?_)
  · rintro x c st' _ hxn (⟨rfl, rfl, rfl⟩ | ⟨hx, rfl, rfl⟩)
    · dsimp only
      rw [if_neg (by (first | lia | omega))]
      refine wpS_bind (count_rise hI (by (first | lia | omega)) (by (first | lia | omega)) (fun i hi => hr i (by (first | lia | omega))) ?_)
      dsimp only
      rw [Nat.sub_zero, if_neg hm]
      refine wpS_bind (wpS_get ?_)
      show wpS _ _ _ _ (do
          modify fun s => setPending s ((pendingOf s).push (0, a.size, 0))
          pure (ForInStep.yield (none, 0 + a.size))) _ _
      exact wpS_bind (wpS_modify (wpS_pure (.inr ⟨Nat.le_refl _, by rw [Nat.zero_add], rfl⟩)))
    · dsimp only
      rw [if_pos (Nat.le_refl _)]
      exact wpS_pure ⟨rfl, rfl⟩
  · rintro c st' (⟨hx, _, _⟩ | ⟨_, hc, hs⟩)
    · (first | lia | omega)
    · exact ⟨hc, hs⟩
  · rintro c st' ⟨rfl, rfl⟩
    dsimp only
    refine wpS_bind (wpS_mono (wpS_forRange (I := fun x c st'' => c = (none, ()) ∧ st'' = SortSt.mk' oneType' a #[(0, a.size, 0)] 7 none)
      (Q := fun c st'' => c = (none, ()) ∧ st'' = SortSt.mk' oneType' a #[(0, a.size, 0)] 7 none) ?_ (fun _ _ h => h) ⟨rfl, rfl⟩) ?_)
    · rintro x c st'' _ _ ⟨rfl, rfl⟩
      refine wpS_bind (wpS_get ?_)
      rw [if_pos (by show (1 : Nat) ≤ 1; exact Nat.le_refl _)]
      exact wpS_pure ⟨rfl, rfl⟩
    · rintro c st'' ⟨rfl, rfl⟩
      exact wpS_pure (h _ rfl rfl)

theorem runs_all {vs : List Value} {ns : List Int} {Q : Unit → SortSt → Prop} (hI : IntsAre vs ns) (h2 : 2 ≤ vs.length) (hok : SortOk ns)
    (h : ∀ st', (arrOf st').Perm (pairsOf vs) → failedOf st' = none → SortedTo (arrOf st') (pairsOf vs).size → Q () st') :
    wpS (model prog w) A E s sortRuns' Q (SortSt.mk' oneType' (pairsOf vs) #[] 7 none) := by
  have ln : vs.length = ns.length := by rw [← hI.nums, List.length_map]
  by_cases h64 : vs.length < 64
  · exact wpS_sortRuns (a₀ := pairsOf vs) hI.intKeys ⟨Array.Perm.refl _, rfl, rfl, rfl⟩ (by rw [pairsOf_size]; exact h2) (by rw [pairsOf_size]; exact h64) h
  rcases hok with hok | ⟨hle, hnd⟩ | hrise
  · (first | lia | omega)
  · refine runs_two hI.intKeys (by rw [pairs_nk hI]; exact hnd) (by rw [pairsOf_size]; (first | lia | omega)) (by rw [pairsOf_size]; (first | lia | omega)) fun st' a1 a2 a3 => h st' a2 a1 (sortedTo_of a2.size_eq.symm a3)
  · have hk := pairs_nk hI
    have hpair : (pairsOf vs).toList.Pairwise (fun p q => nk p < nk q) := by
      rw [← hk] at hrise
      exact List.pairwise_map.mp hrise
    have hsz := pairsOf_size vs
    refine runs_rise hI.intKeys (by (first | lia | omega)) (fun i hi => ?_) fun st' a1 a2 => h st' (by rw [a2]) a1 (sortedTo_of (by rw [a2]) (by rw [a2]; exact hpair.imp fun h => Int.le_of_lt h))
    have := List.pairwise_iff_getElem.mp hpair i (i + 1) (by rw [Array.length_toList]; (first | lia | omega)) (by rw [Array.length_toList]; (first | lia | omega)) (by (first | lia | omega))
    rw [K_nk (getElem?_pos _ i (by (first | lia | omega))), K_nk (getElem?_pos _ (i + 1) hi)]
    simpa using this

theorem two_of {vs : List Value} (h : ¬ vs.toArray.size < 2) : ∃ v₁ v₂ rest, vs = v₁ :: v₂ :: rest := by
  cases vs with
  | nil => exact absurd (by decide) h
  | cons v vs =>
    cases vs with
    | nil => exact absurd (by decide : (1 : Nat) < 2) h
    | cons u vs => exact ⟨v, u, vs, rfl⟩
theorem list_sort_ints {a : Addr} {vs : List Value} {ns : List Int} {n : Nat} {P : PySem.Fin → Shared → Prop} (ho : s.heap.get? a = some (seqObj "list" vs.toArray n))
    (hI : IntsAre vs ns) (hok : SortOk ns) (hlen : vs.length ≤ sizeLine)
    (h : ∀ (out : Array Value) (ns' : List Int), IntsAre out.toList ns' → ns'.Perm ns → ns'.Pairwise (· ≤ ·) → P (.done (.ret .none)) { s with heap := sortedHeap s.heap a vs out }) :
    wpAny (model prog w) A (Builtin.«list.sort» ⟨[.ref a], []⟩) P E s := by
  rw [list_sort_plain]
  have ha : a < s.heap.objs.size := Heap.lt_size ho
  refine wpAny_bind (listItems_at ho rfl ?_)
  refine wpAny_bind (listUpdate_at ho rfl ?_ (by rw [List.size_toArray]; exact hlen) (Nat.zero_le _))
  obtain ⟨e1, ho1⟩ : ∃ e1, (s.heap.update a (Obj.mapSeq fun _ => #[])).get? a = some (seqObj "list" #[] e1) := ⟨_, get?_update_seq ho (fun _ => #[])⟩
  refine wpAny_bind (seqEpoch_at ho1 rfl ?_)
  refine wpAny_bind (wpAny_newTuple ?_ (by show vs.length ≤ _; (first | lia | omega)))
  refine wpAny_bind (wpAny_newList ?_ (Nat.zero_le _))
  refine wpAny_holding ?_
  have ho6 : (((s.heap.update a (Obj.mapSeq fun _ => #[])).push (seqObj "tuple" vs.toArray 0)).push (seqObj "list" #[] 0)).get? a = some (seqObj "list" #[] e1) := by
    rw [Heap.get?_push_ne _ _ _ (by rw [size_push', Heap.size_update]; exact Nat.ne_of_lt (Nat.lt_succ_of_lt ha)), Heap.get?_push_ne _ _ _ (by rw [Heap.size_update]; exact Nat.ne_of_lt ha)]
    exact ho1
  show wpAny (model prog w) A _ P E { s with heap := ((s.heap.update a (Obj.mapSeq fun _ => #[])).push (seqObj "tuple" vs.toArray 0)).push (seqObj "list" #[] 0) }
  dsimp only
  have hsz : vs.toArray.size = vs.length := by simp
  have fin : ∀ st' : SortSt, (arrOf st').Perm (pairsOf vs) → SortedTo (arrOf st') (pairsOf vs).size →
      P (.done (.ret .none)) { s with heap := sortedHeap s.heap a vs ((arrOf st').map (·.2)) } := by
    intro st' hp hs
    obtain ⟨ns', h1, h2, h3⟩ := sorted_out hI hp hs
    exact h _ ns' h1 h2 h3
  by_cases h2 : vs.toArray.size < 2
  · rw [if_pos h2, if_pos h2]
    refine wpAny_bind (wpAny_pure ?_)
    rw [StateT.run_pure]
    refine wpAny_bind (wpAny_pure ?_)
    dsimp only
    refine wpAny_bind (seqEpoch_at ho6 rfl ?_)
    refine wpAny_bind (listUpdate_at ho6 rfl ?_ (Nat.zero_le _) (by rw [Array.size_map]; show (pairsOf vs).size ≤ _; rw [pairsOf_size]; (first | lia | omega)))
    simp only [bne_self_eq_false, Bool.false_eq_true, if_false]
    refine wpAny_pure (fin (SortSt.mk' general' (vs.toArray.zip vs.toArray) #[] 7 none) (Array.Perm.refl _) ?_)
    intro i j hij hj
    have : i = j := by rw [pairsOf_size] at hj; (first | lia | omega)
    subst this; exact Int.le_refl _
  · rw [if_neg h2, if_neg h2]
    obtain ⟨v₁, v₂, rest, rfl⟩ : ∃ v₁ v₂ rest, vs = v₁ :: v₂ :: rest := two_of h2
    rw [keyKind_ints hI]
    refine wpAny_bind (wpAny_pure ?_)
    refine wpAny_bind (wpAny_mono (runs_all (vs := v₁ :: v₂ :: rest)
      (Q := fun _ st' => (arrOf st').Perm (pairsOf (v₁ :: v₂ :: rest)) ∧ failedOf st' = none ∧ SortedTo (arrOf st') (pairsOf (v₁ :: v₂ :: rest)).size)
      hI (by simp) hok fun st' a1 a2 a3 => ⟨a1, a2, a3⟩) ?_ fun _ _ e => e)
    rintro ⟨⟨⟩, st'⟩ s' ⟨rfl, hp, hf, hs⟩
    dsimp only
    refine wpAny_bind (seqEpoch_at ho6 rfl ?_)
    refine wpAny_bind (listUpdate_at ho6 rfl ?_ (Nat.zero_le _) (by refine Nat.le_trans (Nat.le_of_eq ((Array.size_map ..).trans (hp.size_eq.trans (pairsOf_size _)))) ?_; (first | lia | omega)))
    rw [hf]
    simp only [bne_self_eq_false, Bool.false_eq_true, if_false]
    exact wpAny_pure (fin st' hp hs)

/-- sorted, of what collects to ints -/
theorem sorted_col {v : Value} {ns : List Int} {Q : Value → Shared → Prop} (hok : SortOk ns) (hlen : ns.length ≤ sizeLine)
    (hc : ∀ {Q' : List Value → Shared → Prop}, (∀ vs h1 tk1, IntsAre vs ns → (∀ b o, s.heap.get? b = some o → h1.get? b = some o) → Q' vs { s with heap := h1, toks := tk1 }) → wpAny (model prog w) A.in1 (collect v) Q' E s)
    (h : ∀ (out : Array Value) (ns' : List Int) l h' tk, IntsAre out.toList ns' → ns'.Perm ns → ns'.Pairwise (· ≤ ·) → (∀ b o, s.heap.get? b = some o → h'.get? b = some o) → s.heap.get? l = none → (∃ m, h'.get? l = some (seqObj "list" out m)) → Q (.ref l) { s with heap := h', toks := tk }) :
    wpAny (model prog w) A (call (.builtin "sorted") [v]) Q E s := by
  refine Calls.call_function_entry kind_sorted plain_sorted entry_sorted (args_sorted1 _) ?_
  unfold Builtin.«sorted»
  refine wpAny_bind (m := checkCount "sorted" 1 1 _) (wpAny_pure ?_)
  refine wpAny_bind (hc fun vs h1 tk1 hI keep => ?_)
  have hlv : vs.length ≤ sizeLine := by rw [show vs.length = ns.length by rw [← hI.nums, List.length_map]]; exact hlen
  refine wpAny_bind (wpAny_newList ?_ (by (first | lia | omega)))
  have hoL : (h1.push (seqObj "list" vs.toArray 0)).get? h1.objs.size = some (seqObj "list" vs.toArray 0) := Heap.get?_push_size _ rfl
  show wpAny _ _ _ _ _ { s with toks := tk1, heap := h1.push (seqObj "list" vs.toArray 0) }
  refine wpAny_bind (wpAny_holding (wpAny_call_entry slot_list_sort ⟨_, hoL, rfl⟩ entry_list_sort (list_sort_ints hoL hI hok hlv fun out ns' a1 a2 a3 => ⟨_, rfl, ?_⟩) (args_list_sort _)))
  have hat : (∃ m, (sortedHeap (h1.push (seqObj "list" vs.toArray 0)) h1.objs.size vs out).get? h1.objs.size = some (seqObj "list" out m)) ∧ ∀ b o, b ≠ h1.objs.size → (h1.push (seqObj "list" vs.toArray 0)).get? b = some o → (sortedHeap (h1.push (seqObj "list" vs.toArray 0)) h1.objs.size vs out).get? b = some o := by
    constructor
    · have h1 := get?_update_seq hoL (fun _ => (#[] : Array Value))
      have h2 := Heap.get?_push_of_some (seqObj "tuple" vs.toArray 0) h1
      have h3 := Heap.get?_push_of_some (seqObj "list" #[] 0) h2
      exact ⟨_, get?_update_seq h3 (fun _ => out)⟩
    · intro b o hb e
      unfold sortedHeap
      rw [Heap.get?_update_ne _ _ _ _ hb]
      exact Heap.get?_push_of_some _ (Heap.get?_push_of_some _ (by rw [Heap.get?_update_ne _ _ _ _ hb]; exact e))
  refine wpAny_pure ⟨_, rfl, h out ns' _ _ _ a1 a2 a3 (fun b o e => ?_) ?_ hat.1⟩
  · have e1 := keep b o e
    exact hat.2 b o (Nat.ne_of_lt (Heap.lt_size e1)) (Heap.get?_push_of_some _ e1)
  · cases q : s.heap.get? h1.objs.size with
    | none => rfl
    | some o => exact absurd (Heap.lt_size (keep _ _ q)) (Nat.lt_irrefl _)
end
end Mine

namespace Mine
open PySem PySem.Calls PyProof.Rows PySem.SeqAt

theorem keeps_refl (s : Shared) : Keeps s s := ⟨s.heap, s.toks, rfl, fun _ _ e => e⟩
theorem keeps_toks (s : Shared) (t : Nat) : Keeps s { s with toks := t } := ⟨s.heap, t, rfl, fun _ _ e => e⟩
theorem keeps_trans {s s' s'' : Shared} (x : Keeps s s') (y : Keeps s' s'') : Keeps s s'' := by
  obtain ⟨h, t, rfl, k⟩ := x
  obtain ⟨h', t', rfl, k'⟩ := y
  exact ⟨h', t', rfl, fun b o e => k' b o (k b o e)⟩
theorem keeps_push (s : Shared) (o : Obj) (t : Nat) : Keeps s { s with heap := s.heap.push o, toks := t } := ⟨_, t, rfl, fun _ _ e => Heap.get?_push_of_some _ e⟩
theorem keeps_heap {s s' : Shared} (x : Keeps s s') : ∀ b o, s.heap.get? b = some o → s'.heap.get? b = some o := by
  obtain ⟨h, t, rfl, k⟩ := x; exact k

end Mine

namespace Mine
open PySem PySem.Calls PyProof.Rows PySem.SeqAt

abbrev Post (s : Shared) (d : D) : Value → Shared → Prop := fun v s' => Keeps s s' ∧ V s'.heap v d
abbrev PostB (s : Shared) (b : Bool) : Value → Shared → Prop := fun v s' => v = .bool b ∧ Keeps s s'

noncomputable def opA : Op → Operator
  | .add => .Add
  | .sub => .Sub
  | .mul => .Mult
  | .div => .FloorDiv
  | .mod => .Mod
  | .pow => .Pow
noncomputable def cmA : Cm → CmpOp
  | .eq => .Eq
  | .ne => .NotEq
  | .lt => .Lt
  | .le => .LtE
  | .gt => .Gt
  | .ge => .GtE

theorem lim_line : lim ≤ sizeLine := by decide +kernel
theorem lim_63 : (lim : Int) < 2 ^ 63 := by decide +kernel

section
variable {prog : Program} {w : World} {A : Around} {E : Value → Shared → Prop} {s : Shared}

theorem post_int {i : Int} {t : Tok} {k : Nat} : Post s (.int i) (.int i t) { s with toks := k } := ⟨keeps_toks s k, .int i t⟩

theorem add_lists_raw {l b : Addr} {vs ws : List Value} {Q : Value → Shared → Prop} (hl : s.heap.IsList l vs.toArray) (hb : s.heap.IsList b ws.toArray)
    (h : Q (.ref s.heap.objs.size) { s with heap := s.heap.push { cls := .type "list", data := .seq (vs ++ ws).toArray } }) (hsz : vs.length + ws.length ≤ sizeLine) :
    wpAny (model prog w) A (binaryOp .Add (.ref l) (.ref b)) Q E s := by
  obtain ⟨⟨cls, dd, data, sl⟩, ho, hc, n, hd⟩ := id hl
  obtain ⟨⟨cls2, dd2, data2, sl2⟩, ho2, hc2, n2, hd2⟩ := id hb
  simp only at hc hd hc2 hd2
  subst hc hd hc2 hd2
  have e : vs.toArray ++ ws.toArray = (vs ++ ws).toArray := by simp
  refine concat_meets ⟨_, ho, rfl⟩ ⟨_, ho2, rfl⟩ noFill_list_add seq_list_add PySem.F.slot_list_add PySem.F.entry_list_add (PySem.F.args_list_add_2 _ _) (list_addW l b vs.toArray ws.toArray n n2 dd dd2 sl sl2 (by simpa using hsz)) ⟨ho, ho2, ?_⟩
  rw [e]
  exact h

theorem add_tuples_raw {t b : Addr} {vs ws : List Value} {Q : Value → Shared → Prop} (ht : s.heap.IsTuple t vs.toArray) (hb : s.heap.IsTuple b ws.toArray)
    (h0 : vs = [] → Q (.ref b) s) (h1 : ws = [] → Q (.ref t) s)
    (h2 : Q (.ref s.heap.objs.size) { s with heap := s.heap.push { cls := .type "tuple", data := .seq (vs ++ ws).toArray } })
    (hsz : vs.length + ws.length ≤ sizeLine) :
    wpAny (model prog w) A (binaryOp .Add (.ref t) (.ref b)) Q E s := by
  obtain ⟨⟨cls, dd, data, sl⟩, ho, hc, n, hd⟩ := id ht
  obtain ⟨⟨cls2, dd2, data2, sl2⟩, ho2, hc2, n2, hd2⟩ := id hb
  simp only at hc hd hc2 hd2
  subst hc hd hc2 hd2
  have e : vs.toArray ++ ws.toArray = (vs ++ ws).toArray := by simp
  by_cases hv : vs = []
  · exact concat_meets ⟨_, ho, rfl⟩ ⟨_, ho2, rfl⟩ noFill_tuple_add seq_tuple_add PySem.F.slot_tuple_add PySem.F.entry_tuple_add (PySem.F.args_tuple_add_2 _ _)
      (tuple_addW0 t b vs.toArray ws.toArray n n2 dd dd2 sl sl2 (by simp [hv])) ⟨ho, ho2, h0 hv⟩
  · by_cases hw : ws = []
    · exact concat_meets ⟨_, ho, rfl⟩ ⟨_, ho2, rfl⟩ noFill_tuple_add seq_tuple_add PySem.F.slot_tuple_add PySem.F.entry_tuple_add (PySem.F.args_tuple_add_2 _ _)
        (tuple_addW1 t b vs.toArray ws.toArray n n2 dd dd2 sl sl2 (by simpa using hv) (by simp [hw])) ⟨ho, ho2, h1 hw⟩
    · refine concat_meets ⟨_, ho, rfl⟩ ⟨_, ho2, rfl⟩ noFill_tuple_add seq_tuple_add PySem.F.slot_tuple_add PySem.F.entry_tuple_add (PySem.F.args_tuple_add_2 _ _)
        (tuple_addW2 t b vs.toArray ws.toArray n n2 dd dd2 sl sl2 (by simpa using hv) (by simpa using hw) (by rw [List.size_toArray, List.size_toArray]; exact hsz)) ⟨ho, ho2, ?_⟩
      rw [e]
      exact h2

theorem new_tuple {vs : List Value} {ds : List D} (x : Vs s.heap vs ds) (hl : ds.length ≤ lim) : Post s (.tup ds) (.ref s.heap.objs.size) { s with heap := s.heap.push { cls := .type "tuple", data := .seq vs.toArray } } :=
  ⟨keeps_push s _ s.toks, .tup ⟨_, Heap.get?_push_size _ rfl, rfl, _, rfl⟩ (x.mono fun _ _ e => Heap.get?_push_of_some _ e) hl⟩
theorem new_list {vs : List Value} {ds : List D} (x : Vs s.heap vs ds) (hl : ds.length ≤ lim) : Post s (.lst ds) (.ref s.heap.objs.size) { s with heap := s.heap.push { cls := .type "list", data := .seq vs.toArray } } :=
  ⟨keeps_push s _ s.toks, .lst ⟨_, Heap.get?_push_size _ rfl⟩ (x.mono fun _ _ e => Heap.get?_push_of_some _ e) hl⟩

theorem V.int_inv {h : Heap} {v : Value} {i : Int} (x : V h v (.int i)) : ∃ t, v = .int i t := by cases x; exact ⟨_, rfl⟩
theorem bin_ok {o : Op} {a b : Value} {x y d : D} (h1 : V s.heap a x) (h2 : V s.heap b y) (e : evBin o x y = some d) : wpAny (model prog w) A (binaryOp (opA o) a b) (Post s d) E s := by
  cases o with
  | add =>
    unfold evBin addD at e
    cases h1 with
    | int i t =>
      obtain ⟨j, hj, rfl⟩ := om e
      have := intOf_some hj; subst this
      obtain ⟨u, rfl⟩ := h2.int_inv
      exact wpAny_add_int post_int
    | tup hp hv hl =>
      replace e := ob e
      obtain ⟨es, he, e⟩ := e
      have := tupOf_some he; subst this
      obtain ⟨e1, rfl⟩ := oi e
      cases h2 with
      | tup hq hu hl' =>
        have l1 := hv.length; have l2 := hu.length
        refine add_tuples_raw hp hq (fun e => ?_) (fun e => ?_) (new_tuple (hv.append hu) (by simpa using e1)) (by have := lim_line; (first | lia | omega))
        · subst e; cases hv; exact ⟨keeps_refl s, by simpa using V.tup hq hu hl'⟩
        · subst e; cases hu; exact ⟨keeps_refl s, by simpa using V.tup hp hv hl⟩
    | lst hp hv hl =>
      replace e := ob e
      obtain ⟨es, he, e⟩ := e
      have := lstOf_some he; subst this
      obtain ⟨e1, rfl⟩ := oi e
      cases h2 with
      | lst hq hu hl' =>
        have l1 := hv.length; have l2 := hu.length
        exact add_lists_raw hp.isList hq.isList (new_list (hv.append hu) (by simpa using e1)) (by have := lim_line; (first | lia | omega))
    | none => cases e
    | bool => cases e
    | str => cases e
  | sub =>
    obtain ⟨i, j, rfl, rfl, e⟩ := i2_some e
    obtain ⟨t, rfl⟩ := h1.int_inv; obtain ⟨u, rfl⟩ := h2.int_inv
    cases e; exact sub_int post_int
  | mul =>
    obtain ⟨i, j, rfl, rfl, e⟩ := i2_some e
    obtain ⟨t, rfl⟩ := h1.int_inv; obtain ⟨u, rfl⟩ := h2.int_inv
    obtain ⟨e1, rfl⟩ := oi e
    exact mul_int post_int (e1.elim (fun h => IntMulOk.of_left (intBits_le_64 (by (first | lia | omega)) (by (first | lia | omega)))) fun h => IntMulOk.of_right (intBits_le_64 (by (first | lia | omega)) (by (first | lia | omega))))
  | div =>
    obtain ⟨i, j, rfl, rfl, e⟩ := i2_some e
    obtain ⟨t, rfl⟩ := h1.int_inv; obtain ⟨u, rfl⟩ := h2.int_inv
    obtain ⟨⟨e1, e2⟩, rfl⟩ := oi e
    refine floordiv_int (by (first | lia | omega)) ?_ (.inl (PyProof.noPylong_small (by (first | lia | omega))))
    rw [Int.fdiv_eq_ediv_of_nonneg _ (by (first | lia | omega))]
    exact post_int
  | mod =>
    obtain ⟨i, j, rfl, rfl, e⟩ := i2_some e
    obtain ⟨t, rfl⟩ := h1.int_inv; obtain ⟨u, rfl⟩ := h2.int_inv
    obtain ⟨e1, rfl⟩ := oi e
    refine mod_int (by (first | lia | omega)) ?_
    rw [Int.fmod_eq_emod_of_nonneg _ (by (first | lia | omega))]
    exact post_int
  | pow =>
    obtain ⟨i, j, rfl, rfl, e⟩ := i2_some e
    obtain ⟨t, rfl⟩ := h1.int_inv; obtain ⟨u, rfl⟩ := h2.int_inv
    replace e := oi e
    obtain ⟨⟨rfl, rfl⟩, rfl⟩ := e
    exact pow_int (by decide) (by decide +kernel) post_int

theorem eqS_some {x y : D} {b : Bool} (h : eqS x y = some b) : (∃ i j, x = .int i ∧ y = .int j ∧ b = (i == j)) ∨ ∃ i j, x = .str i ∧ y = .str j ∧ b = (i == j) := by
  cases x <;> first | exact nns h | skip
  · obtain ⟨j, hj, rfl⟩ := om h
    exact .inl ⟨_, j, rfl, intOf_some hj, rfl⟩
  · obtain ⟨j, hj, rfl⟩ := om h
    exact .inr ⟨_, j, rfl, strOf_some hj, rfl⟩
theorem cmp_ok {o : Cm} {a b : Value} {x y : D} {r : Bool} (h1 : V s.heap a x) (h2 : V s.heap b y) (e : evCmp o x y = some r) (hu : A.units + 8 < cLine) : wpAny (model prog w) A (compareOp (cmA o) a b) (PostB s r) E s := by
  cases o with
  | eq =>
    rcases eqS_some e with ⟨i, j, rfl, rfl, rfl⟩ | ⟨i, j, rfl, rfl, rfl⟩
    · obtain ⟨t, rfl⟩ := h1.int_inv; obtain ⟨u, rfl⟩ := h2.int_inv
      exact RcAt.int_int i t j u prog w E _ ⟨rfl, keeps_refl s⟩
    · cases h1; cases h2
      exact RcAt.str_str i _ j _ prog w E _ ⟨rfl, keeps_refl s⟩
  | ne =>
    obtain ⟨b', e', rfl⟩ := om e
    rcases eqS_some e' with ⟨i, j, rfl, rfl, rfl⟩ | ⟨i, j, rfl, rfl, rfl⟩
    · obtain ⟨t, rfl⟩ := h1.int_inv; obtain ⟨u, rfl⟩ := h2.int_inv
      exact RcNeAt.int_int i t j u prog w E _ ⟨rfl, keeps_refl s⟩
    · cases h1; cases h2
      exact RcNeAt.str_str i _ j _ prog w E _ ⟨rfl, keeps_refl s⟩
  | lt =>
    obtain ⟨i, j, rfl, rfl, e⟩ := i2_some e
    obtain ⟨t, rfl⟩ := h1.int_inv; obtain ⟨u, rfl⟩ := h2.int_inv
    cases e; exact lt_int ⟨rfl, keeps_refl s⟩
  | le =>
    obtain ⟨i, j, rfl, rfl, e⟩ := i2_some e
    obtain ⟨t, rfl⟩ := h1.int_inv; obtain ⟨u, rfl⟩ := h2.int_inv
    cases e; exact le_int ⟨rfl, keeps_refl s⟩
  | gt =>
    obtain ⟨i, j, rfl, rfl, e⟩ := i2_some e
    obtain ⟨t, rfl⟩ := h1.int_inv; obtain ⟨u, rfl⟩ := h2.int_inv
    cases e; exact gt_int ⟨rfl, keeps_refl s⟩
  | ge =>
    obtain ⟨i, j, rfl, rfl, e⟩ := i2_some e
    obtain ⟨t, rfl⟩ := h1.int_inv; obtain ⟨u, rfl⟩ := h2.int_inv
    cases e; exact ge_int ⟨rfl, keeps_refl s⟩

theorem idx_ok {a i : Value} {x y d : D} (h1 : V s.heap a x) (h2 : V s.heap i y) (e : evIdx x y = some d) : wpAny (model prog w) A (getItem a i) (Post s d) E s := by
  replace e := ob e
  obtain ⟨ds, hds, e⟩ := e
  replace e := ob e
  obtain ⟨i, hi, e⟩ := e
  have := intOf_some hi; subst this
  obtain ⟨t, rfl⟩ := h2.int_inv
  replace e := oi' e
  obtain ⟨e0, e1⟩ := e
  have l63 := lim_63
  have hlt : i.toNat < ds.length := (List.getElem?_eq_some_iff.mp e1).1
  cases h1 <;> cases hds
  · rename_i p vs hp hv hl
    obtain ⟨v, hg, hV⟩ := hv.get e1
    have l1 := hv.length
    refine getItem_tuple (j := i.toNat) hp (by (first | lia | omega)) (by (first | lia | omega)) ?_ (by simpa using hg) ⟨keeps_refl s, hV⟩
    have hlt' : i < (vs.length : Int) := by (first | lia | omega)
    simp [seqIndex?, Int.not_lt.mpr e0, e0, hlt']
  · rename_i p vs hp hv hl
    obtain ⟨v, hg, hV⟩ := hv.get e1
    exact wpAny_getItem_list hp.isList e0 (by (first | lia | omega)) (by simpa using hg) ⟨keeps_refl s, hV⟩

theorem len_ok {a : Value} {x : D} {ds : List D} (h1 : V s.heap a x) (e : items x = some ds) : wpAny (model prog w) A (call (.builtin "len") [a]) (Post s (.int ds.length)) E s := by
  have l63 := lim_63
  cases h1 <;> simp only [items, reduceCtorEq, Option.some.injEq] at e
  · rename_i p vs ds hp hv hl
    subst e
    have l1 := hv.length
    refine len_tuple hp (by simp only [List.size_toArray]; (first | lia | omega)) ?_
    simp only [List.size_toArray, l1]; exact post_int
  · rename_i p vs ds hp hv hl
    subst e
    have l1 := hv.length
    refine call_len_list hp.isList (by simp only [List.size_toArray]; (first | lia | omega)) ?_
    simp only [List.size_toArray, l1]; exact post_int

noncomputable def tyA : Ty → String
  | .tuple => "tuple"
  | .int => "int"
  | .bool => "bool"

theorem isi_ok {a : Value} {x : D} {t : Ty} (h1 : V s.heap a x) : wpAny (model prog w) A (call (.builtin "isinstance") [a, .type (tyA t)]) (Post s (.bool (evIsi t x))) E s := by
  have p (b : Bool) (k : Nat) : Post s (.bool b) (.bool b) { s with toks := k } := ⟨keeps_toks s k, .bool b⟩
  have p0 (b : Bool) : Post s (.bool b) (.bool b) s := ⟨keeps_refl s, .bool b⟩
  cases t <;> cases h1 <;> simp only [tyA]
  case tuple.none => exact IsiPair.NoneType_tuple (p _ _)
  case tuple.bool => exact IsiPair.bool_tuple (p _ _)
  case tuple.int => exact IsiPair.int_tuple (p _ _)
  case tuple.str => exact IsiPair.str_tuple (p _ _)
  case tuple.tup hp _ _ => obtain ⟨o, ho, hc, _⟩ := hp; exact IsiPair.tuple_tuple ho hc (p0 _)
  case tuple.lst hp _ _ => obtain ⟨o, ho, hc, _⟩ := hp.isList; exact IsiPair.list_tuple ho hc (p _ _)
  case int.none => exact IsiPair.NoneType_int (p _ _)
  case int.bool => exact IsiPair.bool_int (p0 _)
  case int.int => exact IsiPair.int_int (p0 _)
  case int.str => exact IsiPair.str_int (p _ _)
  case int.tup hp _ _ => obtain ⟨o, ho, hc, _⟩ := hp; exact IsiPair.tuple_int ho hc (p _ _)
  case int.lst hp _ _ => obtain ⟨o, ho, hc, _⟩ := hp.isList; exact IsiPair.list_int ho hc (p _ _)
  case bool.none => exact IsiPair.NoneType_bool (p _ _)
  case bool.bool => exact IsiPair.bool_bool (p0 _)
  case bool.int => exact IsiPair.int_bool (p _ _)
  case bool.str => exact IsiPair.str_bool (p _ _)
  case bool.tup hp _ _ => obtain ⟨o, ho, hc, _⟩ := hp; exact IsiPair.tuple_bool ho hc (p _ _)
  case bool.lst hp _ _ => obtain ⟨o, ho, hc, _⟩ := hp.isList; exact IsiPair.list_bool ho hc (p _ _)

theorem max_ok {i j : Int} {t u : Tok} (hh : A.handled = none) : wpAny (model prog w) A (call (.builtin "max") [.int i t, .int j u]) (Post s (.int (if j > i then j else i))) E s :=
  max_two_ints hh fun h' tk hk => by
    refine ⟨⟨h', tk, rfl, hk⟩, ?_⟩
    split <;> exact .int _ _

theorem toTup_ok {a : Value} {x : D} {ds : List D} (h1 : V s.heap a x) (e : items x = some ds) : wpAny (model prog w) A (call (.type "tuple") [a]) (Post s (.tup ds)) E s := by
  cases h1 <;> simp only [items, reduceCtorEq, Option.some.injEq] at e
  · rename_i p vs ds hp hv hl
    subst e
    exact call_tuple_same hp ⟨keeps_refl s, .tup hp hv hl⟩
  · rename_i p vs ds hp hv hl
    subst e
    have l1 := hv.length
    refine call_tuple_list hp.isList (fun h' hk => ?_) (by simp only [List.size_toArray]; have := lim_line; (first | lia | omega))
    refine ⟨⟨_, _, rfl, fun b o e => Heap.get?_push_of_some _ (hk b o e)⟩, .tup ⟨_, Heap.get?_push_size _ rfl, rfl, _, rfl⟩ (hv.mono fun b o e => Heap.get?_push_of_some _ (hk b o e)) hl⟩
end

end Mine

namespace Mine
open PySem PySem.Calls PyProof.Rows

/-! dicts whose keys are pairs of a str and an int -/
abbrev KI := Str ⊕ Int
noncomputable def mixIs : KI → Value → Bool
  | .inl x, v => Value.isStrOf x v
  | .inr i, v => Value.isInt i v
theorem mix_cases {k : KI} {v : Value} (h : mixIs k v = true) : (∃ x t, k = .inl x ∧ v = .str x t) ∨ ∃ i t, k = .inr i ∧ v = .int i t := by
  cases k with
  | inl x => obtain ⟨t, rfl⟩ := Value.isStrOf_shape h; exact .inl ⟨x, t, rfl, rfl⟩
  | inr i => obtain ⟨t, rfl⟩ := Value.isInt_shape h; exact .inr ⟨i, t, rfl, rfl⟩

section
variable {prog : Program} {w : World} {A : Around} {E : Value → Shared → Prop} {s : Shared}
theorem eqBool_si {x : Str} {i : Int} {t u : Tok} {Q : Bool → Shared → Prop} (h : Q false s) : wpAny (model prog w) A (eqBool (.str x t) (.int i u)) Q E s := by
  unfold eqBool
  refine wpAny_holding ?_
  show wpAny (model prog w) _ (if (Value.str x t == Value.int i u) = true then _ else _) Q E s
  rw [if_neg (by intro q; have := eq_of_beq q; cases this)]
  have hq : wpAny (model prog w) A (richCompare .Eq (.str x t) (.int i u)) (fun r s' => r = .bool false ∧ s' = s) E s := EqMixed.eq_str_int (prog := prog) (w := w) (E := E) ⟨rfl, rfl⟩
  refine wpAny_bind (wpAny_mono hq (fun r s' q => ?_) fun _ _ e => e)
  obtain ⟨rfl, rfl⟩ := q
  exact wpAny_truthy_bool h
theorem eqBool_is {x : Str} {i : Int} {t u : Tok} {Q : Bool → Shared → Prop} (h : Q false s) : wpAny (model prog w) A (eqBool (.int i u) (.str x t)) Q E s := by
  unfold eqBool
  refine wpAny_holding ?_
  show wpAny (model prog w) _ (if (Value.int i u == Value.str x t) = true then _ else _) Q E s
  rw [if_neg (by intro q; have := eq_of_beq q; cases this)]
  have hq : wpAny (model prog w) A (richCompare .Eq (.int i u) (.str x t)) (fun r s' => r = .bool false ∧ s' = s) E s := EqMixed.eq_int_str (prog := prog) (w := w) (E := E) ⟨rfl, rfl⟩
  refine wpAny_bind (wpAny_mono hq (fun r s' q => ?_) fun _ _ e => e)
  obtain ⟨rfl, rfl⟩ := q
  exact wpAny_truthy_bool h
end

section
variable {prog : Program} {w : World} {A : Around} {E : Value → Shared → Prop} {s : Shared}
theorem mix_eqBool {a b : KI} {u v : Value} {Q : Bool → Shared → Prop} (hu : mixIs a u = true) (hv : mixIs b v = true) (h : Q (decide (a = b)) s) : wpAny (model prog w) A (eqBool u v) Q E s := by
  rcases mix_cases hu with ⟨x, t, rfl, rfl⟩ | ⟨i, t, rfl, rfl⟩ <;> rcases mix_cases hv with ⟨x', t', rfl, rfl⟩ | ⟨i', t', rfl, rfl⟩
  · exact (PySem.strKind prog w).eqBool (a := x) (b := x') hu hv (by simpa using h)
  · exact eqBool_si (by simpa using h)
  · exact eqBool_is (by simpa using h)
  · exact (PySem.intKind prog w).eqBool (a := i) (b := i') hu hv (by simpa using h)
theorem mix_inj (v : Value) (a b : KI) (ha : mixIs a v = true) (hb : mixIs b v = true) : a = b := by
  rcases mix_cases ha with ⟨x, t, rfl, rfl⟩ | ⟨i, t, rfl, rfl⟩ <;> rcases mix_cases hb with ⟨x', t', rfl, e⟩ | ⟨i', t', rfl, e⟩ <;> cases e <;> rfl
end
noncomputable def mixHash (prog : Program) (w : World) : KI → Int
  | .inl x => (PySem.strKind prog w).hash x
  | .inr i => (PySem.intKind prog w).hash i
theorem mix_hash {prog : Program} {w : World} {A : Around} {E : Value → Shared → Prop} {s : Shared} {k : KI} {v : Value} {Q : Int → Shared → Prop} (hv : mixIs k v = true) (h : Q (mixHash prog w k) { s with toks := s.toks + 1 }) : wpAny (model prog w) A (pyHash v) Q E s := by
  cases k with
  | inl x => exact (PySem.strKind prog w).pyHash (k := x) hv h
  | inr i => exact (PySem.intKind prog w).pyHash (k := i) hv h
theorem mix_strs (prog : Program) (w : World) (k : KI) (x : Str) (t : Tok) (v : Value) (h : mixIs k (.str x t) = true) : mixIs k v = v.isStr x := by
  cases k with
  | inl y => exact (PySem.strKind prog w).«strs» y x t v h
  | inr i => cases h
noncomputable def mixKind (prog : Program) (w : World) : PySem.KeyKind prog w KI where
  is := mixIs
  hash := mixHash prog w
  inj := mix_inj
  byValue := fun k v h => by rcases mix_cases h with ⟨x, t, rfl, rfl⟩ | ⟨i, t, rfl, rfl⟩ <;> rfl
  pyHash := fun hv h => mix_hash hv h
  eqBool := fun hu hv h => mix_eqBool hu hv h
  «strs» := mix_strs prog w

noncomputable abbrev pairKind (prog : Program) (w : World) : HeapKind prog w (List KI) := tupleKind (mixKind prog w)
noncomputable def pk (k : Ky) : List KI := [.inl (k.1.getD (Str.ofString "")), .inr k.2]

/-- the entries bear the keys and the values -/
inductive DRel : List (List KI × Addr × Value) → List (Ky × D) → Prop
  | nil : DRel [] []
  | cons {k : Ky} {a : Addr} {v : Value} {d : D} {xs kvs} : k.1.isSome = true → flat d = true → (∀ h, V h v d) → DRel xs kvs → DRel ((pk k, a, v) :: xs) ((k, d) :: kvs)

/-- the same, of ints -/
inductive IRel : List (Int × Value) → List (Ky × D) → Prop
  | nil : IRel [] []
  | cons {i : Int} {v : Value} {d : D} {xs kvs} : flat d = true → (∀ h, V h v d) → IRel xs kvs → IRel ((i, v) :: xs) (((none, i), d) :: kvs)

noncomputable def DicAt (prog : Program) (w : World) (h : Heap) (a : Addr) (kvs : List (Ky × D)) : Prop :=
  (a == sysModules) = false ∧ ((∃ xs, h.DictOfH (pairKind prog w) a xs ∧ DRel xs kvs) ∨ ∃ xs, h.DictOf (PySem.intKind prog w) a xs ∧ IRel xs kvs)

theorem pk_inj {k k' : Ky} (h : k.1.isSome = true) (h' : k'.1.isSome = true) (e : pk k = pk k') : k = k' := by
  obtain ⟨a, i⟩ := k
  obtain ⟨b, j⟩ := k'
  cases a with
  | none => cases h
  | some a =>
    cases b with
    | none => cases h'
    | some b =>
      simp only [pk, Option.getD_some, List.cons.injEq, Sum.inl.injEq, Sum.inr.injEq, and_true] at e
      rw [e.1, e.2]

theorem DRel.len {xs kvs} (r : DRel xs kvs) : xs.length = kvs.length := by
  induction r with
  | nil => rfl
  | cons _ _ _ _ ih => rw [List.length_cons, List.length_cons, ih]
theorem DRel.look {xs kvs} (r : DRel xs kvs) {k : Ky} (hk : k.1.isSome = true) : (atKey xs (pk k) = none ∧ lookK kvs k = none) ∨ ∃ p d, atKey xs (pk k) = some p ∧ lookK kvs k = some d ∧ flat d = true ∧ ∀ h, V h p.2 d := by
  induction r with
  | nil => exact .inl ⟨rfl, rfl⟩
  | @cons k' a v d xs kvs h1 hf h2 r ih =>
    by_cases e : k' = k
    · subst e
      exact .inr ⟨(a, v), d, by simp [atKey], by simp [lookK], hf, h2⟩
    · have e' : ¬ pk k' = pk k := fun q => e (pk_inj h1 hk q)
      simpa [atKey, lookK, e, e'] using ih
theorem DRel.put {xs kvs} (r : DRel xs kvs) {k : Ky} {d : D} {a : Addr} {v : Value} (hk : k.1.isSome = true) (hf : flat d = true) (hv : ∀ h, V h v d) : DRel (storedH xs (pk k) a v) (putK kvs k d) := by
  have h1 : ∀ {xs kvs}, DRel xs kvs → DRel (xs.map (putAt (pk k) v)) (kvs.map fun x => if x.1 = k then (x.1, d) else x) := by
    intro xs kvs r
    induction r with
    | nil => exact .nil
    | @cons k' a' v' d' xs kvs h1 hf' h2 r ih =>
      rw [List.map_cons, List.map_cons]
      by_cases e : k' = k
      · subst e
        rw [putAt, if_pos rfl, if_pos rfl]
        exact .cons h1 hf hv ih
      · have e' : ¬ pk k' = pk k := fun q => e (pk_inj h1 hk q)
        rw [putAt, if_neg e', if_neg e]
        exact .cons h1 hf' h2 ih
  have h2 : ∀ {xs kvs}, DRel xs kvs → DRel (xs ++ [(pk k, a, v)]) (kvs ++ [(k, d)]) := by
    intro xs kvs r
    induction r with
    | nil => exact .cons hk hf hv .nil
    | cons h1 hf' h2 r ih => exact .cons h1 hf' h2 ih
  rcases r.look hk with ⟨e1, e2⟩ | ⟨p, d', e1, e2, _, _⟩
  · rw [storedH_new e1, putK, e2]; exact h2 r
  · rw [storedH_old e1, putK, e2]; exact h1 r
theorem DRel.kinds {xs kvs} (r : DRel xs kvs) : ∀ x ∈ kvs, x.1.1.isSome = true := by
  induction r with
  | nil => intro x hx; cases hx
  | cons h1 _ _ _ ih =>
    intro x hx
    rcases List.mem_cons.mp hx with rfl | hx
    · exact h1
    · exact ih x hx

theorem IRel.len {xs kvs} (r : IRel xs kvs) : xs.length = kvs.length := by
  induction r with
  | nil => rfl
  | cons _ _ _ ih => rw [List.length_cons, List.length_cons, ih]
theorem IRel.look {xs kvs} (r : IRel xs kvs) (i : Int) : (valueAt xs i).isSome = (lookK kvs (none, i)).isSome := by
  induction r with
  | nil => rfl
  | @cons j v d xs kvs hf h2 r ih =>
    by_cases e : j = i
    · subst e; simp [valueAt, lookK]
    · have e' : ¬ ((none, j) : Ky) = (none, i) := fun q => e (Prod.mk.inj q).2
      simpa [valueAt, lookK, e, e'] using ih
theorem IRel.put {xs kvs} (r : IRel xs kvs) {i : Int} {d : D} {v : Value} (hf : flat d = true) (hv : ∀ h, V h v d) : IRel (stored xs i v) (putK kvs (none, i) d) := by
  have h1 : ∀ {xs kvs}, IRel xs kvs → IRel (xs.map fun kv => if kv.1 = i then (kv.1, v) else kv) (kvs.map fun x => if x.1 = ((none, i) : Ky) then (x.1, d) else x) := by
    intro xs kvs r
    induction r with
    | nil => exact .nil
    | @cons j v' d' xs kvs hf' h2 r ih =>
      rw [List.map_cons, List.map_cons]
      by_cases e : j = i
      · subst e
        rw [if_pos rfl, if_pos rfl]
        exact .cons hf hv ih
      · have e' : ¬ ((none, j) : Ky) = (none, i) := fun q => e (Prod.mk.inj q).2
        rw [if_neg e, if_neg e']
        exact .cons hf' h2 ih
  have h2 : ∀ {xs kvs}, IRel xs kvs → IRel (xs ++ [(i, v)]) (kvs ++ [((none, i), d)]) := by
    intro xs kvs r
    induction r with
    | nil => exact .cons hf hv .nil
    | cons h1 h2 r ih => exact .cons h1 h2 ih
  have e : (xs.any fun kv => decide (kv.1 = i)) = (lookK kvs (none, i)).isSome := by
    rw [← r.look i, valueAt, Option.isSome_map, Bool.eq_iff_iff, List.find?_isSome]; simp
  unfold stored putK
  by_cases c : (lookK kvs (none, i)).isSome = true
  · rw [if_pos c]
    rw [c] at e
    rw [if_pos e]
    exact h1 r
  · rw [if_neg c]
    rw [if_neg (by rw [e]; exact c)]
    exact h2 r
theorem IRel.kinds {xs kvs} (r : IRel xs kvs) : ∀ x ∈ kvs, x.1.1.isSome = false := by
  induction r with
  | nil => intro x hx; cases hx
  | cons _ _ _ ih =>
    intro x hx
    rcases List.mem_cons.mp hx with rfl | hx
    · rfl
    · exact ih x hx

section
variable {prog : Program} {w : World} {h h' : Heap} {a : Addr} {kvs : List (Ky × D)}
theorem DicAt.obj (x : DicAt prog w h a kvs) : ∃ o es ep, h.get? a = some o ∧ o.ExactDict ∧ o.data = .dict es ep := by
  obtain ⟨_, ⟨xs, ⟨o, es, ep, h1, h2, h3, _⟩, _⟩ | ⟨xs, ⟨o, es, ep, h1, h2, h3, _⟩, _⟩⟩ := x <;> exact ⟨o, es, ep, h1, h2, h3⟩
/-- a dict stays while it and all tuples stay -/
theorem DicAt.change (x : DicAt prog w h a kvs) (ko : ∀ o, h.get? a = some o → h'.get? a = some o) (kt : ∀ a items, h.IsTuple a items → h'.IsTuple a items) : DicAt prog w h' a kvs := by
  obtain ⟨h0, ⟨xs, ⟨o, es, ep, h1, h2, h3, h4, h5, h6⟩, r⟩ | ⟨xs, ⟨o, es, ep, h1, h2⟩, r⟩⟩ := x
  · refine ⟨h0, .inl ⟨xs, ⟨o, es, ep, ko o h1, h2, h3, h4, fun y hy => ?_, h6⟩, r⟩⟩
    obtain ⟨o', items, n, q1, q2, q3, q4⟩ := h5 y hy
    obtain ⟨o'', q1', q2', n', q3'⟩ := kt y.2.1 items ⟨o', q1, q2, n, q3⟩
    exact ⟨o'', items, n', q1', q2', q3', q4⟩
  · exact ⟨h0, .inr ⟨xs, ⟨o, es, ep, ko o h1, h2⟩, r⟩⟩
theorem DicAt.keeps (x : DicAt prog w h a kvs) (k : ∀ b o, h.get? b = some o → h'.get? b = some o) : DicAt prog w h' a kvs :=
  x.change (k a) fun _ _ t => IsTuple_keep t k
theorem DicAt.new (hs : (h.objs.size == sysModules) = false) : DicAt prog w (h.push { cls := .type "dict", data := .dict #[] }) h.objs.size [] :=
  ⟨hs, .inl ⟨[], Heap.DictOfH.new h, .nil⟩⟩
/-- the keys are pairs -/
theorem DicAt.pairs (x : DicAt prog w h a kvs) (hk : ∀ y ∈ kvs, y.1.1.isSome = true) : (a == sysModules) = false ∧ ∃ xs, h.DictOfH (pairKind prog w) a xs ∧ DRel xs kvs := by
  obtain ⟨h0, q | ⟨xs, ⟨o, es, ep, h1, h2, h3, h4, h5, h6⟩, r⟩⟩ := x
  · exact ⟨h0, q⟩
  · have hn : kvs = [] := by
      cases kvs with
      | nil => rfl
      | cons y kvs => have := hk y (.head _); rw [r.kinds y (.head _)] at this; cases this
    subst hn
    cases r
    have he : es.toList = [] := List.length_eq_zero_iff.mp h5.length
    exact ⟨h0, [], ⟨o, es, ep, h1, h2, h3, he, fun _ q => (by cases q), .nil⟩, .nil⟩
/-- the keys are ints -/
theorem DicAt.ints (x : DicAt prog w h a kvs) (hk : ∀ y ∈ kvs, y.1.1.isSome = false) : (a == sysModules) = false ∧ ∃ xs, h.DictOf (PySem.intKind prog w) a xs ∧ IRel xs kvs := by
  obtain ⟨h0, ⟨xs, ⟨o, es, ep, h1, h2, h3, h4, h5, h6⟩, r⟩ | q⟩ := x
  · have hn : kvs = [] := by
      cases kvs with
      | nil => rfl
      | cons y kvs => have := hk y (.head _); rw [r.kinds y (.head _)] at this; cases this
    subst hn
    cases r
    have he : es = #[] := by apply Array.toList_inj.mp; rw [h4]; rfl
    subst he
    exact ⟨h0, [], ⟨o, _, ep, h1, h2, h3, fun e q => (by simp at q), .nil, .nil⟩, .nil⟩
  · exact ⟨h0, q⟩

theorem keyD_pair {d : D} {k : Ky} (e : keyD d = some k) (h : k.1.isSome = true) : ∃ x, k = (some x, k.2) ∧ d = .tup [.str x, .int k.2] := by
  cases d with
  | int i => cases e; cases h
  | tup ds =>
    cases ds with
    | nil => cases e
    | cons a ds =>
      cases ds with
      | nil => cases a <;> cases e
      | cons b ds =>
        cases ds with
        | nil => cases a <;> first | exact nns e | (cases b <;> first | exact nns e | (cases e; exact ⟨_, rfl, rfl⟩))
        | cons => cases a <;> first | exact nns e | (cases b <;> exact nns e)
  | _ => cases e
/-- a datum as a key -/
theorem V.key {v : Value} {d : D} {k : Ky} (x : V h v d) (e : keyD d = some k) (hk : k.1.isSome = true) : ∃ b, v = .ref b ∧ (pairKind prog w).is h (pk k) b := by
  obtain ⟨s, ek, rfl⟩ := keyD_pair e hk
  cases x with
  | tup ht hv hl =>
    cases hv with
    | cons h1 hv =>
      cases hv with
      | cons h2 hv =>
        cases hv
        cases h1
        cases h2
        obtain ⟨o, ho, hc, n, hd⟩ := ht
        rw [ek]
        exact ⟨_, rfl, o, _, n, ho, hc, hd, .cons (by simp [mixKind, mixIs, Value.isStrOf]) (.cons (by simp [mixKind, mixIs, Value.isInt]) .nil)⟩
end

theorem keyD_int {d : D} {k : Ky} (e : keyD d = some k) (h : k.1.isSome = false) : ∃ i, d = .int i ∧ k = (none, i) := by
  cases d with
  | int i => cases e; exact ⟨i, rfl, rfl⟩
  | tup ds =>
    cases q : k.1.isSome with
    | true => rw [h] at q; cases q
    | false =>
      exfalso
      cases ds with
      | nil => cases e
      | cons a ds =>
        cases ds with
        | nil => cases a <;> cases e
        | cons b ds =>
          cases ds with
          | nil => cases a <;> first | exact nns e | (cases b <;> first | exact nns e | (cases e; cases h))
          | cons => cases a <;> first | exact nns e | (cases b <;> exact nns e)
  | _ => cases e
theorem kindOk_all {kvs : List (Ky × D)} {k : Ky} {b : Bool} (h : kindOk kvs k = true) (hb : k.1.isSome = b) : ∀ y ∈ kvs, y.1.1.isSome = b := by
  intro y hy
  have := List.all_eq_true.mp h y hy
  rw [beq_iff_eq.mp this]; exact hb

section
variable {prog : Program} {w : World} {A : Around} {E : Value → Shared → Prop} {s : Shared} {a : Addr} {kvs : List (Ky × D)}
theorem dic_in {v : Value} {d : D} {k : Ky} {neg : Bool} (hu : A.units + 8 < cLine) (x : DicAt prog w s.heap a kvs) (hv : V s.heap v d) (hk : keyD d = some k) (ho : kindOk kvs k = true) :
    wpAny (model prog w) A (compareOp (if neg = true then .NotIn else .In) v (.ref a)) (PostB s (if neg = true then !(lookK kvs k).isSome else (lookK kvs k).isSome)) E s := by
  by_cases hk1 : k.1.isSome = true
  · obtain ⟨b, rfl, hb⟩ := hv.key (prog := prog) (w := w) hk hk1
    obtain ⟨h0, xs, hx, r⟩ := x.pairs (kindOk_all ho hk1)
    have e : (atKey xs (pk k)).isSome = (lookK kvs k).isSome := by
      rcases r.look hk1 with ⟨e1, e2⟩ | ⟨p, d', e1, e2, _⟩ <;> rw [e1, e2] <;> rfl
    cases neg with
    | true => exact wpAny_notIn_heap (tupleKind_room_in1 (by (first | lia | omega))) hb h0 hx ⟨by rw [e]; rfl, keeps_toks _ _⟩
    | false => exact wpAny_in_heap (tupleKind_room_in1 (by (first | lia | omega))) hb h0 hx ⟨by rw [e]; rfl, keeps_toks _ _⟩
  · have hk1 : k.1.isSome = false := by simpa using hk1
    obtain ⟨i, rfl, rfl⟩ := keyD_int hk hk1
    obtain ⟨t, rfl⟩ := hv.int_inv
    obtain ⟨h0, xs, hx, r⟩ := x.ints (kindOk_all ho hk1)
    have e := r.look i
    have hi : (PySem.intKind prog w).is i (.int i t) = true := by show Value.isInt i (.int i t) = true; simp [Value.isInt]
    cases neg with
    | true => exact wpAny_notIn_of hi h0 hx.mapOf ⟨by rw [e]; rfl, keeps_toks _ _⟩
    | false => exact wpAny_in_of hi h0 hx.mapOf ⟨by rw [e]; rfl, keeps_toks _ _⟩
theorem dic_set {v vv : Value} {d d' : D} {k : Ky} {Q : Unit → Shared → Prop} (hu : A.units + 8 < cLine) (x : DicAt prog w s.heap a kvs) (hv : V s.heap v d) (hk : keyD d = some k) (ho : kindOk kvs k = true) (hf : flat d' = true) (hvv : V s.heap vv d') (hl : kvs.length < lim)
    (hQ : ∀ h' tk, DicAt prog w h' a (putK kvs k d') → Heap.SameBut a s.heap h' → Q () { s with heap := h', toks := tk }) : wpAny (model prog w) A (setItem (.ref a) v vv) Q E s := by
  have hvv' : ∀ h, V h vv d' := fun h => by
    cases hvv <;> first | (cases hf; done) | exact .bool _ | exact .int _ _
  by_cases hk1 : k.1.isSome = true
  · obtain ⟨b, rfl, hb⟩ := hv.key (prog := prog) (w := w) hk hk1
    obtain ⟨h0, xs, hx, r⟩ := x.pairs (kindOk_all ho hk1)
    exact wpAny_setItem_heap (tupleKind_room_in1 (by (first | lia | omega))) hb hx (fun h' hx' hs => hQ h' _ ⟨h0, .inl ⟨_, hx', r.put hk1 hf hvv'⟩⟩ hs) (by rw [r.len]; exact Nat.le_trans (Nat.le_of_lt hl) lim_line)
  · have hk1 : k.1.isSome = false := by simpa using hk1
    obtain ⟨i, rfl, rfl⟩ := keyD_int hk hk1
    obtain ⟨t, rfl⟩ := hv.int_inv
    obtain ⟨h0, xs, hx, r⟩ := x.ints (kindOk_all ho hk1)
    have hi : (PySem.intKind prog w).is i (.int i t) = true := by show Value.isInt i (.int i t) = true; simp [Value.isInt]
    exact wpAny_setItem_pairs hi hx (fun h' hx' hs => hQ h' _ ⟨h0, .inr ⟨_, hx', r.put hf hvv'⟩⟩ hs) (by rw [r.len]; exact Nat.le_trans (Nat.le_of_lt hl) lim_line)
end
end Mine

namespace Mine
open PySem PySem.Calls PyProof.Rows PySem.SeqAt

noncomputable def cut {α : Type} (vs : List α) (lo hi : Option Int) : List α :=
  ((match hi with | some j => vs.take j.toNat | none => vs)).drop (match lo with | some i => i.toNat | none => 0)

theorem part_index {prog : Program} {w : World} {A : Around} {E : Value → Shared → Prop} {s : Shared} {v : Value} {k : Option Int} {Q : Option Int → Shared → Prop} (p : IsPart v k) (h : Q k s) :
    wpAny (model prog w) A (Builtin.Slice.slicePartIndex v) Q E s := by
  cases p with
  | none => exact slicePart_none h
  | int i t => exact slicePart_int h

/-- the bounds that a slice with parts from nought has -/
noncomputable def loOf (lo : Option Int) (n : Nat) : Nat := match lo with | some i => min i.toNat n | none => 0
noncomputable def hiOf (hi : Option Int) (n : Nat) : Nat := match hi with | some i => min i.toNat n | none => n

theorem adjust_nn (lo hi : Option Int) (n : Nat) (h1 : ∀ i, lo = some i → 0 ≤ i) (h2 : ∀ i, hi = some i → 0 ≤ i) :
    Builtin.Slice.sliceAdjust lo hi 1 (n : Int) = ((loOf lo n : Int), (hiOf hi n : Int)) := by
  unfold Builtin.Slice.sliceAdjust loOf hiOf
  have h0 : ¬ ((1 : Int) < 0) := by (first | lia | omega)
  simp only [h0, if_false]
  refine Prod.ext ?_ ?_
  · cases lo with
    | none => rfl
    | some i =>
      have := h1 i rfl
      have q : ¬ (i < 0) := by (first | lia | omega)
      simp only [q, if_false]; (first | lia | omega)
  · cases hi with
    | none => rfl
    | some i =>
      have := h2 i rfl
      have q : ¬ (i < 0) := by (first | lia | omega)
      simp only [q, if_false]; (first | lia | omega)

theorem places_nn (a b : Nat) : Builtin.Slice.slicePlaces (a : Int) (b : Int) 1 = b - a := by
  unfold Builtin.Slice.slicePlaces
  have h1 : (1 : Int) > 0 := by (first | lia | omega)
  simp only [h1, if_true, Int.ediv_one]
  split <;> (first | lia | omega)

theorem cut_eq {α : Type} (vs : List α) (lo hi : Option Int) : cut vs lo hi = (vs.drop (loOf lo vs.length)).take (hiOf hi vs.length - loOf lo vs.length) := by
  unfold cut loOf hiOf
  have key : ∀ (i j : Nat), (vs.take j).drop i = (vs.drop (min i vs.length)).take (min j vs.length - min i vs.length) := by
    intro i j
    rw [List.drop_take]
    by_cases h : i ≤ vs.length
    · rw [Nat.min_eq_left h]
      by_cases h' : j ≤ vs.length
      · rw [Nat.min_eq_left h']
      · rw [Nat.min_eq_right (by (first | lia | omega)), List.take_of_length_le (by simp; (first | lia | omega)), List.take_of_length_le (by simp)]
    · rw [List.drop_eq_nil_of_le (by (first | lia | omega) : vs.length ≤ i), List.drop_eq_nil_of_le (by (first | lia | omega) : vs.length ≤ min i vs.length)]
      simp
  cases lo with
  | none =>
    cases hi with
    | none => simp
    | some j => have := key 0 j.toNat; simpa using this
  | some i =>
    cases hi with
    | none => have := key i.toNat vs.length; simpa using this
    | some j => exact key i.toNat j.toNat

section
variable {prog : Program} {w : World} {A : Around} {E : Value → Shared → Prop} {s : Shared}
theorem sliceApplied_nn {sl : Addr} {vl vu : Value} {lo hi : Option Int} {n : Nat} {Q : Int × Int × Nat → Shared → Prop} (hs : s.heap.IsSliceOf sl vl vu .none) (pl : IsPart vl lo) (pu : IsPart vu hi)
    (h1 : ∀ i, lo = some i → 0 ≤ i) (h2 : ∀ i, hi = some i → 0 ≤ i)
    (h : Q ((loOf lo n : Int), 1, hiOf hi n - loOf lo n) s) : wpAny (model prog w) A (Builtin.Slice.sliceApplied (.ref sl) (pure (n : Int))) Q E s := by
  obtain ⟨os, hos, hcs, hds⟩ := id hs
  unfold Builtin.Slice.sliceApplied Builtin.Slice.sliceFields
  refine wpAny_bind (wpAny_bind (wpAny_field hos hds (x := vl) rfl (wpAny_bind (wpAny_field hos hds (x := vu) rfl (wpAny_bind (wpAny_field hos hds (x := .none) rfl (wpAny_pure ?_)))))))
  refine wpAny_bind (slicePart_none ?_)
  show wpAny _ _ (if ((1 : Int) == 0) = true then _ else _) _ _ s
  rw [if_neg (by decide)]
  refine wpAny_bind (part_index pl (wpAny_bind (part_index pu (wpAny_bind (wpAny_pure ?_)))))
  show wpAny _ _ (match Builtin.Slice.sliceAdjust lo hi 1 (n : Int) with | (lo, hi) => pure (lo, (1 : Int), Builtin.Slice.slicePlaces lo hi 1)) _ _ s
  rw [adjust_nn lo hi n h1 h2]
  show wpAny _ _ (pure ((loOf lo n : Int), (1 : Int), Builtin.Slice.slicePlaces (loOf lo n : Int) (hiOf hi n : Int) 1)) _ _ s
  rw [places_nn]
  exact wpAny_pure h

theorem tuple_cut {t sl : Addr} {vs : List Value} {vl vu : Value} {lo hi : Option Int} {Q : Value → Shared → Prop} (ht : s.heap.IsTuple t vs.toArray) (hs : s.heap.IsSliceOf sl vl vu .none) (pl : IsPart vl lo) (pu : IsPart vu hi)
    (h1 : ∀ i, lo = some i → 0 ≤ i) (h2 : ∀ i, hi = some i → 0 ≤ i) (hsz : vs.length ≤ sizeLine)
    (hw : cut vs lo hi = vs → Q (.ref t) s) (h : Q (.ref s.heap.objs.size) { s with heap := s.heap.push { cls := .type "tuple", data := .seq (cut vs lo hi).toArray } }) :
    wpAny (model prog w) A (getItem (.ref t) (.ref sl)) Q E s := by
  have hcl : (cut vs lo hi).length ≤ vs.length := by rw [cut_eq]; simp only [List.length_take, List.length_drop]; (first | lia | omega)
  have hdrop : sizeOk (.seq (cut vs lo hi).toArray) := by
    show (cut vs lo hi).toArray.size ≤ sizeLine
    rw [List.size_toArray]; (first | lia | omega)
  obtain ⟨os, hos, hcs, hds⟩ := id hs
  have hTs : s.TypeIs (.ref sl) "slice" := ⟨os, hos, hcs⟩
  have hTt : s.TypeIs (.ref t) "tuple" := ht.typeIs
  unfold getItem
  try with_reducible refine wpAny_holding ?_
  first | refine wpAny_bind (wpAny_pure ?_) | skip
  refine wpAny_bind (wpAny_sequenceKey ht.typeIs (by decide) ?_)
  refine wpAny_bind (wpAny_callSpecial?_slot (name := Str.ofString "__getitem__") ht.typeIs slot_tuple_getitem
    (wpAny_call_entry slot_tuple_getitem ht.typeIs entry_tuple_getitem ?_ (args_tuple_getitem _ _)))
  show wpAny _ _ (Builtin.Tuple.tupleItemsOf (.ref t) >>= _) _ _ s
  refine wpAny_bind (tupleItemsOf_ ht ?_)
  refine wpAny_bind (wpAny_typeOf hTs ?_)
  rw [if_pos (by decide)]
  have hn : vs.toArray.size = vs.length := by simp
  refine wpAny_bind ?_
  rw [hn]
  refine sliceApplied_nn hs pl pu h1 h2 ?_
  have hpick : ((List.range (hiOf hi vs.length - loOf lo vs.length)).filterMap fun (k : Nat) => vs.toArray[((loOf lo vs.length : Int) + (k : Int) * 1).toNat]?).toArray = (cut vs lo hi).toArray := by
    have e : (fun (k : Nat) => vs.toArray[((loOf lo vs.length : Int) + (k : Int) * 1).toNat]?) = fun k => vs.toArray[loOf lo vs.length + k]? := by
      funext k
      have : ((loOf lo vs.length : Int) + (k : Int) * 1).toNat = loOf lo vs.length + k := by (first | lia | omega)
      rw [this]
    rw [e]
    have := pick_run vs.toArray (loOf lo vs.length) (hiOf hi vs.length - loOf lo vs.length)
    rw [List.filterMap_map] at this
    have e2 : ((fun x => vs.toArray[x]?) ∘ fun x => loOf lo vs.length + x) = fun k => vs.toArray[loOf lo vs.length + k]? := rfl
    rw [e2] at this
    rw [this, cut_eq]
  show wpAny _ _ (if ((loOf lo vs.length : Int) == 0 && (1 : Int) == 1 && (hiOf hi vs.length - loOf lo vs.length) == vs.length) = true then _ else _) _ _ s
  by_cases hwh : ((loOf lo vs.length : Int) == 0 && (1 : Int) == 1 && (hiOf hi vs.length - loOf lo vs.length) == vs.length) = true
  · rw [if_pos hwh]
    simp only [Bool.and_eq_true, beq_iff_eq] at hwh
    have hc : cut vs lo hi = vs := by
      rw [cut_eq]
      have : loOf lo vs.length = 0 := by (first | lia | omega)
      rw [this] at hwh ⊢
      rw [hwh.2]; simp
    unfold Builtin.Tuple.tupleIsExact
    refine wpAny_bind (wpAny_bind (wpAny_typeOf hTt (wpAny_pure ?_)))
    rw [if_pos (by decide)]
    exact wpAny_bind (wpAny_rule (wpAny_pure ⟨_, rfl, wpAny_pure (hw hc)⟩))
  · rw [if_neg hwh, hpick]
    first
      | exact wpAny_bind (m := Builtin.Tuple.tupleExact _) (wpAny_newObj_type (wpAny_pure ⟨_, rfl, wpAny_pure h⟩) hdrop)
      | exact wpAny_bind (m := Builtin.Tuple.tupleExact _) (wpAny_newObj_type (wpAny_bind (wpAny_pure (wpAny_pure ⟨_, rfl, wpAny_pure h⟩))) hdrop)
      | exact wpAny_bind (wpAny_bind (m := Builtin.Tuple.tupleExact _) (wpAny_newObj_type (wpAny_pure (wpAny_pure ⟨_, rfl, wpAny_pure h⟩)) hdrop))
      | exact wpAny_bind (wpAny_bind (m := Builtin.Tuple.tupleExact _) (wpAny_newObj_type (wpAny_pure ⟨_, rfl, wpAny_pure h⟩) hdrop))

theorem Vs.cut {h : Heap} {vs : List Value} {ds : List D} (x : Vs h vs ds) (lo hi : Option Int) : Vs h (Mine.cut vs lo hi) (Mine.cut ds lo hi) := by
  unfold Mine.cut
  cases hi with
  | none => exact x.drop _
  | some j => exact (x.take _).drop _
theorem cut_len {α : Type} (vs : List α) (lo hi : Option Int) : (cut vs lo hi).length ≤ vs.length := by
  rw [cut_eq]; simp only [List.length_take, List.length_drop]; (first | lia | omega)

theorem cut_ok {a : Value} {sl : Addr} {ds : List D} {vl vu : Value} {lo hi : Option Int} (h0 : V s.heap a (.tup ds)) (hs : s.heap.IsSliceOf sl vl vu .none) (pl : IsPart vl lo) (pu : IsPart vu hi)
    (h1 : ∀ i, lo = some i → 0 ≤ i) (h2 : ∀ i, hi = some i → 0 ≤ i) : wpAny (model prog w) A (getItem a (.ref sl)) (Post s (.tup (cut ds lo hi))) E s := by
  cases h0 with
  | tup hp hv hl =>
    have l1 := hv.length
    have := cut_len ds lo hi
    refine tuple_cut hp hs pl pu h1 h2 (by have := lim_line; (first | lia | omega)) (fun e => ?_) (new_tuple (hv.cut lo hi) (by (first | lia | omega)))
    refine ⟨keeps_refl s, .tup hp ?_ (by (first | lia | omega))⟩
    have := hv.cut lo hi
    rwa [e] at this
end
end Mine

namespace Mine
open PySem PySem.Calls PyProof.Rows PySem.SeqAt

structure Sc where
  kd : List (Str × NameKind)
  ix : List (Str × Nat)
  n : Nat

noncomputable def isVarK : Option NameKind → Bool
  | some .local => true
  | some .cell => true
  | _ => false
noncomputable def cV (sc : Sc) (x : Str) : Option E := if isVarK (sc.kd.lookup x) && !(x == ("__debug__" : Str)) then (sc.ix.lookup x).map .v else none
noncomputable def cConst : Const → Option D
  | .none => some .none
  | .bool b => some (.bool b)
  | .int i => some (.int i)
  | .str s => some (.str s)
  | _ => none
noncomputable def cOp : Operator → Option Op
  | .Add => some .add
  | .Sub => some .sub
  | .Mult => some .mul
  | .FloorDiv => some .div
  | .Mod => some .mod
  | .Pow => some .pow
  | _ => none
noncomputable def cCm : CmpOp → Option Cm
  | .Eq => some .eq
  | .NotEq => some .ne
  | .Lt => some .lt
  | .LtE => some .le
  | .Gt => some .gt
  | .GtE => some .ge
  | _ => none
noncomputable def cTy (x : Str) : Option Ty :=
  if x == ("tuple" : Str) then some .tuple else if x == ("int" : Str) then some .int else if x == ("bool" : Str) then some .bool else none

noncomputable def cEs (f : Expr → Option E) : List Expr → Option Es
  | [] => some .nil
  | e :: r => (f e).bind fun a => (cEs f r).map fun b => .cons a b
noncomputable def Es.size : Es → Nat
  | .nil => 0
  | .cons _ r => r.size + 1

noncomputable def boolE (op : BoolOp) (x y : E) : E := match op with
  | .And => .and x y
  | .Or => .or x y
noncomputable def cBool (f : Expr → Option E) (op : BoolOp) (a : Expr) : List Expr → Option E
  | [] => f a
  | b :: r => (f a).bind fun x => (cBool f op b r).map fun y => boolE op x y

noncomputable def glob (sc : Sc) (x : Str) : Bool := sc.kd.lookup x == some .globalImplicit && !(x == ("__debug__" : Str))

noncomputable def idxVar (sc : Sc) (x : Str) : Option Nat := if isVarK (sc.kd.lookup x) && !(x == ("__debug__" : Str)) then sc.ix.lookup x else none
noncomputable def nameOf : Expr → Option Str
  | .Name x _ => some x
  | _ => none
theorem nameOf_some {e : Expr} {x : Str} (h : nameOf e = some x) : ∃ p, e = .Name x p := by
  cases e <;> first | exact nns h | exact nnb h | skip
  cases h; exact ⟨_, rfl⟩
/-- the names that hold dicts in these texts -/
noncomputable def dictNames : List Str := ["come", "_law_seen"]
noncomputable def dictVar (sc : Sc) (v : Expr) : Option Nat := (nameOf v).bind fun x => if dictNames.contains x = true then idxVar sc x else none
/-- what is sorted: a dict's keys, or a list -/
noncomputable def cSrt (f : Expr → Option E) (sc : Sc) (a : Expr) : Option E := match dictVar sc a with
  | some j => some (.srtK j)
  | none => (f a).map .srtL
noncomputable def cItN (f : Expr → Option E) (sc : Sc) (a : Expr) : Option It := match dictVar sc a with
  | some j => some (.keys j)
  | none => (f a).map .seq
noncomputable def cB1 (f : Expr → Option E) (sc : Sc) (name : Str) (a : Expr) : Option E :=
  if name == ("len" : Str) then (f a).map .len
  else if name == ("int" : Str) then (f a).map .toInt
  else if name == ("tuple" : Str) then (f a).map .toTup
  else if name == ("sorted" : Str) then cSrt f sc a
  else none
noncomputable def cIsi (f : Expr → Option E) (sc : Sc) (a : Expr) : Expr → Option E
  | .Name t _ => if glob sc t = true then (f a).bind fun x => (cTy t).map fun y => .isi x y else none
  | _ => none
noncomputable def cB2 (f : Expr → Option E) (sc : Sc) (name : Str) (a b : Expr) : Option E :=
  if name == ("isinstance" : Str) then cIsi f sc a b
  else if name == ("max" : Str) then (f a).bind fun x => (f b).map fun y => .max x y
  else none
noncomputable def cBuiltin (f : Expr → Option E) (sc : Sc) (name : Str) : List Expr → Option E
  | [] => none
  | a :: r => match r with
    | [] => cB1 f sc name a
    | b :: r' => if r'.isEmpty = true then cB2 f sc name a b else none

noncomputable def cCall (f : Expr → Option E) (fns : List Str) (sc : Sc) (name : Str) (args : List Expr) : Option E :=
  if glob sc name = true then
    match fns.idxOf? name with
    | some i => if args.isEmpty = true then none else (cEs f args).map (.call i)
    | none => cBuiltin f sc name args
  else none

noncomputable def cRange (f : Expr → Option E) : List Expr → Option It
  | [] => none
  | a :: r => match r with
    | [] => (f a).map .range
    | _ :: _ => none
noncomputable def nameIs (r : Str) : Expr → Bool
  | .Name x _ => x == r
  | _ => false
theorem nameIs_some {r : Str} {e : Expr} (h : nameIs r e = true) : ∃ p, e = .Name r p := by
  cases e <;> first | cases h; done | skip
  rename_i x p
  have := beq_iff_eq.mp h
  subst this
  exact ⟨p, rfl⟩
noncomputable def cIt (f : Expr → Option E) (sc : Sc) (e : Expr) : Option It :=
  match e with
  | .Call fn args kws _ => if nameIs "range" fn = true then (if glob sc "range" = true ∧ kws.isEmpty = true then cRange f args else none) else (f e).map .seq
  | .Name .. => cItN f sc e
  | .Subscript .. => (f e).map .seq
  | .BinOp .. => (f e).map .seq
  | .List .. => (f e).map .seq
  | _ => none

noncomputable def relabelN (names kd : List (Str × NameKind)) : List (Str × NameKind) := names.map fun y => if y.2 == NameKind.free && kd.lookup y.1 == some .cell then (y.1, NameKind.cell) else y
noncomputable def compSc (sc : Sc) (names : List (Str × NameKind)) (x : Str) : Sc :=
  { kd := relabelN names sc.kd, ix := (x, sc.n) :: names.filterMap (fun y => if y.2 == NameKind.free then (sc.ix.lookup y.1).map (y.1, ·) else none), n := sc.n + 1 }
noncomputable def compOk (sc : Sc) (scope : Scope) (x : Str) : Bool :=
  scope.kind == .function && scope.names.lookup x == some .local &&
  scope.names.all (fun y => (y.2 == .local && scope.names.lookup y.1 == some .local) || (y.2 == .free && sc.kd.lookup y.1 == some .cell && y.1 != x && scope.names.lookup y.1 == some .free) || y.2 == .globalImplicit) && sc.ix.all (fun p => decide (p.2 < sc.n))

noncomputable def cUn (op : UnaryOp) (x : Option E) : Option E := match op with
  | .USub => x.map .neg
  | .Not => x.map .not
  | _ => none
noncomputable def inOf : CmpOp → Option Bool
  | .In => some false
  | .NotIn => some true
  | _ => none
noncomputable def cIn (f : Expr → Option E) (sc : Sc) (neg : Bool) (l r : Expr) : Option E := (f l).bind fun a => (nameOf r).bind fun y => (idxVar sc y).map fun j => .inD neg a j
noncomputable def cCmp1 (f : Expr → Option E) (sc : Sc) (l : Expr) (op : CmpOp) (r : Expr) : Option E := match inOf op with
  | some neg => cIn f sc neg l r
  | none => (cCm op).bind fun o => (f l).bind fun a => (f r).map fun b => .cmp o a b
noncomputable def cCmp2 (f : Expr → Option E) (l : Expr) (op₁ op₂ : CmpOp) (r₁ r₂ : Expr) : Option E := (cCm op₁).bind fun o₁ => (cCm op₂).bind fun o₂ => (f l).bind fun a => (f r₁).bind fun b => (f r₂).map fun c => .chain o₁ o₂ a b c
/-- the two lists of a comparison -/
inductive Cv : List CmpOp → List Expr → Type where
  | one (op : CmpOp) (r : Expr) : Cv [op] [r]
  | two (op₁ op₂ : CmpOp) (r₁ r₂ : Expr) : Cv [op₁, op₂] [r₁, r₂]
noncomputable def cv : (a : List CmpOp) → (b : List Expr) → Option (Cv a b)
  | [op], [r] => some (.one op r)
  | [op₁, op₂], [r₁, r₂] => some (.two op₁ op₂ r₁ r₂)
  | _, _ => none
noncomputable def cCmpE (f : Expr → Option E) (sc : Sc) (l : Expr) (a : List CmpOp) (b : List Expr) : Option E := (cv a b).bind fun c => match a, b, c with
  | _, _, .one op r => cCmp1 f sc l op r
  | _, _, .two op₁ op₂ r₁ r₂ => cCmp2 f l op₁ op₂ r₁ r₂
noncomputable def cSlice (f : Expr → Option E) (v : Expr) (lo hi : Option Expr) : Option E := if hi.isNone = true then lo.bind fun lo => (f v).bind fun a => (f lo).map fun l => .slFrom a l else none
noncomputable def isSlice : Expr → Bool
  | .Slice .. => true
  | _ => false
noncomputable def cSl (f : Expr → Option E) (v : Expr) : Expr → Option E
  | .Slice lo hi st _ => if st.isNone = true then cSlice f v lo hi else none
  | _ => none
noncomputable def cSubE (f : Expr → Option E) (sc : Sc) (v sl : Expr) : Option E := if isSlice sl = true then cSl f v sl else (f v).bind fun a => (f sl).map fun b => .idx a b
noncomputable def cCallE (f : Expr → Option E) (fns : List Str) (sc : Sc) (args : List Expr) : Expr → Option E
  | .Name nm _ => cCall f fns sc nm args
  | _ => none
noncomputable def cComp (g : Sc → Expr → Option E) (sc : Sc) (elt : Expr) (scope : Scope) : List Comprehension → Option E
  | [] => none
  | c :: r => if r.isEmpty = true ∧ c.is_async = 0 then (nameOf c.target).bind fun x => if compOk sc scope x = true then
      (cIt (g sc) sc c.iter).bind fun it => (g (compSc sc scope.names x) elt).bind fun el => match c.ifs with
        | [] => some (.comp el it (.k (.bool true)))
        | t :: r => if r.isEmpty = true then (g (compSc sc scope.names x) t).map fun cd => .comp el it cd else none
    else none else none

noncomputable def cE (fns : List Str) : Nat → Sc → Expr → Option E
  | 0, _, _ => none
  | n + 1, sc, e => match e with
    | .Constant c _ _ => (cConst c).map .k
    | .Name x _ => cV sc x
    | .BinOp l op r _ => (cOp op).bind fun o => (cE fns n sc l).bind fun a => (cE fns n sc r).map fun b => .bin o a b
    | .UnaryOp op x _ => cUn op (cE fns n sc x)
    | .BoolOp op vs _ => match vs with
      | [] => none
      | a :: r => if r.isEmpty = true then none else cBool (cE fns n sc) op a r
    | .Compare l ops rs _ => cCmpE (cE fns n sc) sc l ops rs
    | .Subscript v sl _ => cSubE (cE fns n sc) sc v sl
    | .Tuple es _ _ => (cEs (cE fns n sc) es).bind fun x => if x.size ≤ 1000 then some (.tup x) else none
    | .List es _ => (cEs (cE fns n sc) es).bind fun x => if x.size ≤ 1000 then some (.lst x) else none
    | .Call fn args kws pos => if kws.isEmpty = true then cCallE (cE fns n sc) fns sc args fn else none
    | .ListComp elt gens scope _ => cComp (cE fns n) sc elt scope gens
    | _ => none
end Mine

namespace Mine
open PySem PySem.Calls PyProof.Rows PySem.SeqAt

noncomputable def blNames : List Str := ["len", "int", "tuple", "list", "isinstance", "max", "range", "bool", "str", "sorted"]

/-- what stands at the top -/
structure Gl (fns : List Str) (base : Heap) (mg mb : Str → Option Value) (fa : Nat → Addr) : Prop where
  g : base.Ns mainGlobals mg
  b : base.Ns builtinsNs mb
  lim : base.NoLimit
  fn : ∀ (i : Nat) n, fns[i]? = some n → ∃ o fd, mg n = some (.ref (fa i)) ∧ base.get? (fa i) = some o ∧ o.data = .func fd
  bl : ∀ x ∈ blNames, mg x = none ∧ mb x = bootBuiltins x

structure Ok (base : Heap) (k : Nat) (A : Around) (h : Heap) : Prop where
  hand : A.handled = none
  room : A.depth + k < recursionLimit
  units : A.units + 10 * k + 100 < cLine
  fr : ∃ l, Below A base l h

theorem Ok.mono {base : Heap} {k : Nat} {A : Around} {h h' : Heap} (x : Ok base k A h) (e : ∀ b o, h.get? b = some o → h'.get? b = some o) : Ok base k A h' := by
  obtain ⟨a, b, c, l, L⟩ := x
  exact ⟨a, b, c, l, L.stack, fun b o q => e b o (L.stays b o q), L.frames.of_keeps fun b o q _ => ⟨o, e b o q, rfl⟩⟩
theorem Ok.stays {base : Heap} {k : Nat} {A : Around} {h : Heap} (x : Ok base k A h) : ∀ b o, base.get? b = some o → h.get? b = some o := let ⟨_, L⟩ := x.fr; L.stays
theorem Ok.le {base : Heap} {k j : Nat} {A : Around} {h : Heap} (x : Ok base k A h) (e : j ≤ k) : Ok base j A h := by
  obtain ⟨a, b, c, l⟩ := x
  exact ⟨a, by (first | lia | omega), by (first | lia | omega), l⟩

/-- the name x holds v -/
inductive At (h : Heap) (env : Env) (x : Str) (v : Value) : Prop
  | loc (m : Str → Option Value) : env.kindOf x = some .local → h.Ns env.locals m → m x = some v → At h env x v
  | cell (c : Addr) : env.kindOf x = some .cell → env.cells.lookup x = some c → h.IsCell c (some v) → At h env x v
theorem At.mono {h h' : Heap} {env : Env} {x : Str} {v : Value} (a : At h env x v) (e : ∀ b o, h.get? b = some o → h'.get? b = some o) : At h' env x v := by
  cases a with
  | loc m a b c => exact .loc m a (b.keeps e) c
  | cell c a b d => exact .cell c a b (d.keeps e)

/-- what a name that is read bears -/
noncomputable def LoC (prog : Program) (w : World) (h : Heap) (v : Value) (lo : Lo) : Prop := match lo with
  | .dic kvs => ∃ a, v = .ref a ∧ DicAt prog w h a kvs
  | .dat d => V h v d
  | .arg d => V h v d
  | .own ds => V h v (.lst ds)
theorem LoC.keeps {prog : Program} {w : World} {h h' : Heap} {v : Value} {lo : Lo} (x : LoC prog w h v lo) (k : ∀ b o, h.get? b = some o → h'.get? b = some o) : LoC prog w h' v lo := by
  cases lo with
  | dic kvs => obtain ⟨a, e, q⟩ := x; exact ⟨a, e, q.keeps k⟩
  | dat d => exact V.mono k x
  | arg d => exact V.mono k x
  | own d => exact V.mono k x
theorem LoC.val {prog : Program} {w : World} {h : Heap} {v : Value} {lo : Lo} {d : D} (x : LoC prog w h v lo) (e : lo.val? = some d) : V h v d := by
  cases lo with
  | dic kvs => cases e
  | dat d => cases e; exact x
  | arg d => cases e; exact x
  | own d => cases e; exact x

structure Cx (prog : Program) (w : World) (base : Heap) (k : Nat) (sc : Sc) (env : Env) (ρ : Rho) (A : Around) (h : Heap) : Prop where
  names : env.scope.names = sc.kd
  kind : env.scope.kind = .function
  glob : env.globals = mainGlobals
  blt : env.builtins = builtinsNs
  cells : ∀ x, sc.kd.lookup x = some .cell → (env.cells.lookup x).isSome = true
  len : ρ.length = sc.n
  binds : ∀ x i lo, isVarK (sc.kd.lookup x) = true → sc.ix.lookup x = some i → ρ.get i = some lo → ∃ v, At h env x v ∧ LoC prog w h v lo
  ok : Ok base k A h
theorem Cx.mono {prog : Program} {w : World} {base : Heap} {k : Nat} {sc : Sc} {env : Env} {ρ : Rho} {A : Around} {h h' : Heap} (c : Cx prog w base k sc env ρ A h) (e : ∀ b o, h.get? b = some o → h'.get? b = some o) : Cx prog w base k sc env ρ A h' :=
  ⟨c.names, c.kind, c.glob, c.blt, c.cells, c.len, fun x i lo h1 h2 h3 => let ⟨v, a, b⟩ := c.binds x i lo h1 h2 h3; ⟨v, a.mono e, b.keeps e⟩, c.ok.mono e⟩
theorem Cx.kindOf {prog : Program} {w : World} {base : Heap} {k : Nat} {sc : Sc} {env : Env} {ρ : Rho} {A : Around} {h : Heap} (c : Cx prog w base k sc env ρ A h) (x : Str) : env.kindOf x = sc.kd.lookup x := by
  show env.scope.names.lookup x = _; rw [c.names]

/-- a list or a dict, all new -/
noncomputable def NewAt (prog : Program) (w : World) (h : Heap) (a : Addr) : Lo → Prop
  | .own ds => ∃ vs, h.PlainList a (List.toArray vs) ∧ Vs h vs ds ∧ D.pures ds = true ∧ ds.length ≤ lim
  | .dic kvs => DicAt prog w h a kvs
  | _ => False
structure FnsOk (prog : Program) (w : World) (base : Heap) (Φ : Fns) (fa : Nat → Addr) (k : Nat) : Prop where
  ok : ∀ f ds d A s vs E, Φ f ds = some (.ok d) → Ok base k A s.heap → Vs s.heap vs ds → wpAny (model prog w) A (call (.ref (fa f)) vs) (Post s d) E s
  own : ∀ f ds lo A s vs E, Φ f ds = some (.own lo) → Ok base k A s.heap → Vs s.heap vs ds → wpAny (model prog w) A (call (.ref (fa f)) vs) (fun v s' => Keeps s s' ∧ ∃ a, v = .ref a ∧ s.heap.get? a = none ∧ NewAt prog w s'.heap a lo) E s

section
variable {prog : Program} {w : World} {base : Heap} {fns : List Str} {mg mb : Str → Option Value} {fa : Nat → Addr} {Φ : Fns} {k : Nat}

noncomputable def EvOK (prog : Program) (w : World) (base : Heap) (Φ : Fns) (k : Nat) (sc : Sc) (e : Expr) (e' : E) : Prop :=
  ∀ env ρ A s d E, Cx prog w base k sc env ρ A s.heap → ev Φ ρ e' = some d → wpAny (model prog w) A (eval e env) (Post s d) E s
noncomputable def TrOK (prog : Program) (w : World) (base : Heap) (Φ : Fns) (k : Nat) (sc : Sc) (e : Expr) (e' : E) : Prop :=
  ∀ env ρ A s b E, Cx prog w base k sc env ρ A s.heap → ev Φ ρ e' = some (.bool b) → wpAny (model prog w) A (isTrue e env (eval e env)) (fun r s' => r = b ∧ Keeps s s') E s

theorem tr_plain {sc : Sc} {e : Expr} {e' : E} (h : EvOK prog w base Φ k sc e e')
    (he : ∀ env whole, isTrue e env whole = (do let v ← whole; standAt e.pos; holding [v] (truthy v))) : TrOK prog w base Φ k sc e e' := by
  intro env ρ A s b E c hv
  refine isTrue_plain (wpAny_mono (h env ρ A s _ E c hv) (fun v s₁ h₁ => ?_) fun _ _ x => x) (he env _)
  obtain ⟨k1, v1⟩ := h₁
  cases v1
  exact wpAny_truthy_bool ⟨rfl, k1⟩

theorem starEach_plain {e : Expr} (h : ∀ a b, e ≠ .Starred a b) (rest : List Expr) (env : Env) : starEach (e :: rest) env = (false, eval e env) :: starEach rest env := by
  cases e <;> first | rfl | (exact absurd rfl (h _ _))

noncomputable def Judged (prog : Program) (w : World) (base : Heap) (Φ : Fns) (k : Nat) (sc : Sc) (f : Expr → Option E) : Prop :=
  (∀ e e', f e = some e' → EvOK prog w base Φ k sc e e' ∧ TrOK prog w base Φ k sc e e') ∧ ∀ a b, f (.Starred a b) = none

theorem Judged.plain {sc : Sc} {f : Expr → Option E} (J : Judged prog w base Φ k sc f) {e : Expr} {e' : E} (h : f e = some e') : ∀ a b, e ≠ .Starred a b := by
  rintro a b rfl; rw [J.2] at h; cases h

theorem args_ok {sc : Sc} {f : Expr → Option E} (J : Judged prog w base Φ k sc f) : ∀ (es : List Expr) (es' : Es), cEs f es = some es' → ∀ env ρ A s ds E pos, Cx prog w base k sc env ρ A s.heap → evs Φ ρ es' = some ds →
    wpAny (model prog w) A (spliced (backTo pos (starEach es env))) (fun vs s' => Keeps s s' ∧ Vs s'.heap vs ds) E s
  | [], es', h, env, ρ, A, s, ds, E, pos, c, hv => by
    cases h
    cases hv
    exact args_nil ⟨keeps_refl s, .nil⟩
  | e :: r, es', h, env, ρ, A, s, ds, E, pos, c, hv => by
    replace h := ob h
    obtain ⟨a, ha, h⟩ := h
    replace h := om h
    obtain ⟨b, hb, rfl⟩ := h
    replace hv := ob hv
    obtain ⟨d, hd, hv⟩ := hv
    replace hv := om hv
    obtain ⟨ds', hds, rfl⟩ := hv
    refine args_cons ?_ (starEach_plain (J.plain ha) r env)
    refine wpAny_mono ((J.1 e a ha).1 env ρ A s d E c hd) (fun v s₁ h₁ => ?_) fun _ _ x => x
    obtain ⟨k1, v1⟩ := h₁
    refine wpAny_mono (args_ok J r b hb env ρ A s₁ ds' E pos (c.mono (keeps_heap k1)) hds) (fun vs s₂ h₂ => ?_) fun _ _ x => x
    exact ⟨keeps_trans k1 h₂.1, .cons (v1.mono (keeps_heap h₂.1)) h₂.2⟩

theorem evs_size : ∀ (es : Es) (ρ : Rho) (ds : List D), evs Φ ρ es = some ds → ds.length = es.size
  | .nil, ρ, ds, h => by cases h; rfl
  | .cons e r, ρ, ds, h => by
    replace h := ob h
    obtain ⟨d, hd, h⟩ := h
    replace h := om h
    obtain ⟨ds', hds, rfl⟩ := h
    exact congrArg (· + 1) (evs_size r ρ ds' hds)

theorem small_lim {n : Nat} (h : n ≤ 1000) : n ≤ lim := Nat.le_trans h (by decide)

theorem load_var {sc : Sc} {env : Env} {ρ : Rho} {A : Around} {s : Shared} {x : Str} {pos : Pos} {v : Value} {Q : Value → Shared → Prop} {E : Value → Shared → Prop} (hk : env.scope.kind = .function) (a : At s.heap env x v) (h : Q v s)
    (hd : (x == ("__debug__" : Str)) = false) : wpAny (model prog w) A (eval (.Name x pos) env) Q E s := by
  cases a with
  | loc m a b c => exact wpAny_Name (wpAny_loadName_local hk a b c h) hd
  | cell c a b d => exact wpAny_Name (wpAny_loadName_cell hk a b d h) hd

theorem load_builtin {sc : Sc} {env : Env} {ρ : Rho} {A : Around} {s : Shared} {x : Str} {pos : Pos} {v : Value} {Q : Value → Shared → Prop} {E : Value → Shared → Prop} (G : Gl fns base mg mb fa) (c : Cx prog w base k sc env ρ A s.heap) (hg : glob sc x = true)
    (hx : x ∈ blNames) (hv : bootBuiltins x = some v) (h : Q v s) : wpAny (model prog w) A (eval (.Name x pos) env) Q E s := by
  simp only [Mine.glob, Bool.and_eq_true, beq_iff_eq, Bool.not_eq_true'] at hg
  obtain ⟨h1, h2⟩ := G.bl x hx
  refine Name_function_global c.kind ((c.kindOf x).trans hg.1) (loadGlobal_builtin (mg := mg) (mb := mb) ?_ h1 ?_ (h2.trans hv) h) hg.2
  · rw [c.glob]; exact G.g.keeps c.ok.stays
  · rw [c.blt]; exact G.b.keeps c.ok.stays

theorem load_fn {sc : Sc} {env : Env} {ρ : Rho} {A : Around} {s : Shared} {i : Nat} {n : Str} {pos : Pos} {Q : Value → Shared → Prop} {E : Value → Shared → Prop} (G : Gl fns base mg mb fa) (c : Cx prog w base k sc env ρ A s.heap) (hg : glob sc n = true)
    (hn : fns[i]? = some n) (h : Q (.ref (fa i)) s) : wpAny (model prog w) A (eval (.Name n pos) env) Q E s := by
  simp only [Mine.glob, Bool.and_eq_true, beq_iff_eq, Bool.not_eq_true'] at hg
  obtain ⟨o, fd, h1, _, _⟩ := G.fn i n hn
  refine Name_function_global c.kind ((c.kindOf n).trans hg.1) (loadGlobal_global (mg := mg) ?_ h1 h) hg.2
  rw [c.glob]; exact G.g.keeps c.ok.stays

theorem idxOf?_get {l : List Str} {x : Str} {i : Nat} (h : l.idxOf? x = some i) : l[i]? = some x := by
  induction l generalizing i with
  | nil => simp at h
  | cons y l ih =>
    rw [List.idxOf?_cons] at h
    split at h
    · rename_i hb
      simp only [Option.some.injEq] at h
      subst h
      simp [beq_iff_eq.mp hb]
    · simp only [Option.map_eq_some_iff] at h
      obtain ⟨j, hj, rfl⟩ := h
      simpa using ih hj

theorem V.bool_inv {h : Heap} {v : Value} {b : Bool} (x : V h v (.bool b)) : v = .bool b := by cases x; rfl

theorem bool_ok {sc : Sc} {f : Expr → Option E} (J : Judged prog w base Φ k sc f) (op : BoolOp) (pos : Pos) : ∀ (r : List Expr) (a : Expr) (e' : E), cBool f op a r = some e' →
    (∀ env ρ A s d E, Cx prog w base k sc env ρ A s.heap → ev Φ ρ e' = some d → wpAny (model prog w) A (boolOp pos op (evalEach (a :: r) env)) (Post s d) E s) ∧
    (∀ env ρ A s b E, Cx prog w base k sc env ρ A s.heap → ev Φ ρ e' = some (.bool b) → wpAny (model prog w) A (allTrue op (a :: r) env) (fun r s' => r = b ∧ Keeps s s') E s)
  | [], a, e', h => by
    refine ⟨fun env ρ A s d E c hv => ?_, fun env ρ A s b E c hv => ?_⟩
    · exact (J.1 a e' h).1 env ρ A s d E c hv
    · show wpAny _ _ (do match op, ← isTrue a env (eval a env) with
        | .And, false => pure false
        | .Or, true => pure true
        | _, _ => allTrue op [] env) _ _ _
      refine wpAny_bind (wpAny_mono ((J.1 a e' h).2 env ρ A s b E c hv) (fun r s₁ h₁ => ?_) fun _ _ x => x)
      obtain ⟨rfl, k1⟩ := h₁
      cases op <;> cases r <;> exact wpAny_pure ⟨rfl, k1⟩
  | a' :: r, a, e', h => by
    replace h := ob h
    obtain ⟨x, hx, h⟩ := h
    replace h := om h
    obtain ⟨y, hy, rfl⟩ := h
    obtain ⟨ih1, ih2⟩ := bool_ok J op pos r a' y hy
    obtain ⟨ja, jb⟩ := J.1 a x hx
    -- what the first gives, and what is left
    have parts : ∀ ρ d, ev Φ ρ (boolE op x y) = some d → ∃ p, ev Φ ρ x = some (.bool p) ∧ ((op = .And ↔ p = true) → ∃ q, d = .bool q ∧ ev Φ ρ y = some (.bool q)) ∧ (¬(op = .And ↔ p = true) → d = .bool p) := by
      intro ρ d hv
      cases op with
      | And =>
        obtain ⟨v, hv1, hva⟩ := ob hv
        obtain ⟨p, hp, hvb⟩ := ob hva
        have := isTrueD_some hp; subst this
        clear hv hva
        refine ⟨p, hv1, fun q => ?_, fun q => ?_⟩
        · rw [if_pos (q.mp rfl)] at hvb
          obtain ⟨v2, hv2, hvc⟩ := ob hvb
          obtain ⟨q2, hq2, rfl⟩ := om hvc
          have := isTrueD_some hq2; subst this
          exact ⟨q2, rfl, hv2⟩
        · cases p with
          | true => exact absurd ⟨fun _ => rfl, fun _ => rfl⟩ q
          | false => cases hvb; rfl
      | Or =>
        obtain ⟨v, hv1, hva⟩ := ob hv
        obtain ⟨p, hp, hvb⟩ := ob hva
        have := isTrueD_some hp; subst this
        clear hv hva
        refine ⟨p, hv1, fun q => ?_, fun q => ?_⟩
        · cases p with
          | true => cases q.mpr rfl
          | false =>
            obtain ⟨v2, hv2, hvc⟩ := ob hvb
            replace hvc := om hvc
            obtain ⟨q2, hq2, rfl⟩ := hvc
            have := isTrueD_some hq2; subst this
            exact ⟨q2, rfl, hv2⟩
        · cases p with
          | true => cases hvb; rfl
          | false => exact absurd ⟨(fun q => by cases q), (fun q => by cases q)⟩ q
    refine ⟨fun env ρ A s d E c hv => ?_, fun env ρ A s b E c hv => ?_⟩
    · show wpAny _ _ (do
        let v ← eval a env
        standAt pos
        let t ← holding [v] (truthy v)
        match op, t with
        | .And, false | .Or, true => pure v
        | _, _ => boolOp pos op (evalEach (a' :: r) env)) _ _ _
      obtain ⟨p, hp, h1, h2⟩ := parts ρ d hv
      refine wpAny_bind (wpAny_mono (ja env ρ A s _ E c hp) (fun v s₁ h₁ => wpAny_bind (wpAny_standAt (wpAny_bind (wpAny_holding ?_)))) fun _ _ x => x)
      obtain ⟨k1, v1⟩ := h₁
      have := v1.bool_inv; subst this
      refine wpAny_truthy_bool ?_
      have go : (op = .And ↔ p = true) → wpAny (model prog w) A (boolOp pos op (evalEach (a' :: r) env)) (Post s d) E s₁ := fun q => by
        obtain ⟨q2, rfl, hq2⟩ := h1 q
        exact wpAny_mono (ih1 env ρ A s₁ _ E (c.mono (keeps_heap k1)) hq2) (fun v s₂ h₂ => ⟨keeps_trans k1 h₂.1, h₂.2⟩) fun _ _ x => x
      have stop : ¬(op = .And ↔ p = true) → wpAny (model prog w) A (pure (.bool p)) (Post s d) E s₁ := fun q => by
        rw [h2 q]; exact wpAny_pure ⟨k1, .bool _⟩
      cases op <;> cases p
      · exact stop fun q => by cases q.mp rfl
      · exact go ⟨fun _ => rfl, fun _ => rfl⟩
      · exact go ⟨(fun q => by cases q), (fun q => by cases q)⟩
      · exact stop fun q => by cases q.mpr rfl
    · show wpAny _ _ (do match op, ← isTrue a env (eval a env) with
        | .And, false => pure false
        | .Or, true => pure true
        | _, _ => allTrue op (a' :: r) env) _ _ _
      obtain ⟨p, hp, h1, h2⟩ := parts ρ _ hv
      refine wpAny_bind (wpAny_mono (jb env ρ A s _ E c hp) (fun v s₁ h₁ => ?_) fun _ _ x => x)
      obtain ⟨rfl, k1⟩ := h₁
      have go : (op = .And ↔ v = true) → wpAny (model prog w) A (allTrue op (a' :: r) env) (fun r s' => r = b ∧ Keeps s s') E s₁ := fun q => by
        obtain ⟨q2, e2, hq2⟩ := h1 q
        cases e2
        exact wpAny_mono (ih2 env ρ A s₁ _ E (c.mono (keeps_heap k1)) hq2) (fun v s₂ h₂ => ⟨h₂.1, keeps_trans k1 h₂.2⟩) fun _ _ x => x
      have stop : ¬(op = .And ↔ v = true) → wpAny (model prog w) A (pure v) (fun r s' => r = b ∧ Keeps s s') E s₁ := fun q => by
        cases h2 q
        exact wpAny_pure ⟨rfl, k1⟩
      cases op <;> cases v
      · exact stop fun q => by cases q.mp rfl
      · exact go ⟨fun _ => rfl, fun _ => rfl⟩
      · exact go ⟨(fun q => by cases q), (fun q => by cases q)⟩
      · exact stop fun q => by cases q.mpr rfl
end
end Mine

namespace Mine
open PySem PySem.Calls PyProof.Rows PySem.SeqAt

/-- iterators that own the tuple they give -/
noncomputable def ownsT (n : String) : Bool := ["enumerate", "zip", "dict_itemiterator", "dict_reverseitemiterator", "odict_iterator", "itertools.zip_longest", "itertools.pairwise"].contains n
noncomputable def Wk (prog : Program) (w : World) (A : Around) (h₁ : Heap) (s₂ : Shared) (I : Addr) (fp : List Addr) (ds : List D) : Prop :=
  ∃ P St, Walks prog w A I fp [I] ds.length P St ∧ St 0 s₂.heap ∧ (∀ b ∈ fp, b < s₂.heap.objs.size) ∧ h₁.get? I = none ∧ (∀ b o, h₁.get? b = some o → s₂.heap.get? b = some o) ∧ (∀ i v, P i v → ∃ d, ds[i]? = some d ∧ V h₁ v d) ∧ (∀ i h, St i h → ∃ o, h.get? I = some o ∧ ∃ fs, o.data = .fields fs) ∧ (∀ i h, St i h → ∃ o n fs, h.get? I = some o ∧ o.cls = .type n ∧ o.data = .fields fs ∧ ownsT n = false)

section
variable {prog : Program} {w : World} {A : Around} {E : Value → Shared → Prop} {s : Shared}

theorem size_none (h : Heap) : h.get? h.objs.size = none := by
  cases q : h.get? h.objs.size with
  | none => rfl
  | some o => exact absurd (Heap.lt_size q) (Nat.lt_irrefl _)

theorem iter_seq {a : Value} {d : D} {ds : List D} (hh : A.handled = none) (hv : V s.heap a d) (hi : items d = some ds) :
    wpAny (model prog w) A (pyIter a) (fun it s₂ => ∃ I ax, it = .ref I ∧ a = .ref ax ∧ Keeps s s₂ ∧ Wk prog w A s.heap s₂ I [I, ax] ds) E s := by
  cases hv <;> simp only [items, reduceCtorEq, Option.some.injEq] at hi
  · rename_i p vs ds' hp hvs hl
    subst hi
    have l1 := hvs.length
    obtain ⟨o, ho, _⟩ := id hp
    have hlt := Heap.lt_size ho
    have hne : p ≠ s.heap.objs.size := Nat.ne_of_lt hlt
    have W := Walks.tuple (prog := prog) (w := w) hh s.heap.objs.size p hne vs.toArray
    rw [show vs.toArray.size = ds'.length by simp [l1]] at W
    refine wpAny_pyIter_tuple hp ⟨_, p, rfl, rfl, keeps_push s _ s.toks, _, _, W, ?_, ?_, size_none _, fun b o e => Heap.get?_push_of_some _ e, ?_, ?_, ?_⟩
    · exact ⟨⟨_, Heap.get?_push_size _ rfl, rfl, rfl⟩, IsTuple_keep hp fun b o e => Heap.get?_push_of_some _ e⟩
    · intro b hb
      rw [Heap.size_push]
      rcases List.mem_cons.mp hb with rfl | hb
      · exact Nat.lt_succ_self _
      · rw [List.mem_singleton.mp hb]; exact Nat.lt_succ_of_lt hlt
    · intro i v hv
      exact hvs.get' (by simpa using hv)
    · rintro i h ⟨⟨o, ho, _, hd⟩, _⟩
      exact ⟨o, ho, _, hd⟩
    · rintro i h ⟨⟨o, ho, hc, hd⟩, _⟩
      exact ⟨o, _, _, ho, hc, hd, by decide⟩
  · rename_i p vs ds' hp hvs hl
    subst hi
    have l1 := hvs.length
    obtain ⟨o, ho, _⟩ := hp.isList
    have hlt := Heap.lt_size ho
    have hne : p ≠ s.heap.objs.size := Nat.ne_of_lt hlt
    have W := Walks.list (prog := prog) (w := w) hh s.heap.objs.size p hne vs.toArray
    rw [show vs.toArray.size = ds'.length by simp [l1]] at W
    refine wpAny_pyIter_list hp.isList ⟨_, p, rfl, rfl, keeps_push s _ s.toks, _, _, W, ?_, ?_, size_none _, fun b o e => Heap.get?_push_of_some _ e, ?_, ?_, ?_⟩
    · exact ⟨⟨_, Heap.get?_push_size _ rfl, rfl, rfl⟩, IsList_keep hp.isList fun b o e => Heap.get?_push_of_some _ e⟩
    · intro b hb
      rw [Heap.size_push]
      rcases List.mem_cons.mp hb with rfl | hb
      · exact Nat.lt_succ_self _
      · rw [List.mem_singleton.mp hb]; exact Nat.lt_succ_of_lt hlt
    · intro i v hv
      exact hvs.get' (by simpa using hv)
    · rintro i h ⟨⟨o, ho, _, hd⟩, _⟩
      exact ⟨o, ho, _, hd⟩
    · rintro i h ⟨⟨o, ho, hc, hd⟩, _⟩
      exact ⟨o, _, _, ho, hc, hd, by decide⟩

theorem iter_range {r : Addr} {a b : Int} {t u v : Tok} (hh : A.handled = none) (hr : IsRange s.heap r a b 1 t u v) (h1 : -lim ≤ a ∧ a ≤ lim) (h2 : -lim ≤ b ∧ b ≤ lim) :
    wpAny (model prog w) A (pyIter (.ref r)) (fun it s₂ => ∃ I, it = .ref I ∧ Keeps s s₂ ∧ Wk prog w A s.heap s₂ I [I] (rangeD a b)) E s := by
  have hlen : ((rangeD a b).length : Int) = Builtin.Range.rangeSize a b 1 := by
    rw [rangeSize_one]
    simp only [rangeD, List.length_map, List.length_range]
    split <;> (first | lia | omega)
  have hlim : (lim : Int) < 2 ^ 62 := by decide +kernel
  have W := (Walks.range (prog := prog) (w := w) hh s.heap.objs.size a 1 (rangeD a b).length).bound
  refine wpAny_pyIter_range hr (small_one (by (first | lia | omega)) (by (first | lia | omega)) (by (first | lia | omega)) (by (first | lia | omega))) ⟨_, rfl, keeps_push s _ s.toks, _, _, W, ?_, ?_, size_none _, fun b o e => Heap.get?_push_of_some _ e, ?_, ?_, ?_⟩
  · show IsRangeIter _ _ _ _ _
    rw [← hlen]
    simpa using Heap.get?_push_size s.heap (o := { cls := .type "range_iterator", data := .fields #[rawInt a, rawInt ((rangeD a b).length : Int), rawInt 1] }) rfl
  · intro b hb
    rw [List.mem_singleton.mp hb, Heap.size_push]; exact Nat.lt_succ_self _
  · rintro i v ⟨hi, t, rfl⟩
    exact ⟨_, rangeD_get hi, by rw [Int.mul_one]; exact .int _ _⟩
  · intro i h hst
    exact ⟨_, hst, _, rfl⟩
  · intro i h hst
    exact ⟨_, _, _, hst, rfl, rfl, by decide⟩
end

/-- the closure that a comprehension draws -/
noncomputable def clList (names : List (Str × NameKind)) (cells : List (Str × Addr)) (acc : List (Str × Addr)) : List (Str × Addr) :=
  match names with
  | [] => acc
  | (n, k) :: r => clList r cells (if k == .free then (match cells.lookup n with | some c => (n, c) :: acc | none => acc) else acc)

theorem closure_go {env : Env} (f : Str × NameKind → List (Str × Addr) → Sem (ForInStep (List (Str × Addr))))
    (hf : ∀ n k cs, f (n, k) cs = if k == .free then (do let c ← cellOf env n; pure (.yield ((n, c) :: cs))) else pure (.yield cs)) :
    ∀ (names : List (Str × NameKind)) (acc : List (Str × Addr)), (∀ y ∈ names, y.2 = .free → (env.cells.lookup y.1).isSome = true) → forIn names acc f = pure (clList names env.cells acc)
  | [], acc, _ => rfl
  | (n, k) :: r, acc, h => by
    rw [List.forIn_cons, hf]
    unfold clList
    by_cases hk : (k == NameKind.free) = true
    · obtain ⟨c, hc⟩ := Option.isSome_iff_exists.mp (h (n, k) (.head _) (by simpa using hk))
      have hc' : cellOf env n = pure c := by unfold cellOf; rw [show env.cells.lookup n = some c from hc]
      rw [if_pos hk, if_pos hk, hc', show env.cells.lookup n = some c from hc]
      simp only [pure_bind]
      exact closure_go f hf r _ fun y hy => h y (.tail _ hy)
    · rw [if_neg hk, if_neg hk]
      simp only [pure_bind]
      exact closure_go f hf r _ fun y hy => h y (.tail _ hy)
theorem closure_eq {scope : Scope} {env : Env} (h : ∀ y ∈ scope.names, y.2 = .free → (env.cells.lookup y.1).isSome = true) : closureFor scope env = pure (clList scope.names env.cells []) := by
  unfold closureFor
  have := closure_go (env := env) (fun x cs => if x.2 == .free then (do let c ← cellOf env x.1; pure (.yield ((x.1, c) :: cs))) else pure (.yield cs)) (fun _ _ _ => rfl) scope.names [] h
  simp only [bind_pure]
  exact this

end Mine

namespace Mine
open PySem PySem.Calls PyProof.Rows PySem.SeqAt

/-! walking a dict's keys, whatever they are -/
noncomputable def RawAt (h : Heap) (d : Addr) (es : Array DictEntry) (ep : Nat) : Prop := ∃ o, h.get? d = some o ∧ o.ExactDict ∧ o.data = .dict es ep
theorem RawAt.at {h h' : Heap} {d : Addr} {es : Array DictEntry} {ep : Nat} (x : RawAt h d es ep) (e : ∀ o, h.get? d = some o → h'.get? d = some o) : RawAt h' d es ep := let ⟨o, ho, r⟩ := x; ⟨o, e _ ho, r⟩

section
variable {prog : Program} {w : World} {A : Around} {E : Value → Shared → Prop} {s : Shared}

theorem RawAt.typeIs {d : Addr} {es : Array DictEntry} {ep : Nat} (x : RawAt s.heap d es ep) : s.TypeIs (.ref d) "dict" := let ⟨o, ho, hc, _⟩ := x; ⟨o, ho, hc.1⟩

theorem raw_iter {d : Addr} {es : Array DictEntry} {ep : Nat} {Q : Value → Shared → Prop} (hd : (d == sysModules) = false) (hm : RawAt s.heap d es ep)
    (hQ : Q (.ref s.heap.objs.size) { s with heap := s.heap.push { cls := .type "dict_keyiterator", data := .fields #[.ref d, .int 0 0, .int es.size 0, .int ep 0] } }) :
    wpAny (model prog w) A (pyIter (.ref d)) Q E s := by
  have hT := hm.typeIs
  obtain ⟨o, ho, hc, hdat⟩ := id hm
  refine wpAny_pyIter_slot hT F.slot_dict_iter (wpAny_call_entry F.slot_dict_iter hT F.entry_dict_iter ?_ (F.args_dict_iter_1 _))
  unfold Builtin.«dict.__iter__»
  refine wpAny_bind ?_
  unfold Builtin.Dict.dictSlotNone
  refine wpAny_bind (wpAny_notOrdered_dict hT ?_)
  show wpAny _ _ (pure (Value.ref d)) _ _ s
  refine wpAny_pure ?_
  show wpAny _ _ (Builtin.Dict.showsAll d >>= _) _ _ s
  unfold Builtin.Dict.showsAll
  rw [if_neg (by rw [hd]; exact Bool.false_ne_true)]
  refine wpAny_bind (wpAny_pure (wpAny_bind (wpAny_dictEntries ho hdat (wpAny_bind (wpAny_dictEpoch ho hdat ?_)))))
  exact wpAny_bind (wpAny_newObj_type (wpAny_pure ⟨_, rfl, "dict_keyiterator", _, ⟨_, Heap.get?_push_size _ rfl, rfl⟩, F.slot_dict_keyiterator_next.lookup, hQ⟩))

theorem raw_item {it d : Addr} {i ep : Nat} {es : Array DictEntry} {Q : Option Value → Shared → Prop} (hit : s.heap.IsKeyIter it d i es.size ep)
    (hm : RawAt s.heap d es ep) (hlt' : i < es.size)
    (hQ : ∀ h', h'.IsKeyIter it d (i + 1) es.size ep → Heap.SameBut it s.heap h' → Q (some es[i].key) { s with heap := h' }) :
    wpAny (model prog w) A (pyNext (.ref it)) Q E s := by
  obtain ⟨o, ho, hc, hd⟩ := id hit
  obtain ⟨od, hod, hcd, hdd⟩ := id hm
  unfold pyNext
  refine wpAny_bind (wpAny_attempt (wpAny_callSpecial?_slot (name := Str.ofString "__next__") hit.typeIs F.slot_dict_keyiterator_next
    (wpAny_call_entry F.slot_dict_keyiterator_next hit.typeIs F.entry_dict_keyiterator_next ?_ (F.args_dict_keyiterator_next_1 _))))
  refine wpAny_bind (wpAny_pure (wpAny_bind (wpAny_bind ?_)))
  first | refine wpAny_bind (wpAny_typeNameOfWhole_keyiter hit.typeIs (wpAny_pure ?_)) | refine wpAny_bind (wpAny_typeNameOf_keyiter hit.typeIs (wpAny_pure ?_))
  refine wpAny_bind (wpAny_fieldsOf ho hd ?_)
  have hown : Builtin.Dict_items.ownsTuple "dict_keyiterator" = false := by decide
  simp only [hown, Bool.false_eq_true, if_false]
  show wpAny _ _ (if (Value.ref d == Value.none) = true then _ else _) _ _ s
  rw [if_neg (show ¬ ((Value.ref d == Value.none) = true) from Bool.false_ne_true)]
  refine wpAny_bind (wpAny_pure (wpAny_bind (wpAny_dictEntries hod hdd ?_)))
  rw [if_neg (by simp)]
  refine wpAny_bind (wpAny_pure (wpAny_bind (wpAny_dictEpoch hod hdd ?_)))
  rw [if_neg (by simp)]
  refine wpAny_pure ?_
  simp only [show ¬ ((i : Int) < 0) from by (first | lia | omega), if_false, Int.toNat_natCast, Array.getElem?_eq_getElem hlt']
  refine wpAny_bind ?_
  first | refine wpAny_bind (wpAny_typeNameOfWhole_keyiter hit.typeIs (wpAny_pure ?_)) | refine wpAny_bind (wpAny_typeNameOf_keyiter hit.typeIs (wpAny_pure ?_))
  refine wpAny_bind (wpAny_isOneOf_keyiter hit.typeIs ?_)
  show wpAny _ _ (setField (.ref it) 1 (rawInt ((i : Int) + 1)) >>= _) _ _ s
  refine wpAny_bind (wpAny_setField ho hd (by simp) ?_)
  have hit' : (s.heap.update it (Obj.mapFields (·.setIfInBounds 1 (rawInt ((i : Int) + 1))))).IsKeyIter it d (i + 1) es.size ep :=
    ⟨_, Heap.get?_update_self _ ho (Obj.isFreed_of_fields (Obj.data_mapFields hd _)), (Obj.cls_mapFields ..).trans hc, by rw [Obj.data_mapFields hd]; simp [rawInt]⟩
  refine wpAny_bind (wpAny_holding ?_)
  refine wpAny_bind (wpAny_isOneOf_keyiter (s := { s with heap := s.heap.update it (Obj.mapFields (·.setIfInBounds 1 (rawInt ((i : Int) + 1)))) }) hit'.typeIs ?_)
  show wpAny _ _ (pure es[i].key) _ _ _
  exact wpAny_pure (wpAny_pure ⟨_, rfl, wpAny_pure (hQ _ hit' (Heap.SameBut.update ..))⟩)

theorem raw_end {it d : Addr} {ep : Nat} {es : Array DictEntry} {Q : Option Value → Shared → Prop} (hh : A.handled = none) (hit : s.heap.IsKeyIter it d es.size es.size ep)
    (hm : RawAt s.heap d es ep) (hQ : ∀ h', Heap.ExtBut it s.heap h' → Q none { s with heap := h' }) : wpAny (model prog w) A (pyNext (.ref it)) Q E s := by
  obtain ⟨o, ho, hc, hd⟩ := id hit
  obtain ⟨od, hod, hcd, hdd⟩ := id hm
  unfold pyNext
  refine wpAny_bind (wpAny_attempt (wpAny_callSpecial?_slot (name := Str.ofString "__next__") hit.typeIs F.slot_dict_keyiterator_next
    (wpAny_call_entry F.slot_dict_keyiterator_next hit.typeIs F.entry_dict_keyiterator_next ?_ (F.args_dict_keyiterator_next_1 _))))
  refine wpAny_bind (wpAny_pure (wpAny_bind (wpAny_bind ?_)))
  first | refine wpAny_bind (wpAny_typeNameOfWhole_keyiter hit.typeIs (wpAny_pure ?_)) | refine wpAny_bind (wpAny_typeNameOf_keyiter hit.typeIs (wpAny_pure ?_))
  refine wpAny_bind (wpAny_fieldsOf ho hd ?_)
  have hown : Builtin.Dict_items.ownsTuple "dict_keyiterator" = false := by decide
  simp only [hown, Bool.false_eq_true, if_false]
  show wpAny _ _ (if (Value.ref d == Value.none) = true then _ else _) _ _ s
  rw [if_neg (show ¬ ((Value.ref d == Value.none) = true) from Bool.false_ne_true)]
  refine wpAny_bind (wpAny_pure (wpAny_bind (wpAny_dictEntries hod hdd ?_)))
  rw [if_neg (by simp)]
  refine wpAny_bind (wpAny_pure (wpAny_bind (wpAny_dictEpoch hod hdd ?_)))
  rw [if_neg (by simp)]
  refine wpAny_pure ?_
  simp only [show ¬ ((es.size : Int) < 0) from by (first | lia | omega), if_false, Int.toNat_natCast, Array.getElem?_eq_none (Nat.le_refl es.size)]
  refine wpAny_bind ?_
  first | refine wpAny_bind (wpAny_typeNameOfWhole_keyiter hit.typeIs (wpAny_pure ?_)) | refine wpAny_bind (wpAny_typeNameOf_keyiter hit.typeIs (wpAny_pure ?_))
  show wpAny _ _ (setField (.ref it) 0 .none >>= _) _ _ s
  refine wpAny_bind (wpAny_setField ho hd (by simp) ?_)
  show wpAny _ _ (newExc (.type "StopIteration") [] >>= _) _ _ _
  refine wpAny_bind ?_
  simp only [newExc, newTuple]
  refine wpAny_bind (wpAny_newObj_type ?_ (by size_fits))
  refine wpAny_bind (m := firstArgMember _ _) (wpAny_of_eq (a := Value.none) (by first | rfl | (simp only [firstArgMember]; rfl)) ?_)
  refine wpAny_newObj_type ?_ (by size_fits)
  simp only [raiseNew]
  refine wpAny_bind (wpAny_handled ?_)
  rw [show A.in1.handled = none from hh]
  refine wpAny_bind (wpAny_pure (wpAny_throw ?_))
  refine wpAny_bind (wpAny_isInstance (T := "StopIteration") (b := true) ⟨_, Heap.get?_push_size _ rfl, rfl⟩ isSubtype_stop ?_)
  exact wpAny_pure (hQ _ (((Heap.SameBut.update ..).extBut.push _).push _))

theorem raw_walks (hh : A.handled = none) (I d : Addr) (hne : d ≠ I) (es : Array DictEntry) (ep : Nat) :
    Walks prog w A I [I, d] [I] es.size (fun i v => ∃ e, es[i]? = some e ∧ v = e.key) (fun i h => h.IsKeyIter I d i es.size ep ∧ RawAt h d es ep) where
  sub := fun b hb => by simp at hb; simp [hb]
  frame := fun _ _ _ st hk => ⟨st.1.at fun o e => hk I (by simp) o e, st.2.at fun o e => hk d (by simp) o e⟩
  item := fun i s Q E hi st hQ => by
    refine raw_item st.1 st.2 hi fun h' hit' hs' => ?_
    exact hQ _ h' s.toks ⟨es[i], by simp [hi], rfl⟩ ⟨hit', st.2.at fun o e => hs'.extBut d o hne e⟩ fun b o hb e => hs'.extBut b o (fun h => hb (by simp [h])) e
  done := fun s Q E st hQ => raw_end hh st.1 st.2 fun h' he' => hQ h' s.toks fun b o hb e => he' b o (fun h => hb (by simp [h])) e
  self := fun _ _ _ _ st hQ => wpAny_pyIter_keyiter st.1 hQ

/-- the entries of a dict and its keys -/
theorem DRel.key {xs kvs} (r : DRel xs kvs) {i : Nat} {x : List KI × Addr × Value} (e : xs[i]? = some x) : ∃ p, kvs[i]? = some p ∧ x.1 = pk p.1 ∧ p.1.1.isSome = true := by
  induction r generalizing i with
  | nil => simp at e
  | cons h1 _ _ _ ih =>
    cases i with
    | zero => simp at e; subst e; exact ⟨_, rfl, rfl, h1⟩
    | succ i => simp at e; simpa using ih e
theorem IRel.key {xs kvs} (r : IRel xs kvs) {i : Nat} {x : Int × Value} (e : xs[i]? = some x) : ∃ p, kvs[i]? = some p ∧ p.1 = (none, x.1) := by
  induction r generalizing i with
  | nil => simp at e
  | cons _ _ _ ih =>
    cases i with
    | zero => simp at e; subst e; exact ⟨_, rfl, rfl⟩
    | succ i => simp at e; simpa using ih e
theorem pk_V {h : Heap} {k : Ky} {b : Addr} (hk : k.1.isSome = true) (x : (pairKind prog w).is h (pk k) b) : V h (.ref b) (kyD k) := by
  obtain ⟨a, i⟩ := k
  cases a with
  | none => cases hk
  | some a =>
    obtain ⟨o, items, n, h1, h2, h3, h4⟩ := x
    obtain ⟨items⟩ := items
    cases h4 with
    | cons q1 h4 =>
      cases h4 with
      | cons q2 h4 =>
        cases h4
        rcases mix_cases (k := .inl a) q1 with ⟨y, t, e1, rfl⟩ | ⟨j, t, e1, rfl⟩
        · rcases mix_cases (k := .inr i) q2 with ⟨y', t', e2, rfl⟩ | ⟨j, t', e2, rfl⟩
          · cases e2
          · cases e1; cases e2
            exact .tup (vs := [_, _]) ⟨o, h1, h2, n, h3⟩ (.cons (.str _ _) (.cons (.int _ _) .nil)) (show 2 ≤ lim by decide)
        · cases e1
/-- a dict's entries, raw -/
theorem DicAt.raw {h : Heap} {a : Addr} {kvs : List (Ky × D)} (x : DicAt prog w h a kvs) : ∃ es ep, RawAt h a es ep ∧ es.size = kvs.length ∧ ∀ (i : Nat) (e : DictEntry), es[i]? = some e → ∃ d, (kvs.map fun p => kyD p.1)[i]? = some d ∧ V h e.key d := by
  obtain ⟨h0, ⟨xs, ⟨o, es, ep, h1, h2, h3, h4, h5, h6⟩, r⟩ | ⟨xs, ⟨o, es, ep, h1, h2, h3, h4, h5, h6⟩, r⟩⟩ := x
  · refine ⟨es, ep, ⟨o, h1, h2, h3⟩, by rw [← Array.length_toList, h4, List.length_map, r.len], fun i e he => ?_⟩
    rw [← Array.getElem?_toList, h4, List.getElem?_map] at he
    obtain ⟨x, hx, rfl⟩ := Option.map_eq_some_iff.mp he
    obtain ⟨p, hp, e1, e2⟩ := r.key hx
    refine ⟨kyD p.1, by rw [List.getElem?_map, hp]; rfl, ?_⟩
    have := h5 x (List.mem_of_getElem? hx)
    rw [e1] at this
    exact pk_V e2 this
  · refine ⟨es, ep, ⟨o, h1, h2, h3⟩, by rw [← Array.length_toList, h5.length, r.len], fun i e he => ?_⟩
    rw [← Array.getElem?_toList] at he
    have hlt : i < xs.length := by rw [← h5.length]; exact (List.getElem?_eq_some_iff.mp he).1
    have hx : xs[i]? = some (xs[i].1, xs[i].2) := List.getElem?_eq_getElem hlt
    obtain ⟨q, _⟩ := h5.get? he hx
    obtain ⟨p, hp, e1⟩ := r.key hx
    refine ⟨kyD p.1, by rw [List.getElem?_map, hp]; rfl, ?_⟩
    obtain ⟨t, ht⟩ := Value.isInt_shape q
    rw [ht, e1]
    exact .int _ _

/-- a dict's keys are walked -/
theorem iter_keys {a : Addr} {kvs : List (Ky × D)} (hh : A.handled = none) (x : DicAt prog w s.heap a kvs) :
    wpAny (model prog w) A (pyIter (.ref a)) (fun it s₂ => ∃ I, it = .ref I ∧ Keeps s s₂ ∧ Wk prog w A s.heap s₂ I [I, a] (kvs.map fun p => kyD p.1)) E s := by
  obtain ⟨es, ep, hr, hl, hk⟩ := x.raw
  have hlt : a < s.heap.objs.size := let ⟨o, ho, _⟩ := hr; Heap.lt_size ho
  have W := raw_walks (prog := prog) (w := w) hh s.heap.objs.size a (Nat.ne_of_lt hlt) es ep
  rw [show es.size = (kvs.map fun p => kyD p.1).length by rw [List.length_map, hl]] at W
  refine raw_iter x.1 hr ⟨_, rfl, keeps_push s _ s.toks, _, _, W, ?_, ?_, size_none _, fun b o e => Heap.get?_push_of_some _ e, ?_, ?_, ?_⟩
  · refine ⟨⟨_, Heap.get?_push_size _ rfl, rfl, ?_⟩, hr.at fun o e => Heap.get?_push_of_some _ e⟩
    rw [List.length_map, hl]; rfl
  · intro b hb
    rw [Heap.size_push]
    rcases List.mem_cons.mp hb with rfl | hb
    · exact Nat.lt_succ_self _
    · rw [List.mem_singleton.mp hb]; exact Nat.lt_succ_of_lt hlt
  · rintro i v ⟨e, he, rfl⟩
    exact hk i e he
  · rintro i h ⟨⟨o, ho, _, hd⟩, _⟩
    exact ⟨o, ho, _, hd⟩
  · rintro i h ⟨⟨o, ho, hc, hd⟩, _⟩
    exact ⟨o, _, _, ho, hc, hd, by decide⟩
end
end Mine

namespace Mine
open PySem PySem.Calls PyProof.Rows PySem.SeqAt

section
variable {prog : Program} {w : World} {A : Around} {E : Value → Shared → Prop} {s : Shared}

theorem ints_of {ns : List Int} : ∀ {vs : List Value}, vs.length = ns.length → (∀ (j : Nat) v, vs[j]? = some v → ∃ k t, ns[j]? = some k ∧ v = .int k t) → IntsAre vs ns := by
  induction ns with
  | nil => intro vs hl _; cases vs with | nil => exact .nil | cons => simp at hl
  | cons n ns ih =>
    intro vs hl h
    cases vs with
    | nil => simp at hl
    | cons v vs =>
      obtain ⟨k, t, e, rfl⟩ := h 0 v rfl
      simp at e; subst e
      exact .cons _ _ (ih (by simpa using hl) fun j v hv => h (j + 1) v (by simpa using hv))

/-- a dict's int keys, collected -/
theorem collect_keys {b : Addr} {xs : List (Int × Value)} {Q : List Value → Shared → Prop} (hh : A.handled = none) (h0 : (b == sysModules) = false) (hD : s.heap.DictOf (PySem.intKind prog w) b xs) (hl : xs.length ≤ sizeLine)
    (hQ : ∀ vs h1 tk1, IntsAre vs (xs.map (·.1)) → (∀ b o, s.heap.get? b = some o → h1.get? b = some o) → Q vs { s with heap := h1, toks := tk1 }) : wpAny (model prog w) A (collect (.ref b)) Q E s := by
  obtain ⟨ep, hm⟩ := hD.dictAt
  have hlt := hm.lt_size
  unfold collect
  refine wpAny_bind (wpAny_runValue (codeAny_builtin entry_proto_collect' ?_))
  show wpAny _ _ (do again (.builtin "list.__iadd__" ⟨[← newList [], .ref b], []⟩)) _ _ s
  refine wpAny_bind (wpAny_newList (wpAny_pure ⟨Code.quiet_builtin _ (by decide +kernel), codeAny_builtin entry_list_iadd' ?_⟩))
  show wpAny _ A.in1 (Builtin.List.listExtendWith (.ref s.heap.objs.size) (.ref b) (.ref s.heap.objs.size)) _ _ _
  refine PySem.W.kdl_extend (R := fun r s' => match r with
    | .ok (.ret v) => wpAny (model prog w) A (match v with
      | .ref a => do
        let o ← load a
        match o.data with
        | .seq xs _ => pure xs.toList
        | _ => unsupported "internal:collect"
      | _ => unsupported "internal:collect") Q E s'
    | .ok _ => False
    | .error e => E e s') (s := { s with heap := s.heap.push { cls := .type "list", data := .seq #[] } }) (PySem.W.kdl_dict h0) hh (Heap.DictAt.push hm _) s.heap.objs.size (Nat.ne_of_gt hlt) (Nat.ne_of_gt hlt) (.ref s.heap.objs.size) 0 (Heap.get?_push_size _ rfl) (fun h' tk acc c hk hS hacc => ?_) hl
  show wpAny (model prog w) A (do
      let o ← load s.heap.objs.size
      match o.data with
      | .seq xs _ => pure xs.toList
      | _ => unsupported "internal:collect") Q E { s with heap := h', toks := tk }
  refine wpAny_bind (wpAny_load hS (wpAny_pure (hQ _ h' tk (ints_of ?_ fun j v hv => ?_) fun b o e => hk b o (Nat.ne_of_lt (Heap.lt_size e)) (Heap.get?_push_of_some _ e))))
  · rw [Array.length_toList, List.length_map]; exact hacc.1
  · obtain ⟨k, x, h1, h2⟩ := hacc.2 j v (by rw [← Array.getElem?_toList]; exact hv)
    obtain ⟨t, rfl⟩ := Value.isInt_shape h2
    exact ⟨k, t, by rw [List.getElem?_map, h1]; rfl, rfl⟩

theorem intsOf_map : ∀ {ds : List D} {ns : List Int}, intsOf ds = some ns → ds = ns.map .int
  | [], ns, h => by cases h; rfl
  | d :: ds, ns, h => by
    replace h := ob h
    obtain ⟨n, hn, h⟩ := h
    replace h := om h
    obtain ⟨r, hr, rfl⟩ := h
    rw [intOf_some hn, intsOf_map hr]; rfl
theorem Vs.intsAre {h : Heap} : ∀ {ns : List Int} {vs : List Value}, Vs h vs (ns.map .int) → IntsAre vs ns
  | [], vs, x => by cases x; exact .nil
  | n :: ns, vs, x => by
    cases x with
    | cons a b =>
      obtain ⟨t, rfl⟩ := a.int_inv
      exact .cons _ _ b.intsAre
theorem ints_vs {h : Heap} {vs : List Value} {ns : List Int} (x : IntsAre vs ns) : Vs h vs (ns.map .int) := by
  induction x with
  | nil => exact .nil
  | cons n t _ ih => exact .cons (.int _ _) ih

/-! sorting is what it should be -/
theorem insI_perm (n : Int) : ∀ l, (insI n l).Perm (n :: l)
  | [] => .refl _
  | m :: r => by
    unfold insI
    split
    · exact .refl _
    · exact ((insI_perm n r).cons m).trans (.swap n m r)
theorem isort_perm : ∀ l, (isort l).Perm l
  | [] => .refl _
  | n :: r => (insI_perm n _).trans ((isort_perm r).cons n)
theorem insI_sorted (n : Int) : ∀ l, l.Pairwise (· ≤ ·) → (insI n l).Pairwise (· ≤ ·)
  | [], _ => by simp [insI]
  | m :: r, h => by
    unfold insI
    have hc := List.pairwise_cons.mp h
    split
    · rename_i hle
      refine List.pairwise_cons.mpr ⟨fun x hx => ?_, h⟩
      rcases List.mem_cons.mp hx with rfl | hx
      · exact hle
      · exact Int.le_trans hle (hc.1 x hx)
    · rename_i hle
      refine List.pairwise_cons.mpr ⟨fun x hx => ?_, insI_sorted n r hc.2⟩
      rcases List.mem_cons.mp ((insI_perm n r).mem_iff.mp hx) with rfl | hx
      · (first | lia | omega)
      · exact hc.1 x hx
theorem isort_sorted : ∀ l, (isort l).Pairwise (· ≤ ·)
  | [] => .nil
  | n :: r => insI_sorted n _ (isort_sorted r)
theorem sorted_unique : ∀ {a b : List Int}, a.Perm b → a.Pairwise (· ≤ ·) → b.Pairwise (· ≤ ·) → a = b
  | [], b, p, _, _ => (List.nil_perm.mp p).symm
  | x :: a, [], p, _, _ => by have := p.length_eq; simp at this
  | x :: a, y :: b, p, ha, hb => by
    have ca := List.pairwise_cons.mp ha
    have cb := List.pairwise_cons.mp hb
    have e : x = y := by
      have h1 : y ≤ x := by
        rcases List.mem_cons.mp (p.mem_iff.mp (.head _)) with h | h
        · (first | lia | omega)
        · exact cb.1 x h
      have h2 : x ≤ y := by
        rcases List.mem_cons.mp (p.mem_iff.mpr (.head _)) with h | h
        · (first | lia | omega)
        · exact ca.1 y h
      (first | lia | omega)
    subst e
    rw [sorted_unique (List.perm_cons x |>.mp p) ca.2 cb.2]

/-- what a sorted list of ints is made of -/
abbrev Fresh (s : Shared) (ds : List D) : Value → Shared → Prop := fun v s₂ => ∃ a vs, v = .ref a ∧ Keeps s s₂ ∧ s.heap.get? a = none ∧ s₂.heap.PlainList a (List.toArray vs) ∧ Vs s₂.heap vs ds ∧ ds.length ≤ lim
theorem Fresh.post {s : Shared} {ds : List D} {v : Value} {s₂ : Shared} (x : Fresh s ds v s₂) : Post s (.lst ds) v s₂ := by
  obtain ⟨a, vs, rfl, K, _, hp, hv, hl⟩ := x
  exact ⟨K, .lst hp hv hl⟩
theorem sortD_parts {ds : List D} {d : D} (h : sortD ds = some d) : ∃ ns, ds = ns.map .int ∧ SortOk ns ∧ d = .lst ((isort ns).map .int) := by
  replace h := ob h
  obtain ⟨ns, h1, h⟩ := h
  obtain ⟨h2, rfl⟩ := oi h
  exact ⟨ns, intsOf_map h1, h2, rfl⟩

theorem sorted_fresh {v : Value} {ns : List Int} (hok : SortOk ns) (hlen : ns.length ≤ lim)
    (hc : ∀ {Q' : List Value → Shared → Prop}, (∀ vs h1 tk1, IntsAre vs ns → (∀ b o, s.heap.get? b = some o → h1.get? b = some o) → Q' vs { s with heap := h1, toks := tk1 }) → wpAny (model prog w) A.in1 (collect v) Q' E s) :
    wpAny (model prog w) A (call (.builtin "sorted") [v]) (Fresh s ((isort ns).map .int)) E s := by
  refine sorted_col hok (Nat.le_trans hlen lim_line) hc fun out ns' l h' tk hI hp hs keep hn hm => ?_
  have e : ns' = isort ns := sorted_unique (hp.trans (isort_perm ns).symm) hs (isort_sorted ns)
  subst e
  obtain ⟨m, hm⟩ := hm
  refine ⟨l, out.toList, rfl, ⟨h', tk, rfl, keep⟩, hn, ⟨m, ?_⟩, ints_vs hI, ?_⟩
  · rw [Array.toArray_toList]; exact hm
  · rw [List.length_map, (isort_perm ns).length_eq]; exact hlen

theorem sort_list {v : Value} {ds : List D} {d : D} (hV : V s.heap v (.lst ds)) (hd : sortD ds = some d) : ∃ rs, d = .lst rs ∧ wpAny (model prog w) A (call (.builtin "sorted") [v]) (Fresh s rs) E s := by
  obtain ⟨ns, rfl, hok, rfl⟩ := sortD_parts hd
  refine ⟨_, rfl, ?_⟩
  cases hV with
  | lst hp hv hl =>
    rename_i p vs
    rw [List.length_map] at hl
    refine sorted_fresh hok hl fun h => collect_list hp.isList (h vs _ s.toks hv.intsAre fun b o e => ?_) (by rw [hv.length, List.length_map]; exact Nat.le_trans hl lim_line)
    rw [Heap.get?_update_ne _ _ _ _ (Nat.ne_of_lt (Heap.lt_size e))]
    exact Heap.get?_push_of_some _ e
theorem sort_keys {b : Addr} {kvs : List (Ky × D)} {d : D} (hh : A.handled = none) (hD : DicAt prog w s.heap b kvs) (hl : kvs.length ≤ lim) (hd : sortD (kvs.map fun p => kyD p.1) = some d) : ∃ rs, d = .lst rs ∧ wpAny (model prog w) A (call (.builtin "sorted") [.ref b]) (Fresh s rs) E s := by
  obtain ⟨ns, hns, hok, rfl⟩ := sortD_parts hd
  refine ⟨_, rfl, ?_⟩
  have hint : ∀ y ∈ kvs, y.1.1.isSome = false := by
    intro y hy
    have := List.mem_map_of_mem (f := fun p : Ky × D => kyD p.1) hy
    rw [hns] at this
    obtain ⟨n, _, e⟩ := List.mem_map.mp this
    obtain ⟨⟨a, i⟩, dd⟩ := y
    cases a with
    | none => rfl
    | some a => cases e
  obtain ⟨h0, xs, hx, r⟩ := hD.ints hint
  have hxs : xs.map (·.1) = ns := by
    have key : ∀ {xs kvs} {ns : List Int}, IRel xs kvs → kvs.map (fun p => kyD p.1) = ns.map D.int → xs.map (·.1) = ns := by
      intro xs kvs ns r
      induction r generalizing ns with
      | nil => intro h; cases ns with | nil => rfl | cons => simp at h
      | cons _ _ _ ih =>
        intro h
        cases ns with
        | nil => simp at h
        | cons n ns =>
          rw [List.map_cons, List.map_cons, List.cons.injEq] at h
          have h1 : D.int _ = D.int n := h.1
          cases h1
          rw [List.map_cons, ih h.2]
    exact key r hns
  have ln : ns.length ≤ lim := by rw [← hxs, List.length_map, r.len]; exact hl
  exact sorted_fresh hok ln fun h => collect_keys hh h0 hx (by rw [r.len]; exact Nat.le_trans hl lim_line) (by rw [hxs]; exact h)
end
end Mine

namespace Mine
open PySem PySem.Calls PyProof.Rows PySem.SeqAt

theorem compO_drop {α β : Type} {c : α → Option Bool} {f : α → Option β} {as : List α} {i : Nat} {a : α} (h : as[i]? = some a) : compO c f (as.drop i) = (c a).bind fun p => if p = true then (f a).bind fun b => (compO c f (as.drop (i + 1))).map fun bs => b :: bs else compO c f (as.drop (i + 1)) := by
  obtain ⟨hi, rfl⟩ := List.getElem?_eq_some_iff.mp h
  rw [List.drop_eq_getElem_cons hi]; rfl

/-- tuples stay where only what is no tuple was changed -/
theorem tup_keep {H h' : Heap} (bad : List Addr) (hk : ∀ b o, b ∉ bad → H.get? b = some o → h'.get? b = some o) (hb : ∀ b ∈ bad, ∀ o, H.get? b = some o → o.cls ≠ .type "tuple" ∨ ∀ xs n, o.data ≠ .seq xs n) :
    ∀ a items, H.IsTuple a items → h'.IsTuple a items := by
  rintro a items ⟨o, ho, hc, n, hd⟩
  refine ⟨o, hk a o (fun q => ?_) ho, hc, n, hd⟩
  rcases hb a q o ho with e | e
  · exact e hc
  · exact e _ _ hd

theorem compO_len {α β : Type} {c : α → Option Bool} {f : α → Option β} : ∀ {as : List α} {bs : List β}, compO c f as = some bs → bs.length ≤ as.length
  | [], bs, h => by cases h; exact Nat.le_refl _
  | a :: as, bs, h => by
    replace h := ob h
    obtain ⟨p, _, h⟩ := h
    cases p with
    | true =>
      rw [if_pos rfl] at h
      replace h := ob h
      obtain ⟨b, _, h⟩ := h
      obtain ⟨bs', hbs, rfl⟩ := om h
      have := compO_len hbs
      simp only [List.length_cons]; (first | lia | omega)
    | false =>
      have := compO_len h
      simp only [List.length_cons]; (first | lia | omega)

theorem bad0 {H : Heap} {I : Addr} (hI : ∃ o, H.get? I = some o ∧ ∃ fs, o.data = .fields fs) : ∀ b ∈ [I], ∀ o, H.get? b = some o → o.cls ≠ .type "tuple" ∨ ∀ xs n, o.data ≠ .seq xs n := by
  intro b hb o ho
  rw [List.mem_singleton.mp hb] at ho
  obtain ⟨o', ho', fs, hd⟩ := hI
  rw [ho] at ho'; cases ho'
  exact .inr fun xs n q => by rw [hd] at q; cases q
theorem bad1 {H : Heap} {D : Addr} {xs : Array Value} (hD : H.PlainList D xs) : ∀ b ∈ [D], ∀ o, H.get? b = some o → o.cls ≠ .type "tuple" ∨ ∀ xs n, o.data ≠ .seq xs n := by
  intro b hb o ho
  rw [List.mem_singleton.mp hb] at ho
  obtain ⟨n, hD⟩ := hD
  rw [ho] at hD; cases hD
  exact .inl (by simp)
theorem badNs {H : Heap} {C : Addr} {m : Str → Option Value} (hC : H.Ns C m) : ∀ o, H.get? C = some o → o.cls ≠ .type "tuple" ∨ ∀ xs n, o.data ≠ .seq xs n := by
  intro o ho
  obtain ⟨o', es, ep, ho', hd, _⟩ := hC
  rw [ho] at ho'; cases ho'
  exact .inr fun xs n q => by rw [hd] at q; cases q
theorem bad2 {H : Heap} {C I : Addr} {m : Str → Option Value} (hC : H.Ns C m) (hI : ∃ o, H.get? I = some o ∧ ∃ fs, o.data = .fields fs) : ∀ b ∈ [C, I], ∀ o, H.get? b = some o → o.cls ≠ .type "tuple" ∨ ∀ xs n, o.data ≠ .seq xs n := by
  intro b hb o ho
  rcases List.mem_cons.mp hb with rfl | hb
  · exact badNs hC o ho
  · exact bad0 hI b hb o ho

section
variable {prog : Program} {w : World} {A : Around} {E : Value → Shared → Prop} {env : Env}

/-- the loop of a comprehension -/
theorem compLoop_ok {elt iter : Expr} {x : Str} {px : Pos} {ifs : List Expr} {scope : Scope} {pos : Pos} {I D : Addr} {fp : List Addr} {ds res : List Mine.D} {h₁ : Heap} {c : Mine.D → Option Bool} {f : Mine.D → Option Mine.D}
    {cenv : Env} {m : Str → Option Value} {s : Shared} {R : Result → Shared → Prop} {P : Nat → Value → Prop} {St : Nat → Heap → Prop}
    (W : Walks prog w A I fp [I] ds.length P St) (hst : St 0 s.heap) (hI : h₁.get? I = none) (hD1 : h₁.get? D = none) (hC1 : h₁.get? cenv.locals = none) (hk1 : ∀ b o, h₁.get? b = some o → s.heap.get? b = some o) (hP : ∀ i v, P i v → ∃ d, ds[i]? = some d ∧ V h₁ v d) (hSt : ∀ i h, St i h → ∃ o, h.get? I = some o ∧ ∃ fs, o.data = .fields fs)
    (hres : compO c f ds = some res) (hpure : Mine.D.pures res = true) (hdl : ds.length ≤ lim)
    (hx : cenv.kindOf x = some .local) (hp : (cenv.scope.kind == .class || (cenv.scope.kind == .module && cenv.locals != cenv.globals)) = false)
    (hDC : D ≠ cenv.locals) (hDf : D ∉ fp) (hCf : cenv.locals ∉ fp)
    (hacc : s.heap.PlainList D #[]) (hn : s.heap.Ns cenv.locals m)
    (htests : ∀ d v b s₂ m₂ E', V h₁ v d → s₂.heap.Ns cenv.locals m₂ → m₂ x = some v → (∀ b o, h₁.get? b = some o → s₂.heap.get? b = some o) → c d = some b →
      wpAny (model prog w) A (forIn ifs true fun c r => if r = true then do let ok ← isTrue c cenv (eval c cenv); pure (ForInStep.yield ok) else pure (ForInStep.yield r)) (fun ok s₃ => ok = b ∧ Keeps s₂ s₃) E' s₂)
    (helt : ∀ d v y s₂ m₂ E', V h₁ v d → s₂.heap.Ns cenv.locals m₂ → m₂ x = some v → (∀ b o, h₁.get? b = some o → s₂.heap.get? b = some o) → f d = some y → wpAny (model prog w) A (eval elt cenv) (Post s₂ y) E' s₂)
    (hR : ∀ h' tk m' ys, h'.Ns cenv.locals m' → h'.PlainList D (List.toArray ys) → Vs h' ys res → (∀ b o, b ≠ cenv.locals → b ≠ I → b ≠ D → s.heap.get? b = some o → h'.get? b = some o) → R (.ok .next) { s with heap := h', toks := tk }) :
    codeAny (model prog w) A (.compLoop (.ListComp elt [⟨.Name x px, iter, ifs, 0⟩] scope pos) 0 (.ref I) (.ref D) cenv) R s := by
  refine codeAny_compLoop_tests
    (fun k s' => ∃ h' tk m' ys acc rest i, s' = { s with heap := h', toks := tk } ∧ St i h' ∧ h'.PlainList D (List.toArray ys) ∧ h'.Ns cenv.locals m' ∧ Vs h' ys acc ∧ acc ++ rest = res ∧ compO c f (ds.drop i) = some rest ∧ i ≤ ds.length ∧ acc.length ≤ i ∧ k = ds.length + 1 - i ∧
      (∀ b o, b ≠ cenv.locals → b ≠ I → b ≠ D → s.heap.get? b = some o → h'.get? b = some o)) ?_ (ds.length + 1)
    ⟨s.heap, s.toks, m, [], [], res, 0, rfl, hst, hacc, hn, .nil, rfl, by simpa using hres, Nat.zero_le _, Nat.zero_le _, rfl, fun _ _ _ _ _ e => e⟩
  rintro k s' ⟨H, tk, m', ys, acc, rest, i, rfl, hst', hacc', hn', hvs, hcat, hrest, hi, hai, rfl, hk⟩
  have hpacc : Mine.D.pures acc = true := by
    rw [← hcat] at hpure
    simp only [Mine.D.pures, List.all_append, Bool.and_eq_true] at hpure
    exact hpure.1
  have hIfp : cenv.locals ≠ I := fun h => hCf (W.sub _ (by simp [h]))
  have hDI : D ≠ I := fun h => hDf (W.sub _ (by simp [h]))
  have kH : ∀ b o, h₁.get? b = some o → H.get? b = some o := fun b o e => hk b o (fun q => by rw [q, hC1] at e; cases e) (fun q => by rw [q, hI] at e; cases e) (fun q => by rw [q, hD1] at e; cases e) (hk1 b o e)
  by_cases hlt : i < ds.length
  · refine W.item i _ _ _ hlt hst' fun v h₂ tk₂ hPv hst₂ hk₂ => ?_
    have hk₂' : ∀ b o, b ≠ I → H.get? b = some o → h₂.get? b = some o := fun b o hb e => hk₂ b o (by simpa using hb) e
    obtain ⟨d, hd, hVd⟩ := hP i v hPv
    rw [compO_drop hd] at hrest
    refine wpAny_assign_Name (wpAny_storeName_local hx (hn'.at' fun o e => hk₂' _ o hIfp e) (fun h₃ hn₃ hs₃ => ?_) hp)
    have up : ∀ b o, b ≠ cenv.locals → b ≠ I → H.get? b = some o → h₃.get? b = some o := fun b o hb hbI e => hs₃.extBut b o hb (hk₂' b o hbI e)
    have k1 : ∀ b o, h₁.get? b = some o → h₃.get? b = some o := fun b o e => up b o (fun q => by rw [q, hC1] at e; cases e) (fun q => by rw [q, hI] at e; cases e) (kH b o e)
    have hst₃ : St (i + 1) h₃ := W.frame _ _ _ hst₂ fun b hb o e => hs₃.extBut b o (fun h => hCf (h ▸ hb)) e
    replace hrest := ob hrest
    obtain ⟨cb, hc, hrest⟩ := hrest
    · 
      refine wpAny_mono (htests d v cb _ _ _ hVd hn₃ (by simp) k1 hc) (fun ok s₄ h₄ => ?_) fun _ _ e => e
      obtain ⟨rfl, h₄, tk₄, rfl, hk₄⟩ := h₄
      have hacc₄ : h₄.PlainList D (List.toArray ys) := hacc'.at fun o e => hk₄ _ o (up D o hDC hDI e)
      have hn₄ := hn₃.keeps hk₄
      have hst₄ : St (i + 1) h₄ := W.frame _ _ _ hst₃ fun b _ o e => hk₄ b o e
      have kk : ∀ b o, b ≠ cenv.locals → b ≠ I → b ≠ D → s.heap.get? b = some o → h₄.get? b = some o := fun b o hb1 hb2 hb3 e => hk₄ b o (up b o hb1 hb2 (hk b o hb1 hb2 hb3 e))
      have tk4 : ∀ a items, H.IsTuple a items → h₄.IsTuple a items := tup_keep [cenv.locals, I] (fun b o hb e => by
        simp only [List.mem_cons, List.not_mem_nil, or_false, not_or] at hb
        exact hk₄ b o (up b o hb.1 hb.2 e)) (bad2 hn' (hSt _ _ hst'))
      have hvs₄ : Vs h₄ ys acc := hvs.pureKeep tk4 (hpacc)
      cases ok with
      | false =>
        simp only [Bool.false_eq_true, if_false]
        exact ⟨ds.length + 1 - (i + 1), by (first | lia | omega), h₄, tk₄, _, ys, acc, rest, i + 1, rfl, hst₄, hacc₄, hn₄, hvs₄, hcat, hrest, hlt, by (first | lia | omega), rfl, kk⟩
      | true =>
        simp only [if_true]
        rw [if_pos rfl] at hrest
        replace hrest := ob hrest
        obtain ⟨y, hy, hrest⟩ := hrest
        obtain ⟨bs, hbs, rfl⟩ := om hrest
        · 
          refine wpAny_mono (helt d v y _ _ _ hVd hn₄ (by simp) (fun b o e => hk₄ b o (k1 b o e)) hy) (fun yv s₅ h₅ => ?_) fun _ _ e => e
          obtain ⟨⟨h₅, tk₅, rfl, hk₅⟩, hVy⟩ := h₅
          have hlys := hvs.length
          have hacc₅ := hacc₄.at fun o e => hk₅ _ o e
          refine wpAny_list_append_plain (hsz := by simp only [List.size_toArray]; have := lim_line; (first | lia | omega)) hacc₅ fun h₆ hl₆ hs₆ => ?_
          have tk6 : ∀ a items, h₅.IsTuple a items → h₆.IsTuple a items := tup_keep [D] (fun b o hb e => by
            simp only [List.mem_cons, List.not_mem_nil, or_false] at hb
            exact hs₆.extBut b o hb e) (bad1 hacc₅)
          have hpy : y.pure = true ∧ Mine.D.pures acc = true := by
            rw [← hcat] at hpure
            simp only [Mine.D.pures, List.all_append, List.all_cons, Bool.and_eq_true] at hpure
            exact ⟨hpure.2.1, hpure.1⟩
          refine ⟨ds.length + 1 - (i + 1), by (first | lia | omega), h₆, tk₅, _, ys ++ [yv], acc ++ [y], bs, i + 1, rfl, ?_, by simpa using hl₆, (hn₄.keeps hk₅).sameBut hs₆ (Ne.symm hDC), ?_, by simpa using hcat, hbs, hlt, by simp only [List.length_append, List.length_singleton]; (first | lia | omega), rfl, fun b o hb1 hb2 hb3 e => hs₆.extBut b o hb3 (hk₅ b o (kk b o hb1 hb2 hb3 e))⟩
          · exact W.frame _ _ _ hst₄ fun b hb o e => hs₆.extBut b o (fun h => hDf (h ▸ hb)) (hk₅ b o e)
          · exact ((hvs₄.mono hk₅).pureKeep tk6 hpy.2).append (.one (hVy.pureKeep tk6 hpy.1))
  · have hin : i = ds.length := by (first | lia | omega)
    subst hin
    rw [List.drop_length] at hrest
    cases hrest
    rw [List.append_nil] at hcat
    subst hcat
    refine W.done _ _ _ hst' fun h₂ tk₂ hk₂ => ?_
    have hk₂' : ∀ b o, b ≠ I → H.get? b = some o → h₂.get? b = some o := fun b o hb e => hk₂ b o (by simpa using hb) e
    have tk2 : ∀ a items, H.IsTuple a items → h₂.IsTuple a items := tup_keep [I] (fun b o hb e => by
      simp only [List.mem_cons, List.not_mem_nil, or_false] at hb
      exact hk₂' b o hb e) (bad0 (hSt _ _ hst'))
    exact hR h₂ tk₂ m' ys (hn'.at' fun o e => hk₂' _ o hIfp e) (hacc'.at fun o e => hk₂' _ o hDI e) (hvs.pureKeep tk2 hpure) fun b o hb1 hb2 hb3 e => hk₂' b o hb2 (hk b o hb1 hb2 hb3 e)
end
end Mine

namespace Mine
open PySem PySem.Calls PyProof.Rows PySem.SeqAt

theorem clList_lookup {cells : List (Str × Addr)} {x : Str} {c : Addr} (hc : cells.lookup x = some c) : ∀ (names : List (Str × NameKind)) (acc : List (Str × Addr)), ((x, NameKind.free) ∈ names ∨ acc.lookup x = some c) → (∀ c', (x, c') ∈ acc → c' = c) → (clList names cells acc).lookup x = some c
  | [], acc, h, _ => by
    rcases h with h | h
    · cases h
    · exact h
  | (n, k) :: r, acc, h, ha => by
    unfold clList
    by_cases hk : (k == NameKind.free) = true
    · rw [if_pos hk]
      cases hn : cells.lookup n with
      | none =>
        refine clList_lookup hc r acc ?_ ha
        rcases h with h | h
        · rcases List.mem_cons.mp h with e | h
          · cases e; rw [hn] at hc; cases hc
          · exact .inl h
        · exact .inr h
      | some c' =>
        refine clList_lookup hc r _ ?_ ?_
        · by_cases hx : x = n
          · subst hx
            rw [hn] at hc; cases hc
            exact .inr (by simp)
          · rcases h with h | h
            · rcases List.mem_cons.mp h with e | h
              · cases e; exact absurd rfl hx
              · exact .inl h
            · exact .inr (by rw [List.lookup_cons, beq_eq_false_iff_ne.mpr hx]; exact h)
        · intro c'' hm
          rcases List.mem_cons.mp hm with e | hm
          · cases e
            rw [hn] at hc; cases hc; rfl
          · exact ha _ hm
    · rw [if_neg hk]
      refine clList_lookup hc r acc ?_ ha
      rcases h with h | h
      · rcases List.mem_cons.mp h with e | h
        · cases e; exact absurd rfl hk
        · exact .inl h
      · exact .inr h

theorem relabelN_eq (names kd : List (Str × NameKind)) {scope : Scope} {env : Env} (h1 : env.scope.names = kd) (h2 : env.scope.kind = .function) (h3 : scope.names = names) : (relabel scope env).names = relabelN names kd := by
  subst h3
  unfold relabel relabelN
  simp only
  refine List.map_congr_left fun y _ => ?_
  have : env.kindOf y.1 = kd.lookup y.1 := by show env.scope.names.lookup y.1 = _; rw [h1]
  rw [h2, this]
  simp

theorem relabelN_local {kd : List (Str × NameKind)} {x : Str} : ∀ {names : List (Str × NameKind)}, names.lookup x = some .local → (relabelN names kd).lookup x = some .local
  | [], h => by simp at h
  | (n, k) :: r, h => by
    unfold relabelN
    rw [List.map_cons]
    by_cases hx : x = n
    · subst hx
      rw [List.lookup_cons, beq_self_eq_true] at h
      cases h
      simp
    · rw [List.lookup_cons, beq_eq_false_iff_ne.mpr hx] at h
      have := relabelN_local (kd := kd) h
      unfold relabelN at this
      split <;> rw [List.lookup_cons, beq_eq_false_iff_ne.mpr hx] <;> exact this
theorem relabelN_free {kd : List (Str × NameKind)} {x : Str} (hk : kd.lookup x = some .cell) : ∀ {names : List (Str × NameKind)}, names.lookup x = some .free → (relabelN names kd).lookup x = some .cell
  | [], h => by simp at h
  | (n, k) :: r, h => by
    unfold relabelN
    rw [List.map_cons]
    by_cases hx : x = n
    · subst hx
      rw [List.lookup_cons, beq_self_eq_true] at h
      cases h
      simp [hk]
    · rw [List.lookup_cons, beq_eq_false_iff_ne.mpr hx] at h
      have := relabelN_free hk h
      unfold relabelN at this
      split <;> rw [List.lookup_cons, beq_eq_false_iff_ne.mpr hx] <;> exact this
theorem relabelN_back {kd : List (Str × NameKind)} {x : Str} {q : NameKind} : ∀ {names : List (Str × NameKind)}, (relabelN names kd).lookup x = some q → ∃ k, names.lookup x = some k ∧ (x, k) ∈ names ∧ (q = k ∨ (k = .free ∧ q = .cell))
  | [], h => by simp [relabelN] at h
  | (n, k) :: r, h => by
    unfold relabelN at h
    rw [List.map_cons] at h
    by_cases hx : x = n
    · subst hx
      refine ⟨k, by simp, .head _, ?_⟩
      split at h
      · rename_i hc
        simp only [Bool.and_eq_true, beq_iff_eq] at hc
        rw [List.lookup_cons, beq_self_eq_true] at h
        cases h
        exact .inr ⟨hc.1, rfl⟩
      · rw [List.lookup_cons, beq_self_eq_true] at h
        cases h
        exact .inl rfl
    · have h' : (relabelN r kd).lookup x = some q := by
        unfold relabelN
        split at h <;> rw [List.lookup_cons, beq_eq_false_iff_ne.mpr hx] at h <;> exact h
      obtain ⟨k', e1, e2, e3⟩ := relabelN_back h'
      exact ⟨k', by rw [List.lookup_cons, beq_eq_false_iff_ne.mpr hx]; exact e1, .tail _ e2, e3⟩

structure CompOk (sc : Sc) (scope : Scope) (x : Str) : Prop where
  kind : scope.kind = .function
  loc : scope.names.lookup x = some .local
  each : ∀ y ∈ scope.names, (y.2 = .local ∧ scope.names.lookup y.1 = some .local) ∨ (y.2 = .free ∧ sc.kd.lookup y.1 = some .cell ∧ y.1 ≠ x ∧ scope.names.lookup y.1 = some .free) ∨ y.2 = .globalImplicit
  lt : ∀ p ∈ sc.ix, p.2 < sc.n
theorem compOk_of {sc : Sc} {scope : Scope} {x : Str} (h : compOk sc scope x = true) : CompOk sc scope x := by
  simp only [compOk, Bool.and_eq_true, List.all_eq_true, Bool.or_eq_true, beq_iff_eq, bne_iff_ne, decide_eq_true_eq] at h
  obtain ⟨⟨⟨a, b⟩, c⟩, d⟩ := h
  refine ⟨a, b, fun y hy => ?_, d⟩
  rcases c y hy with (q | q) | q
  · exact .inl q
  · exact .inr (.inl ⟨q.1.1.1, q.1.1.2, q.1.2, q.2⟩)
  · exact .inr (.inr q)

theorem rho_app_get {ρ : Rho} {lo : Option Lo} {i : Nat} (h : i < ρ.length) : Rho.get (ρ ++ [lo]) i = Rho.get ρ i := by
  simp [Rho.get, List.getElem?_append_left h]
theorem rho_app_last {ρ : Rho} {lo : Option Lo} : Rho.get (ρ ++ [lo]) ρ.length = lo := by
  simp [Rho.get]

/-- the context within a comprehension -/
theorem Cx.comp {prog : Program} {w : World} {base : Heap} {k : Nat} {sc : Sc} {env : Env} {ρ : Rho} {A : Around} {h h₃ : Heap} {scope : Scope} {x : Str} {C : Addr} {m : Str → Option Value} {v : Value} {d : D} (c : Cx prog w base k sc env ρ A h) (o : CompOk sc scope x)
    (hk : ∀ b o, h.get? b = some o → h₃.get? b = some o) (hn : h₃.Ns C m) (hx : m x = some v) (hv : V h₃ v d) :
    Cx prog w base k (compSc sc scope.names x) (compEnvC scope (clList scope.names env.cells []) C env) (ρ ++ [some (.dat d)]) A h₃ := by
  have hnames := relabelN_eq scope.names sc.kd (scope := scope) (env := env) c.names c.kind rfl
  have hkx : (relabelN scope.names sc.kd).lookup x = some .local := relabelN_local o.loc
  have cell : ∀ y, (relabelN scope.names sc.kd).lookup y = some .cell → sc.kd.lookup y = some .cell ∧ (y, NameKind.free) ∈ scope.names ∧ y ≠ x := by
    intro y hy
    obtain ⟨q, e1, e2, e3⟩ := relabelN_back hy
    rcases e3 with e3 | ⟨rfl, _⟩
    · subst e3
      rcases o.each _ e2 with ⟨q, _⟩ | ⟨q, _⟩ | q <;> cases q
    · rcases o.each _ e2 with ⟨q, _⟩ | ⟨_, q, q2, _⟩ | q
      · cases q
      · exact ⟨q, e2, q2⟩
      · cases q
  refine ⟨hnames, o.kind, c.glob, c.blt, fun y hy => ?_, by simp [compSc, c.len], fun y i lo h1 h2 h3 => ?_, c.ok.mono hk⟩
  · obtain ⟨q1, q2, _⟩ := cell y hy
    obtain ⟨a, ha⟩ := Option.isSome_iff_exists.mp (c.cells y q1)
    show ((clList scope.names env.cells []).lookup y).isSome = true
    rw [clList_lookup ha scope.names [] (.inl q2) (fun _ hm => nomatch hm)]; rfl
  · by_cases hyx : y = x
    · subst hyx
      simp only [compSc, List.lookup_cons, beq_self_eq_true, Option.some.injEq] at h2
      subst h2
      rw [← c.len, rho_app_last] at h3
      cases h3
      exact ⟨v, .loc m ((congrArg (List.lookup y) hnames).trans hkx) hn hx, hv⟩
    · simp only [compSc, List.lookup_cons, beq_eq_false_iff_ne.mpr hyx] at h2
      have h1' : isVarK ((relabelN scope.names sc.kd).lookup y) = true := h1
      have hm := PySem.mem_of_lookup h2
      obtain ⟨⟨y', k'⟩, hm1, hm2⟩ := List.mem_filterMap.mp hm
      split at hm2
      · rename_i hfr
        simp only [Option.map_eq_some_iff, Prod.mk.injEq] at hm2
        obtain ⟨i', hi, rfl, rfl⟩ := hm2
        have hkf : k' = .free := by simpa using hfr
        subst hkf
        rcases o.each _ hm1 with ⟨q, _⟩ | ⟨_, q, _, q4⟩ | q
        · cases q
        · have hlt := o.lt _ (PySem.mem_of_lookup hi)
          rw [rho_app_get (by rw [c.len]; exact hlt)] at h3
          obtain ⟨v', a', w'⟩ := c.binds y' i' lo (by show isVarK (sc.kd.lookup y') = true; rw [show sc.kd.lookup y' = some .cell from q]; rfl) hi h3
          refine ⟨v', ?_, w'.keeps hk⟩
          cases a' with
          | loc m' e1 e2 e3 =>
            rw [c.kindOf, show sc.kd.lookup y' = some .cell from q] at e1; cases e1
          | cell c' e1 e2 e3 =>
            refine .cell c' ((congrArg (List.lookup y') hnames).trans (relabelN_free q q4)) ?_ (e3.keeps hk)
            exact clList_lookup e2 scope.names [] (.inl hm1) (fun _ hm => nomatch hm)
        · cases q
      · cases hm2

section
variable {prog : Program} {w : World} {base : Heap} {Φ : Fns} {k : Nat} {A : Around} {E : Value → Shared → Prop} {env : Env} {sc : Sc} {ρ : Rho}

/-- the loop of a comprehension may begin -/
structure CompAt (prog : Program) (w : World) (A : Around) (s s₁ s₃ : Shared) (I Dd C : Addr) (fp : List Addr) (ds : List D) (P : Nat → Value → Prop) (St : Nat → Heap → Prop) (m : Str → Option Value) : Prop where
  keep : Keeps s s₁
  same : ∃ h t, s₃ = { s₁ with heap := h, toks := t }
  W : Walks prog w A I fp [I] ds.length P St
  st : St 0 s₃.heap
  nI : s₁.heap.get? I = none
  nD : s₁.heap.get? Dd = none
  nC : s₁.heap.get? C = none
  up : ∀ b o, s₁.heap.get? b = some o → s₃.heap.get? b = some o
  hP : ∀ i v, P i v → ∃ d, ds[i]? = some d ∧ V s₁.heap v d
  hSt : ∀ i h, St i h → ∃ o, h.get? I = some o ∧ ∃ fs, o.data = .fields fs
  len : ds.length ≤ lim
  dc : Dd ≠ C
  df : Dd ∉ fp
  cf : C ∉ fp
  acc : s₃.heap.PlainList Dd #[]
  ns : s₃.heap.Ns C m

theorem comp_start {elt iter : Expr} {x : Str} {px : Pos} {ifs : List Expr} {scope : Scope} {pos pos' : Pos} {s : Shared} {use : Option (Value → Sem Unit)} {Q : Value → Shared → Prop} {ds : List D}
    (c : Cx prog w base k sc env ρ A s.heap) (o : CompOk sc scope x) (hs : ∀ x, foldedSetIterable iter env x = pure x) {Src : Value → Shared → List Addr → Prop}
    (hit : wpAny (model prog w) A (eval iter env) (fun xv s₁ => wpAny (model prog w) A (pyIter xv) (fun itv s₂ => ds.length ≤ lim ∧ ∃ I fp, itv = .ref I ∧ Keeps s s₁ ∧ Keeps s₁ s₂ ∧ Wk prog w A s₁.heap s₂ I fp ds ∧ Src xv s₁ fp) E s₁) E s)
    (hloop : ∀ xv s₁ s₃ I Dd C fp P St m, CompAt prog w A s s₁ s₃ I Dd C fp ds P St m → Src xv s₁ fp →
      codeAny (model prog w) A (.compLoop (.ListComp elt [⟨.Name x px, iter, ifs, 0⟩] scope pos) 0 (.ref I) (.ref Dd) (compEnvC scope (clList scope.names env.cells []) C env)) (compPost (model prog w) A E use Q (.ref Dd) C) s₃) :
    wpAny (model prog w) A (comprehension (.ListComp elt [⟨.Name x px, iter, ifs, 0⟩] scope pos) scope env pos' (newList []) false (eval iter env) use) Q E s := by
  have hfree : ∀ y ∈ scope.names, y.2 = .free → (env.cells.lookup y.1).isSome = true := by
    intro y hy hf
    rcases o.each y hy with ⟨q, _⟩ | ⟨_, q, _⟩ | q
    · rw [hf] at q; cases q
    · exact c.cells _ q
    · rw [hf] at q; cases q
  have hcell : ∀ y ∈ scope.names, y.2 ≠ .cell := by
    intro y hy e
    rcases o.each y hy with ⟨q, _⟩ | ⟨q, _⟩ | q <;> rw [e] at q <;> cases q
  have hnames : ∀ y ∈ scope.names, y.2 = .local → scope.names.lookup y.1 = some .local := by
    intro y hy e
    rcases o.each y hy with ⟨_, q⟩ | ⟨q, _⟩ | q
    · exact q
    · rw [e] at q; cases q
    · rw [e] at q; cases q
  refine wpAny_comprehension_free (use := use) rfl hs (closure_eq hfree) o.kind hnames (wpAny_mono hit (fun xv s₁ h₁ => wpAny_mono h₁ (fun itv s₂ h₂ => ?_) fun _ _ e => e) fun _ _ e => e)
  obtain ⟨hdl, I, fp, rfl, K1, K2, ⟨P, St, W, hst, hfp, hI, hk12, hP, hSt, _⟩, hS⟩ := h₂
  refine wpAny_newObj_type (wpAny_newFunctionEnv hcell (by intro y hy; simp at hy) (fun h₃ hns₃ hsb₃ => ?_) o.kind)
  dsimp only at hns₃ hsb₃ ⊢
  generalize hH2 : s₂.heap.push { cls := .type "list", dict := none, data := .seq ([] : List Value).toArray } = H2 at hns₃ hsb₃ ⊢
  have hC : H2.objs.size = s₂.heap.objs.size + 1 := by rw [← hH2, Heap.size_push]
  have hDC : s₂.heap.objs.size ≠ H2.objs.size := by rw [hC]; exact Nat.ne_of_lt (Nat.lt_succ_self _)
  have below : ∀ b, b < s₂.heap.objs.size → b ≠ H2.objs.size ∧ b ≠ s₂.heap.objs.size := fun b hb => ⟨by rw [hC]; exact Nat.ne_of_lt (Nat.lt_succ_of_lt hb), Nat.ne_of_lt hb⟩
  have hDf : s₂.heap.objs.size ∉ fp := fun hm => Nat.lt_irrefl _ (hfp _ hm)
  have hCf : H2.objs.size ∉ fp := fun hm => by have := hfp _ hm; rw [hC] at this; exact Nat.lt_irrefl _ (Nat.lt_of_succ_lt this)
  have old : ∀ b o, s₂.heap.get? b = some o → h₃.get? b = some o := fun b o e => hsb₃.extBut b o (below b (Heap.lt_size e)).1 (Heap.get?_push_of_some _ (hH2 ▸ Heap.get?_push_of_some _ e))
  have hacc : h₃.PlainList s₂.heap.objs.size #[] := ⟨_, hsb₃.extBut _ _ hDC (Heap.get?_push_of_some _ (hH2 ▸ Heap.get?_push_size _ rfl))⟩
  have hst₃ : St 0 h₃ := W.frame _ _ _ hst fun b _ o e => old b o e
  have fresh1 : ∀ a, s₂.heap.objs.size ≤ a → s₁.heap.get? a = none := fun a ha => by
    cases e : s₁.heap.get? a with
    | none => rfl
    | some o' => exact absurd (Heap.lt_size (hk12 _ _ e)) (Nat.not_lt.mpr ha)
  obtain ⟨a2, b2, e2, _⟩ := id K2
  have CA : CompAt prog w A s s₁ { s₂ with heap := h₃, toks := s₂.toks + ([] : List (Str × Value)).length } I s₂.heap.objs.size H2.objs.size fp ds P St _ :=
    ⟨K1, ⟨h₃, s₂.toks + ([] : List (Str × Value)).length, by rw [e2]⟩, W, hst₃, hI, fresh1 _ (Nat.le_refl _), fresh1 _ (by rw [hC]; exact Nat.le_succ _), fun b o e => old b o (hk12 b o e), hP, hSt, hdl, hDC, hDf, hCf, hacc, hns₃⟩
  have fin := hloop xv s₁ _ I _ _ fp P St _ CA hS
  exact codeAny_compStart_list fin (W.self 0 _ _ _ hst₃ fin)

/-- what a comprehension ends in -/
theorem comp_ok {elt iter : Expr} {x : Str} {px : Pos} {ifs : List Expr} {scope : Scope} {pos pos' : Pos} {s : Shared} {use : Option (Value → Sem Unit)} {Q : Value → Shared → Prop} {ds res : List D} {el cd : Mine.E}
    (c : Cx prog w base k sc env ρ A s.heap) (o : CompOk sc scope x) (hs : ∀ x, foldedSetIterable iter env x = pure x)
    (hit : wpAny (model prog w) A (eval iter env) (fun xv s₁ => wpAny (model prog w) A (pyIter xv) (fun itv s₂ => ds.length ≤ lim ∧ ∃ I fp, itv = .ref I ∧ Keeps s s₁ ∧ Keeps s₁ s₂ ∧ Wk prog w A s₁.heap s₂ I fp ds ∧ True) E s₁) E s)
    (hel : EvOK prog w base Φ k (compSc sc scope.names x) elt el)
    (hcd : (ifs = [] ∧ cd = .k (.bool true)) ∨ ∃ t, ifs = [t] ∧ TrOK prog w base Φ k (compSc sc scope.names x) t cd)
    (hres : compO (fun d => (ev Φ (ρ ++ [some (.dat d)]) cd).bind isTrueD) (fun d => ev Φ (ρ ++ [some (.dat d)]) el) ds = some res) (hpure : D.pures res = true)
    (hQ : ∀ Dd C s' m' ys, ds.length ≤ lim → Keeps s s' → s.heap.get? Dd = none → s.heap.get? C = none → Dd ≠ C → s'.heap.Ns C m' → s'.heap.PlainList Dd (List.toArray ys) → Vs s'.heap ys res → compPost (model prog w) A E use Q (.ref Dd) C (.ok .next) s') :
    wpAny (model prog w) A (comprehension (.ListComp elt [⟨.Name x px, iter, ifs, 0⟩] scope pos) scope env pos' (newList []) false (eval iter env) use) Q E s := by
  refine comp_start (Src := fun _ _ _ => True) c o hs hit fun xv s₁ s₃ I Dd C fp P St m X _ => ?_
  have k01 := keeps_heap X.keep
  have none0 : ∀ a, s₁.heap.get? a = none → s.heap.get? a = none := fun a ha => by
    cases e : s.heap.get? a with
    | none => rfl
    | some o' => rw [k01 _ _ e] at ha; cases ha
  refine compLoop_ok (cenv := compEnvC scope (clList scope.names env.cells []) C env) (h₁ := s₁.heap) X.W X.st X.nI X.nD X.nC X.up X.hP X.hSt hres hpure X.len
    (lookup_relabel_local o.loc) (by simp [compEnvC, relabel, o.kind]) X.dc X.df X.cf X.acc X.ns ?_ ?_ ?_
  · intro d v b s₄ m₄ E' hv hn hm hk hcb
    have c' := (c.mono k01).comp o hk hn hm (hv.mono hk)
    rcases hcd with ⟨rfl, rfl⟩ | ⟨t, rfl, ht⟩
    · have hcb : some true = some b := hcb
      cases hcb
      rw [List.forIn_nil]
      exact wpAny_pure ⟨rfl, keeps_refl _⟩
    · rw [List.forIn_cons]
      rw [if_pos rfl]
      refine wpAny_bind (wpAny_bind ?_)
      have hb' : ev Φ (ρ ++ [some (.dat d)]) cd = some (.bool b) := by
        obtain ⟨q, hq1, hq2⟩ := Option.bind_eq_some_iff.mp hcb
        rw [isTrueD_some hq2] at hq1; exact hq1
      refine wpAny_mono (ht _ _ _ _ _ E' c' hb') (fun r s₅ h₅ => ?_) fun _ _ e => e
      exact wpAny_pure (wpAny_pure h₅)
  · intro d v y s₄ m₄ E' hv hn hm hk hy
    have c' := (c.mono k01).comp o hk hn hm (hv.mono hk)
    exact hel _ _ _ _ _ E' c' hy
  · intro h' tk m' ys hn hl hvs hk
    obtain ⟨h3, t3, e3⟩ := X.same
    obtain ⟨a1, b1, e1, _⟩ := X.keep
    refine hQ _ _ _ m' ys X.len ⟨h', tk, by rw [e3, e1], fun b o' e => ?_⟩ (none0 _ X.nD) (none0 _ X.nC) X.dc hn hl hvs
    have q := k01 b o' e
    exact hk b o' (fun r => by have r : b = C := r; rw [r, X.nC] at q; cases q) (fun r => by rw [r, X.nI] at q; cases q) (fun r => by rw [r, X.nD] at q; cases q) (X.up b o' q)

end
end Mine

namespace Mine
open PySem PySem.Calls PyProof.Rows PySem.SeqAt

section
variable {prog : Program} {w : World} {base : Heap} {fns : List Str} {mg mb : Str → Option Value} {fa : Nat → Addr} {Φ : Fns} {k : Nat}

theorem sub_plain {e : Expr} {o i : Value} (h : ∀ a b c d, e ≠ .Slice a b c d) : subscripted e false o i = operate [o, i] (getItem o i) := by
  cases e <;> first | rfl | (exact absurd rfl (h _ _ _ _))

theorem getitem_look {s : Shared} {a : Value} {x : D} {ds : List D} (hv : V s.heap a x) (hi : items x = some ds) : ∃ T id, s.TypeIs a T ∧ typeLookup (.type T) "__getitem__" = pure (some (.builtin id)) := by
  cases hv <;> simp only [items, reduceCtorEq] at hi
  · rename_i hp _ _; exact ⟨"tuple", _, Heap.IsTuple.typeIs hp, slot_tuple_getitem.lookup⟩
  · rename_i hp _ _; exact ⟨"list", _, Heap.IsList.typeIs hp.isList, slot_list_getitem.lookup⟩

theorem evIdx_items {x y d : D} (h : evIdx x y = some d) : ∃ ds, items x = some ds := by
  obtain ⟨ds, h1, _⟩ := ob h; exact ⟨ds, h1⟩

theorem opA_of {op : Operator} {o : Op} (h : cOp op = some o) : op = opA o := by
  cases op <;> first | exact nns h | (cases h; rfl)
theorem cmA_of {op : CmpOp} {o : Cm} (h : cCm op = some o) : op = cmA o := by
  cases op <;> first | exact nns h | (cases h; rfl)
theorem cmA_marks (o : Cm) (r : Expr) : behindInMarks (cmA o) r = false := by
  cases o <;> cases r <;> simp [behindInMarks, cmA] <;> (intros; first | rfl | decide)

theorem call1_builtin {sc : Sc} {env : Env} {ρ : Rho} {A : Around} {s : Shared} {E : Value → Shared → Prop} {name : Str} {id : String} {p pos : Pos} {a : Expr} {a' : Mine.E} {x d : D} {f : Expr → Option Mine.E}
    (G : Gl fns base mg mb fa) (J : Judged prog w base Φ k sc f) (c : Cx prog w base k sc env ρ A s.heap) (hg : glob sc name = true) (hx : name ∈ blNames) (hv : bootBuiltins name = some (.builtin id))
    (ha : f a = some a') (he : ev Φ ρ a' = some x) (h : ∀ v s', V s'.heap v x → wpAny (model prog w) A (call (.builtin id) [v]) (Post s' d) E s') :
    wpAny (model prog w) A (eval (.Call (.Name name p) [a] [] pos) env) (Post s d) E s := by
  refine Call_ (load_builtin G c hg hx hv (callWith_builtin1 ?_ (starEach_plain (J.plain ha) _ _)))
  refine args_cons ?_ (starEach_plain (J.plain ha) _ _)
  refine wpAny_mono ((J.1 a a' ha).1 env ρ A s x E c he) (fun v s₁ h₁ => args_nil ?_) fun _ _ x => x
  exact wpAny_mono (h v s₁ h₁.2) (fun r s₂ h₂ => ⟨keeps_trans h₁.1 h₂.1, h₂.2⟩) fun _ _ x => x
theorem call1_type {sc : Sc} {env : Env} {ρ : Rho} {A : Around} {s : Shared} {E : Value → Shared → Prop} {name : Str} {T : String} {p pos : Pos} {a : Expr} {a' : Mine.E} {x d : D} {f : Expr → Option Mine.E}
    (G : Gl fns base mg mb fa) (J : Judged prog w base Φ k sc f) (c : Cx prog w base k sc env ρ A s.heap) (hg : glob sc name = true) (hx : name ∈ blNames) (hv : bootBuiltins name = some (.type T))
    (ha : f a = some a') (he : ev Φ ρ a' = some x) (h : ∀ v s', V s'.heap v x → wpAny (model prog w) A (call (.type T) [v]) (Post s' d) E s') :
    wpAny (model prog w) A (eval (.Call (.Name name p) [a] [] pos) env) (Post s d) E s := by
  refine Call_ (load_builtin G c hg hx hv (callWith_type1 ?_ (starEach_plain (J.plain ha) _ _)))
  refine args_cons ?_ (starEach_plain (J.plain ha) _ _)
  refine wpAny_mono ((J.1 a a' ha).1 env ρ A s x E c he) (fun v s₁ h₁ => args_nil ?_) fun _ _ x => x
  exact wpAny_mono (h v s₁ h₁.2) (fun r s₂ h₂ => ⟨keeps_trans h₁.1 h₂.1, h₂.2⟩) fun _ _ x => x

theorem boot_len : bootBuiltins "len" = some (.builtin "len") := by decide +kernel
theorem boot_isinstance : bootBuiltins "isinstance" = some (.builtin "isinstance") := by decide +kernel
theorem boot_max : bootBuiltins "max" = some (.builtin "max") := by decide +kernel
theorem boot_int : bootBuiltins "int" = some (.type "int") := by decide +kernel
theorem boot_tuple : bootBuiltins "tuple" = some (.type "tuple") := by decide +kernel
theorem boot_list : bootBuiltins "list" = some (.type "list") := by decide +kernel
theorem boot_range : bootBuiltins "range" = some (.type "range") := by decide +kernel
theorem boot_bool : bootBuiltins "bool" = some (.type "bool") := by decide +kernel

theorem cTy_of {t : Str} {y : Ty} (h : cTy t = some y) : t ∈ blNames ∧ bootBuiltins t = some (.type (tyA y)) := by
  unfold cTy at h
  split at h
  · rename_i e; cases h; rw [beq_iff_eq.mp e]; exact ⟨by decide +kernel, boot_tuple⟩
  · split at h
    · rename_i e; cases h; rw [beq_iff_eq.mp e]; exact ⟨by decide +kernel, boot_int⟩
    · split at h
      · rename_i e; cases h; rw [beq_iff_eq.mp e]; exact ⟨by decide +kernel, boot_bool⟩
      · cases h

theorem idxVar_some {sc : Sc} {x : Str} {i : Nat} (h : idxVar sc x = some i) : isVarK (sc.kd.lookup x) = true ∧ sc.ix.lookup x = some i := by
  replace h := oi' h
  obtain ⟨q, h⟩ := h
  exact ⟨(Bool.and_eq_true _ _ ▸ q).1, h⟩
theorem idxVar_dbg {sc : Sc} {x : Str} {i : Nat} (h : idxVar sc x = some i) : (x == ("__debug__" : Str)) = false := by
  replace h := oi' h
  obtain ⟨q, h⟩ := h
  have := (Bool.and_eq_true _ _ ▸ q).2
  exact Bool.not_eq_true' _ ▸ this
theorem Rho.dic?_some {ρ : Rho} {x : Nat} {kvs : List (Ky × D)} (h : ρ.dic? x = some kvs) : ρ.get x = some (.dic kvs) := by
  replace h := ob h
  obtain ⟨lo, h1, h2⟩ := h
  cases lo <;> cases h2
  exact h1
/-- a name that holds a dict -/
theorem load_dic {sc : Sc} {env : Env} {ρ : Rho} {A : Around} {s : Shared} {x : Str} {pos : Pos} {j : Nat} {kvs : List (Ky × D)} {Q : Value → Shared → Prop} {E : Value → Shared → Prop} (c : Cx prog w base k sc env ρ A s.heap) (hx : idxVar sc x = some j) (hd : ρ.dic? j = some kvs)
    (h : ∀ a, DicAt prog w s.heap a kvs → Q (.ref a) s) : wpAny (model prog w) A (eval (.Name x pos) env) Q E s := by
  obtain ⟨h1, h2⟩ := idxVar_some hx
  obtain ⟨v, ha, a, rfl, hD⟩ := c.binds x j _ h1 h2 (Rho.dic?_some hd)
  exact load_var (sc := sc) (ρ := ρ) c.kind ha (h a hD) (idxVar_dbg hx)

theorem dictVar_some {sc : Sc} {v : Expr} {j : Nat} (h : dictVar sc v = some j) : ∃ x p, v = .Name x p ∧ idxVar sc x = some j := by
  replace h := ob h
  obtain ⟨x, hx, h⟩ := h
  replace h := oi' h
  obtain ⟨_, h⟩ := h
  obtain ⟨p, rfl⟩ := nameOf_some hx
  exact ⟨x, p, rfl, h⟩

theorem boot_sorted : bootBuiltins "sorted" = some (.builtin "sorted") := by decide +kernel
/-- sorted gives a new list -/
theorem srt_ok {sc : Sc} {f : Expr → Option Mine.E} (G : Gl fns base mg mb fa) (J : Judged prog w base Φ k sc f) {a : Expr} {e' : Mine.E} {p pos : Pos} (hg : glob sc "sorted" = true) (h : cSrt f sc a = some e') {env : Env} {ρ : Rho} {A : Around} {s : Shared} {d : D} {E : Value → Shared → Prop}
    (c : Cx prog w base k sc env ρ A s.heap) (hv : ev Φ ρ e' = some d) : ∃ rs, d = .lst rs ∧ wpAny (model prog w) A (eval (.Call (.Name "sorted" p) [a] [] pos) env) (Fresh s rs) E s := by
  unfold cSrt at h
  cases hd : dictVar sc a with
  | some j =>
    rw [hd] at h
    cases h
    obtain ⟨x, px, rfl, hx⟩ := dictVar_some hd
    replace hv := ob hv
    obtain ⟨kvs, hk, hv⟩ := hv
    obtain ⟨hl, hv⟩ := oi' hv
    obtain ⟨ns, hns, hok, rfl⟩ := sortD_parts hv
    refine ⟨_, rfl, Call_ (load_builtin G c hg (by decide +kernel) boot_sorted (callWith_builtin1 (args_cons ?_ (starEach_plain (fun _ _ q => by cases q) _ _)) (starEach_plain (fun _ _ q => by cases q) _ _)))⟩
    refine load_dic c hx hk fun b hD => args_nil ?_
    obtain ⟨rs, e, hq⟩ := sort_keys (prog := prog) (w := w) (A := A) (E := E) c.ok.hand hD hl hv
    cases e
    exact hq
  | none =>
    rw [hd] at h
    replace h := om h
    obtain ⟨a', ha, rfl⟩ := h
    replace hv := ob hv
    obtain ⟨x, hx, hv⟩ := hv
    replace hv := ob hv
    obtain ⟨ds, hds, hv⟩ := hv
    have := lstOf_some hds; subst this
    obtain ⟨ns, hns, hok, rfl⟩ := sortD_parts hv
    refine ⟨_, rfl, Call_ (load_builtin G c hg (by decide +kernel) boot_sorted (callWith_builtin1 (args_cons ?_ (starEach_plain (J.plain ha) _ _)) (starEach_plain (J.plain ha) _ _)))⟩
    refine wpAny_mono ((J.1 a a' ha).1 env ρ A s _ E c hx) (fun v s₁ h₁ => args_nil ?_) fun _ _ x => x
    obtain ⟨rs, e, hq⟩ := sort_list (prog := prog) (w := w) (A := A) (E := E) h₁.2 hv
    cases e
    refine wpAny_mono hq (fun r s₂ h₂ => ?_) fun _ _ x => x
    obtain ⟨b, vs, e1, K, hn, hp, hvs, hl⟩ := h₂
    refine ⟨b, vs, e1, keeps_trans h₁.1 K, ?_, hp, hvs, hl⟩
    cases q : s.heap.get? b with
    | none => rfl
    | some o => have := keeps_heap h₁.1 _ _ q; rw [hn] at this; cases this

theorem b1_ok {sc : Sc} {f : Expr → Option Mine.E} (G : Gl fns base mg mb fa) (J : Judged prog w base Φ k sc f) {name : Str} {a : Expr} {e' : Mine.E} {p pos : Pos} (hg : glob sc name = true) (h : cB1 f sc name a = some e') :
    EvOK prog w base Φ k sc (.Call (.Name name p) [a] [] pos) e' := by
  intro env ρ A s d E c hv
  unfold cB1 at h
  by_cases n1 : (name == ("len" : Str)) = true
  · rw [if_pos n1] at h
    have := beq_iff_eq.mp n1; subst this
    obtain ⟨a', ha, rfl⟩ := om h
    replace hv := ob hv
    obtain ⟨x, hx, hv⟩ := hv
    obtain ⟨ds, hi, rfl⟩ := om hv
    exact call1_builtin G J c hg (by decide +kernel) boot_len ha hx fun v s' hV => len_ok hV hi
  rw [if_neg n1] at h
  by_cases n2 : (name == ("int" : Str)) = true
  · rw [if_pos n2] at h
    have := beq_iff_eq.mp n2; subst this
    obtain ⟨a', ha, rfl⟩ := om h
    replace hv := ob hv
    obtain ⟨x, hx, hv⟩ := hv
    obtain ⟨b, hb, rfl⟩ := om hv
    have := isTrueD_some hb; subst this
    refine call1_type G J c hg (by decide +kernel) boot_int ha hx fun v s' hV => ?_
    have := hV.bool_inv; subst this
    exact call_int_bool post_int
  rw [if_neg n2] at h
  by_cases n3 : (name == ("tuple" : Str)) = true
  · rw [if_pos n3] at h
    have := beq_iff_eq.mp n3; subst this
    replace h := om h
    obtain ⟨a', ha, rfl⟩ := h
    replace hv := ob hv
    obtain ⟨x, hx, hv⟩ := hv
    replace hv := om hv
    obtain ⟨ds, hi, rfl⟩ := hv
    exact call1_type G J c hg (by decide +kernel) boot_tuple ha hx fun v s' hV => toTup_ok hV hi
  rw [if_neg n3] at h
  obtain ⟨n4, h⟩ := oi' h
  have := beq_iff_eq.mp n4; subst this
  obtain ⟨rs, rfl, hq⟩ := srt_ok (prog := prog) (w := w) (E := E) (p := p) (pos := pos) G J hg h c hv
  exact wpAny_mono hq (fun r s₂ h₂ => Fresh.post h₂) fun _ _ x => x

theorem isi_call {sc : Sc} {f : Expr → Option Mine.E} (G : Gl fns base mg mb fa) (J : Judged prog w base Φ k sc f) {a b : Expr} {e' : Mine.E} {p pos : Pos} (hg : glob sc "isinstance" = true) (h : cIsi f sc a b = some e') :
    EvOK prog w base Φ k sc (.Call (.Name "isinstance" p) [a, b] [] pos) e' := by
  intro env ρ A s d E c hv
  cases b <;> first | exact nns h | exact nnb h | skip
  rename_i t pt
  replace h := oi' h
  obtain ⟨hgt, h⟩ := h
  replace h := ob h
  obtain ⟨x, hx, h⟩ := h
  replace h := om h
  obtain ⟨y, hy, rfl⟩ := h
  replace hv := om hv
  obtain ⟨q, hq, rfl⟩ := hv
  obtain ⟨t1, t2⟩ := cTy_of hy
  refine Call_ (load_builtin G c hg (by decide +kernel) boot_isinstance (callWith_builtin1 ?_ (starEach_plain (J.plain hx) _ _) rfl))
  refine args_cons ?_ (starEach_plain (J.plain hx) _ _)
  refine wpAny_mono ((J.1 a x hx).1 env ρ A s q E c hq) (fun v s₁ h₁ => ?_) fun _ _ x => x
  have c1 := c.mono (keeps_heap h₁.1)
  refine args_cons (load_builtin G c1 hgt t1 t2 (args_nil ?_)) rfl
  exact wpAny_mono (isi_ok h₁.2) (fun r s₂ h₂ => ⟨keeps_trans h₁.1 h₂.1, h₂.2⟩) fun _ _ x => x

theorem b2_ok {sc : Sc} {f : Expr → Option Mine.E} (G : Gl fns base mg mb fa) (J : Judged prog w base Φ k sc f) {name : Str} {a b : Expr} {e' : Mine.E} {p pos : Pos} (hg : glob sc name = true) (h : cB2 f sc name a b = some e') :
    EvOK prog w base Φ k sc (.Call (.Name name p) [a, b] [] pos) e' := by
  unfold cB2 at h
  by_cases n1 : (name == ("isinstance" : Str)) = true
  · rw [if_pos n1] at h
    have := beq_iff_eq.mp n1; subst this
    exact isi_call G J hg h
  rw [if_neg n1] at h
  replace h := oi' h
  obtain ⟨n2, h⟩ := h
  have := beq_iff_eq.mp n2; subst this
  replace h := ob h
  obtain ⟨x, hx, h⟩ := h
  replace h := om h
  obtain ⟨y, hy, rfl⟩ := h
  intro env ρ A s d E c hv
  replace hv := ob hv
  obtain ⟨u, hu, hv⟩ := hv
  replace hv := ob hv
  obtain ⟨v', hv', hv⟩ := hv
  obtain ⟨i, j, rfl, rfl, hv⟩ := i2_some hv
  cases hv
  have e1 : starEach [b] env = [(false, eval b env)] := by rw [starEach_plain (J.plain hy)]; rfl
  refine Call_ (load_builtin G c hg (by decide +kernel) boot_max (callWith_builtin1 ?_ (starEach_plain (J.plain hx) _ _) (by rw [e1]; rfl)))
  refine args_cons ?_ (starEach_plain (J.plain hx) _ _)
  refine wpAny_mono ((J.1 a x hx).1 env ρ A s _ E c hu) (fun v s₁ h₁ => ?_) fun _ _ x => x
  have c1 := c.mono (keeps_heap h₁.1)
  refine args_cons ?_ (starEach_plain (J.plain hy) _ _)
  refine wpAny_mono ((J.1 b y hy).1 env ρ A s₁ _ E c1 hv') (fun u s₂ h₂ => args_nil ?_) fun _ _ x => x
  obtain ⟨t, rfl⟩ := h₁.2.int_inv; obtain ⟨t', rfl⟩ := h₂.2.int_inv
  exact wpAny_mono (max_ok c.ok.hand) (fun r s₃ h₃ => ⟨keeps_trans (keeps_trans h₁.1 h₂.1) h₃.1, h₃.2⟩) fun _ _ x => x

theorem call_ok {sc : Sc} {f : Expr → Option Mine.E} (G : Gl fns base mg mb fa) (hΦ : FnsOk prog w base Φ fa k) (J : Judged prog w base Φ k sc f) {name : Str} {args : List Expr} {e' : Mine.E} {p pos : Pos} (h : cCall f fns sc name args = some e') :
    EvOK prog w base Φ k sc (.Call (.Name name p) args [] pos) e' := by
  replace h := oi' h
  obtain ⟨hg, h⟩ := h
  cases hi : fns.idxOf? name with
  | none =>
    rw [hi] at h
    cases args with
    | nil => cases h
    | cons a r =>
      cases r with
      | nil => exact b1_ok G J hg h
      | cons b r' =>
        replace h := oi' h
        obtain ⟨q, h⟩ := h
        cases r' with
        | nil => exact b2_ok G J hg h
        | cons => cases q
  | some i =>
    rw [hi] at h
    cases args with
    | nil => cases h
    | cons a r =>
      obtain ⟨es, hes, rfl⟩ := om (show (cEs f (a :: r)).map (.call i) = some e' from h)
      intro env ρ A s d E c hv
      replace hv := ob hv
      obtain ⟨ds, hds, hv⟩ := hv
      replace hv := ob hv
      obtain ⟨o, ho, hv⟩ := hv
      have := okOf_some hv; subst this
      have hn := idxOf?_get hi
      obtain ⟨o, fd, h1, h2, h3⟩ := G.fn i name hn
      obtain ⟨a', ha, _⟩ := ob hes
      refine Call_ (load_fn G c hg hn (callWith_def h3 ?_ (starEach_plain (J.plain ha) _ _)))
      refine wpAny_mono (args_ok J (a :: r) es hes env ρ A s ds E pos c hds) (fun vs s₁ h₁ => ?_) fun _ _ x => x
      have c1 := c.mono (keeps_heap h₁.1)
      exact ⟨c1.ok.stays _ _ h2, wpAny_mono (hΦ.ok i ds d A s₁ vs E ho c1.ok h₁.2) (fun r s₂ h₂ => ⟨keeps_trans h₁.1 h₂.1, h₂.2⟩) fun _ _ x => x⟩

/-- what a walk stands on -/
noncomputable def Src (Φ : Fns) (ρ : Rho) (it : It) (xv : Value) (h : Heap) (g : List Addr) : Prop :=
  ((∀ e', it ≠ .seq e') ∧ g = []) ∨ (∃ x, it = .keys x) ∨ ∃ e' d ax, it = .seq e' ∧ ev Φ ρ e' = some d ∧ xv = .ref ax ∧ V h xv d ∧ g = [ax]

theorem items_len {h : Heap} {v : Value} {d : D} {ds : List D} (hv : V h v d) (hi : items d = some ds) : ds.length ≤ lim := by
  cases hv <;> cases hi <;> assumption

theorem rangeD_lim {a b : Int} (h1 : 0 ≤ a) (h2 : b ≤ lim) : (rangeD a b).length ≤ lim := by
  simp only [rangeD, List.length_map, List.length_range]; (first | lia | omega)

abbrev ItPost (prog : Program) (w : World) (Φ : Fns) (ρ : Rho) (A : Around) (it : It) (ds : List D) (s : Shared) (xv : Value) (s₁ : Shared) : Value → Shared → Prop := fun itv s₂ =>
  ds.length ≤ lim ∧ ∃ I g, itv = .ref I ∧ Keeps s s₁ ∧ Keeps s₁ s₂ ∧ Wk prog w A s₁.heap s₂ I (I :: g) ds ∧ Src Φ ρ it xv s₁.heap g

theorem seq_ok {sc : Sc} {f : Expr → Option Mine.E} (J : Judged prog w base Φ k sc f) {iter : Expr} {e' : Mine.E} (he : f iter = some e') {env : Env} {ρ : Rho} {A : Around} {s : Shared} {ds : List D} {E : Value → Shared → Prop}
    (c : Cx prog w base k sc env ρ A s.heap) (hv : evIt Φ ρ (.seq e') = some ds) :
    wpAny (model prog w) A (eval iter env) (fun xv s₁ => wpAny (model prog w) A (pyIter xv) (ItPost prog w Φ ρ A (.seq e') ds s xv s₁) E s₁) E s := by
  replace hv := ob hv
  obtain ⟨d, hd, hv⟩ := hv
  replace hv := ob hv
  obtain ⟨ds', hds, hv⟩ := hv
  replace hv := oi hv
  obtain ⟨_, rfl⟩ := hv
  refine wpAny_mono ((J.1 iter e' he).1 env ρ A s d E c hd) (fun xv s₁ h₁ => ?_) fun _ _ x => x
  refine wpAny_mono (iter_seq c.ok.hand h₁.2 hds) (fun itv s₂ h₂ => ?_) fun _ _ x => x
  obtain ⟨I, ax, e1, e2, e3, e4⟩ := h₂
  exact ⟨items_len h₁.2 hds, I, [ax], e1, h₁.1, e3, e4, .inr (.inr ⟨e', d, ax, rfl, hd, e2, h₁.2, rfl⟩)⟩

theorem range_ok {sc : Sc} {f : Expr → Option Mine.E} (G : Gl fns base mg mb fa) (J : Judged prog w base Φ k sc f) {args : List Expr} {it : It} {p pos : Pos} (hg : glob sc "range" = true) (h : cRange f args = some it) {env : Env} {ρ : Rho} {A : Around} {s : Shared} {ds : List D} {E : Value → Shared → Prop}
    (c : Cx prog w base k sc env ρ A s.heap) (hv : evIt Φ ρ it = some ds) :
    wpAny (model prog w) A (eval (.Call (.Name "range" p) args [] pos) env) (fun xv s₁ => wpAny (model prog w) A (pyIter xv) (ItPost prog w Φ ρ A it ds s xv s₁) E s₁) E s := by
  cases args with
  | nil => cases h
  | cons a r =>
    cases r with
    | nil =>
      obtain ⟨a', ha, rfl⟩ := om (show (f a).map .range = some it from h)
      replace hv := ob hv
      obtain ⟨x, hx, hv⟩ := hv
      replace hv := ob hv
      obtain ⟨n, hn, hv⟩ := hv
      have := intOf_some hn; subst this
      obtain ⟨hb, rfl⟩ := oi hv
      refine Call_ (load_builtin G c hg (by decide +kernel) boot_range (callWith_type1 ?_ (starEach_plain (J.plain ha) _ _)))
      refine args_cons ?_ (starEach_plain (J.plain ha) _ _)
      refine wpAny_mono ((J.1 a a' ha).1 env ρ A s _ E c hx) (fun v s₁ h₁ => args_nil ?_) fun _ _ x => x
      obtain ⟨k1, v1⟩ := h₁
      obtain ⟨t, rfl⟩ := v1.int_inv
      refine call_range_1 (wpAny_mono (iter_range c.ok.hand (IsRange.new _ _ _ _ _ _ _) ⟨by (first | lia | omega), by (first | lia | omega)⟩ hb) (fun itv s₂ h₂ => ?_) fun _ _ x => x)
      obtain ⟨I, e1, e2, e3⟩ := h₂
      exact ⟨rangeD_lim (by (first | lia | omega)) hb.2, I, [], e1, keeps_trans k1 (keeps_push _ _ _), e2, e3, .inl ⟨fun _ q => (by cases q), rfl⟩⟩
    | cons b r' => cases h

theorem it_ok {sc : Sc} {f : Expr → Option Mine.E} (G : Gl fns base mg mb fa) (J : Judged prog w base Φ k sc f) {iter : Expr} {it : It} (h : cIt f sc iter = some it) {env : Env} {ρ : Rho} {A : Around} {s : Shared} {ds : List D} {E : Value → Shared → Prop}
    (c : Cx prog w base k sc env ρ A s.heap) (hv : evIt Φ ρ it = some ds) :
    (∀ x, foldedSetIterable iter env x = pure x) ∧
    wpAny (model prog w) A (eval iter env) (fun xv s₁ => wpAny (model prog w) A (pyIter xv) (ItPost prog w Φ ρ A it ds s xv s₁) E s₁) E s := by
  have seq : (f iter).map .seq = some it → wpAny (model prog w) A (eval iter env) (fun xv s₁ => wpAny (model prog w) A (pyIter xv) (ItPost prog w Φ ρ A it ds s xv s₁) E s₁) E s := fun h => by
    obtain ⟨e', he, rfl⟩ := om h
    exact seq_ok J he c hv
  cases iter with
  | Call fn args kws pos =>
    refine ⟨fun _ => rfl, ?_⟩
    by_cases hr : nameIs "range" fn = true
    · obtain ⟨p, rfl⟩ := nameIs_some hr
      have h : (if nameIs "range" (.Name "range" p) = true then (if glob sc "range" = true ∧ kws.isEmpty = true then cRange f args else none) else (f (.Call (.Name "range" p) args kws pos)).map .seq) = some it := h
      rw [if_pos hr] at h
      obtain ⟨⟨hg, hk⟩, h2⟩ := oi' h
      cases kws with
      | cons => cases hk
      | nil => exact range_ok G J hg h2 c hv
    · have h : (if nameIs "range" fn = true then (if glob sc "range" = true ∧ kws.isEmpty = true then cRange f args else none) else (f (.Call fn args kws pos)).map .seq) = some it := h
      rw [if_neg hr] at h
      exact seq h
  | Name x p =>
    refine ⟨fun _ => rfl, ?_⟩
    have h : (match dictVar sc (.Name x p) with | some j => some (It.keys j) | none => (f (.Name x p)).map .seq) = some it := h
    cases hd : dictVar sc (.Name x p) with
    | none => rw [hd] at h; exact seq h
    | some j =>
      rw [hd] at h
      cases h
      obtain ⟨x', p', e, hx⟩ := dictVar_some hd
      cases e
      obtain ⟨kvs, hk, hv'⟩ := ob (show ((ρ.dic? j).bind fun kvs => if kvs.length ≤ lim then some (kvs.map fun p => kyD p.1) else none) = some ds from hv)
      obtain ⟨hl, rfl⟩ := oi hv'
      refine load_dic c hx hk fun b hD => wpAny_mono (iter_keys c.ok.hand hD) (fun itv s₂ h₂ => ?_) fun _ _ x => x
      obtain ⟨I, e1, e2, e3⟩ := h₂
      exact ⟨by rw [List.length_map]; exact hl, I, [b], e1, keeps_refl s, e2, e3, .inr (.inl ⟨j, rfl⟩)⟩
  | Subscript => exact ⟨fun _ => rfl, seq h⟩
  | BinOp => exact ⟨fun _ => rfl, seq h⟩
  | List => exact ⟨fun _ => rfl, seq h⟩
  | _ => exact nns h
end
end Mine

namespace Mine
open PySem PySem.Calls PyProof.Rows PySem.SeqAt

section
variable {prog : Program} {w : World} {base : Heap} {fns : List Str} {mg mb : Str → Option Value} {fa : Nat → Addr} {Φ : Fns} {k : Nat}

theorem units8 {A : Around} {h : Heap} (o : Ok base k A h) : A.units + 8 < cLine := by have := o.units; (first | lia | omega)

/-- what a chain of two gives -/
theorem chain_parts {ρ : Rho} {a b c : Mine.E} {o₁ o₂ : Cm} {d : D} (hv : ev Φ ρ (.chain o₁ o₂ a b c) = some d) : ∃ x y p, ev Φ ρ a = some x ∧ ev Φ ρ b = some y ∧ evCmp o₁ x y = some p ∧
    ((p = true ∧ ∃ z r, ev Φ ρ c = some z ∧ evCmp o₂ y z = some r ∧ d = .bool r) ∨ (p = false ∧ d = .bool false)) := by
  replace hv := ob hv
  obtain ⟨x, hx, hv⟩ := hv
  replace hv := ob hv
  obtain ⟨y, hy, hv⟩ := hv
  replace hv := ob hv
  obtain ⟨p, hp, hv⟩ := hv
  refine ⟨x, y, p, hx, hy, hp, ?_⟩
  cases p with
  | true =>
    rw [if_pos rfl] at hv
    replace hv := ob hv
    obtain ⟨z, hz, hv⟩ := hv
    obtain ⟨r, hr, rfl⟩ := om hv
    exact .inl ⟨rfl, z, r, hz, hr, rfl⟩
  | false => cases hv; exact .inr ⟨rfl, rfl⟩

theorem chain_eval {sc : Sc} {f : Expr → Option Mine.E} (J : Judged prog w base Φ k sc f) {l r₁ r₂ : Expr} {a b c : Mine.E} {o₁ o₂ : Cm} {pos : Pos} (hl : f l = some a) (h1 : f r₁ = some b) (h2 : f r₂ = some c) :
    EvOK prog w base Φ k sc (.Compare l [cmA o₁, cmA o₂] [r₁, r₂] pos) (.chain o₁ o₂ a b c) ∧ TrOK prog w base Φ k sc (.Compare l [cmA o₁, cmA o₂] [r₁, r₂] pos) (.chain o₁ o₂ a b c) := by
  have marks : lastMarks [cmA o₁, cmA o₂] [r₁, r₂] = false := cmA_marks o₂ r₂
  constructor
  · intro env ρ A s d E cx hv
    obtain ⟨x, y, p, hx, hy, hc, hrest⟩ := chain_parts hv
    refine Compare_chain (wpAny_mono ((J.1 l a hl).1 env ρ A s x E cx hx) (fun lv s₁ q₁ => ?_) fun _ _ x => x) marks
    have c1 := cx.mono (keeps_heap q₁.1)
    show wpAny _ _ (do
      let rv ← holding [lv] (eval r₁ env)
      standAt pos
      let c ← holding [lv, rv] (compareOp (cmA o₁) lv rv)
      release [lv, rv] [c]
      if ← holding [c, rv] (truthy c) then compareChain pos rv [cmA o₂] [eval r₂ env] else pure c) _ _ _
    refine wpAny_bind (wpAny_holding (wpAny_mono ((J.1 r₁ b h1).1 env ρ A s₁ y E c1 hy) (fun rv s₂ q₂ => wpAny_bind (wpAny_standAt (wpAny_bind (wpAny_holding ?_)))) fun _ _ x => x))
    have k12 := keeps_trans q₁.1 q₂.1
    have c2 := cx.mono (keeps_heap k12)
    refine wpAny_mono (cmp_ok (q₁.2.mono (keeps_heap q₂.1)) q₂.2 hc (units8 c2.ok)) (fun cv s₃ q₃ => wpAny_bind (wpAny_release (wpAny_bind (wpAny_holding ?_)))) fun _ _ x => x
    obtain ⟨rfl, k3⟩ := q₃
    refine wpAny_truthy_bool ?_
    have k13 := keeps_trans k12 k3
    rcases hrest with ⟨rfl, z, r, hz, hr, rfl⟩ | ⟨rfl, rfl⟩
    · rw [if_pos rfl]
      have c3 := cx.mono (keeps_heap k13)
      show wpAny _ _ (do
        let rv' ← holding [rv] (eval r₂ env)
        standAt pos
        operate [rv, rv'] (compareOp (cmA o₂) rv rv')) _ _ _
      refine wpAny_bind (wpAny_holding (wpAny_mono ((J.1 r₂ c h2).1 env ρ A s₃ z E c3 hz) (fun rv' s₄ q₄ => wpAny_bind (wpAny_standAt (wpAny_operate' ?_))) fun _ _ x => x))
      have k14 := keeps_trans k13 q₄.1
      refine wpAny_mono (cmp_ok (q₂.2.mono (keeps_heap (keeps_trans k3 q₄.1))) q₄.2 hr (units8 (cx.mono (keeps_heap k14)).ok)) (fun cv s₅ q₅ => ?_) fun _ _ x => x
      obtain ⟨rfl, k5⟩ := q₅
      exact ⟨keeps_trans k14 k5, .bool _⟩
    · exact wpAny_pure ⟨k13, .bool _⟩
  · intro env ρ A s t E cx hv
    obtain ⟨x, y, p, hx, hy, hc, hrest⟩ := chain_parts hv
    refine isTrue_chain (wpAny_mono ((J.1 l a hl).1 env ρ A s x E cx hx) (fun lv s₁ q₁ => ?_) fun _ _ x => x) marks
    have c1 := cx.mono (keeps_heap q₁.1)
    show wpAny _ _ (do
      let rv ← holding [lv] (eval r₁ env)
      standAt pos
      let c ← holding [lv, rv] (compareOp (cmA o₁) lv rv)
      release [lv, rv] [c]
      if ← holding [c, rv] (truthy c) then testChain pos rv [cmA o₂] [eval r₂ env] else pure false) _ _ _
    refine wpAny_bind (wpAny_holding (wpAny_mono ((J.1 r₁ b h1).1 env ρ A s₁ y E c1 hy) (fun rv s₂ q₂ => wpAny_bind (wpAny_standAt (wpAny_bind (wpAny_holding ?_)))) fun _ _ x => x))
    have k12 := keeps_trans q₁.1 q₂.1
    have c2 := cx.mono (keeps_heap k12)
    refine wpAny_mono (cmp_ok (q₁.2.mono (keeps_heap q₂.1)) q₂.2 hc (units8 c2.ok)) (fun cv s₃ q₃ => wpAny_bind (wpAny_release (wpAny_bind (wpAny_holding ?_)))) fun _ _ x => x
    obtain ⟨rfl, k3⟩ := q₃
    refine wpAny_truthy_bool ?_
    have k13 := keeps_trans k12 k3
    rcases hrest with ⟨rfl, z, r, hz, hr, he⟩ | ⟨rfl, he⟩
    · cases he
      rw [if_pos rfl]
      have c3 := cx.mono (keeps_heap k13)
      show wpAny _ _ (do
        let rv' ← holding [rv] (eval r₂ env)
        standAt pos
        let c ← operate [rv, rv'] (compareOp (cmA o₂) rv rv')
        holding [c] (truthy c)) _ _ _
      refine wpAny_bind (wpAny_holding (wpAny_mono ((J.1 r₂ c h2).1 env ρ A s₃ z E c3 hz) (fun rv' s₄ q₄ => wpAny_bind (wpAny_standAt (wpAny_bind (wpAny_operate' ?_)))) fun _ _ x => x))
      have k14 := keeps_trans k13 q₄.1
      refine wpAny_mono (cmp_ok (q₂.2.mono (keeps_heap (keeps_trans k3 q₄.1))) q₄.2 hr (units8 (cx.mono (keeps_heap k14)).ok)) (fun cv s₅ q₅ => wpAny_holding ?_) fun _ _ x => x
      obtain ⟨rfl, k5⟩ := q₅
      exact wpAny_truthy_bool ⟨rfl, keeps_trans k14 k5⟩
    · cases he
      exact wpAny_pure ⟨rfl, k13⟩

theorem cmp1_ok {sc : Sc} {f : Expr → Option Mine.E} (J : Judged prog w base Φ k sc f) {l r : Expr} {a b : Mine.E} {o : Cm} {pos : Pos} (ha : f l = some a) (hb : f r = some b) :
    EvOK prog w base Φ k sc (.Compare l [cmA o] [r] pos) (.cmp o a b) ∧ TrOK prog w base Φ k sc (.Compare l [cmA o] [r] pos) (.cmp o a b) := by
  constructor
  · intro env ρ A s d E c hv
    replace hv := ob hv
    obtain ⟨x, hx, hv⟩ := hv
    replace hv := ob hv
    obtain ⟨y, hy, hv⟩ := hv
    obtain ⟨t, ht, rfl⟩ := om hv
    refine wpAny_Compare1 (wpAny_mono ((J.1 l a ha).1 env ρ A s x E c hx) (fun lv s₁ q₁ => wpAny_mono ((J.1 r b hb).1 env ρ A s₁ y E (c.mono (keeps_heap q₁.1)) hy) (fun rv s₂ q₂ => ?_) fun _ _ x => x) fun _ _ x => x) (cmA_marks o r)
    have k2 := keeps_trans q₁.1 q₂.1
    refine wpAny_mono (cmp_ok (q₁.2.mono (keeps_heap q₂.1)) q₂.2 ht (units8 (c.mono (keeps_heap k2)).ok)) (fun v s₃ q₃ => ?_) fun _ _ x => x
    obtain ⟨rfl, k3⟩ := q₃
    exact ⟨keeps_trans k2 k3, .bool _⟩
  · intro env ρ A s t E c hv
    replace hv := ob hv
    obtain ⟨x, hx, hv⟩ := hv
    replace hv := ob hv
    obtain ⟨y, hy, hv⟩ := hv
    replace hv := om hv
    obtain ⟨t', ht, he⟩ := hv
    cases he
    refine wpAny_isTrue_Compare1 (wpAny_mono ((J.1 l a ha).1 env ρ A s x E c hx) (fun lv s₁ q₁ => wpAny_mono ((J.1 r b hb).1 env ρ A s₁ y E (c.mono (keeps_heap q₁.1)) hy) (fun rv s₂ q₂ => ?_) fun _ _ x => x) fun _ _ x => x) (cmA_marks o r)
    have k2 := keeps_trans q₁.1 q₂.1
    refine wpAny_mono (cmp_ok (q₁.2.mono (keeps_heap q₂.1)) q₂.2 ht (units8 (c.mono (keeps_heap k2)).ok)) (fun v s₃ q₃ => ?_) fun _ _ x => x
    obtain ⟨rfl, k3⟩ := q₃
    exact wpAny_truthy_bool ⟨rfl, keeps_trans k2 k3⟩

theorem sliced {s : Shared} {A : Around} {E : Value → Shared → Prop} {a : Value} {ds : List D} {vl vu : Value} {lo hi : Option Int} {value : Expr} {l u : Option Expr} {p : Pos} (h0 : V s.heap a (.tup ds)) (pl : IsPart vl lo) (pu : IsPart vu hi)
    (h1 : ∀ i, lo = some i → 0 ≤ i) (h2 : ∀ i, hi = some i → 0 ≤ i) :
    wpAny (model prog w) A (subscriptTail value (.Slice l u none p) a (.ref s.heap.objs.size)) (Post s (.tup (cut ds lo hi))) E { s with heap := s.heap.push { cls := .type "slice", data := .fields #[vl, vu, .none] } } := by
  have hk : Keeps s { s with heap := s.heap.push { cls := .type "slice", data := .fields #[vl, vu, .none] } } := keeps_push s _ s.toks
  have h0' := h0.mono (keeps_heap hk)
  obtain ⟨T, id, t1, t2⟩ := getitem_look h0' rfl
  refine tail_any t1 t2 (wpAny_mono (cut_ok h0' (Heap.IsSliceOf.new ..) pl pu h1 h2) (fun v s' q => ⟨keeps_trans hk q.1, q.2⟩) fun _ _ x => x) rfl

section
variable {sc : Sc} {f : Expr → Option Mine.E} (J : Judged prog w base Φ k sc f)

include J in
theorem unary_ok {op : UnaryOp} {x : Expr} {pos : Pos} {e' : Mine.E} (h : cUn op (f x) = some e') : EvOK prog w base Φ k sc (.UnaryOp op x pos) e' ∧ TrOK prog w base Φ k sc (.UnaryOp op x pos) e' := by
  cases op with
  | USub =>
    obtain ⟨a, ha, rfl⟩ := om (show (f x).map .neg = some e' from h)
    have : EvOK prog w base Φ k sc (.UnaryOp .USub x pos) (.neg a) := by
      intro env ρ A s d E c hv
      replace hv := ob hv
      obtain ⟨i, hi, hv⟩ := hv
      obtain ⟨j, hj, rfl⟩ := om hv
      have := intOf_some hj; subst this
      refine wpAny_UnaryOp (wpAny_mono ((J.1 x a ha).1 env ρ A s _ E c hi) (fun v s₁ q₁ => ?_) fun _ _ x => x)
      obtain ⟨k1, v1⟩ := q₁
      obtain ⟨t, rfl⟩ := v1.int_inv
      exact P.neg_int ⟨keeps_trans k1 (keeps_toks _ _), .int _ _⟩
    exact ⟨this, tr_plain this fun _ _ => rfl⟩
  | Not =>
    obtain ⟨a, ha, rfl⟩ := om (show (f x).map .not = some e' from h)
    constructor
    · intro env ρ A s d E c hv
      replace hv := ob hv
      obtain ⟨i, hi, hv⟩ := hv
      obtain ⟨b, hb, rfl⟩ := om hv
      have := isTrueD_some hb; subst this
      refine wpAny_UnaryOp (wpAny_mono ((J.1 x a ha).1 env ρ A s _ E c hi) (fun v s₁ q₁ => ?_) fun _ _ x => x)
      obtain ⟨k1, v1⟩ := q₁
      have := v1.bool_inv; subst this
      exact not_of (wpAny_truthy_bool ⟨k1, .bool _⟩)
    · intro env ρ A s b E c hv
      replace hv := ob hv
      obtain ⟨i, hi, hv⟩ := hv
      replace hv := om hv
      obtain ⟨b', hb, he⟩ := hv
      have := isTrueD_some hb; subst this
      cases he
      refine isTrue_not (wpAny_mono ((J.1 x a ha).2 env ρ A s _ E c hi) (fun v s₁ q₁ => ?_) fun _ _ x => x)
      obtain ⟨rfl, k1⟩ := q₁
      exact ⟨rfl, k1⟩
  | _ => exact nns h

include J in
theorem slice_ok {v : Expr} {lo hi : Option Expr} {p pos : Pos} {e' : Mine.E} (h : cSlice f v lo hi = some e') : EvOK prog w base Φ k sc (.Subscript v (.Slice lo hi none p) pos) e' := by
  replace h := oi' h
  obtain ⟨hh, h⟩ := h
  cases hi with
  | some => cases hh
  | none =>
  replace h := ob h
  obtain ⟨lo', hlo, h⟩ := h
  subst hlo
  replace h := ob h
  obtain ⟨a, ha, h⟩ := h
  replace h := om h
  obtain ⟨l', hl, rfl⟩ := h
  intro env ρ A s d E c hv
  replace hv := ob hv
  obtain ⟨x, hx, hv⟩ := hv
  replace hv := ob hv
  obtain ⟨y, hy, hv⟩ := hv
  replace hv := ob hv
  obtain ⟨ds, hds, hv⟩ := hv
  replace hv := ob hv
  obtain ⟨i, hi', hv⟩ := hv
  have := tupOf_some hds; subst this
  have := intOf_some hi'; subst this
  obtain ⟨hb, rfl⟩ := oi hv
  refine Subscript_ (wpAny_mono ((J.1 v a ha).1 env ρ A s _ E c hx) (fun o s₁ q₁ => wpAny_Slice ?_) fun _ _ x => x)
  rw [evalPart_some, evalPart_none]
  refine wpAny_mono ((J.1 _ l' hl).1 env ρ A s₁ _ E (c.mono (keeps_heap q₁.1)) hy) (fun lv s₂ q₂ => wpAny_pure (wpAny_pure ?_)) fun _ _ x => x
  obtain ⟨k1, v1⟩ := q₁; obtain ⟨k2, v2⟩ := q₂
  obtain ⟨t, rfl⟩ := v2.int_inv
  exact wpAny_mono (sliced (v1.mono (keeps_heap k2)) (.int i _) .none (fun _ e => by cases e; exact hb) (fun _ e => by cases e)) (fun r s₄ q₄ => ⟨keeps_trans (keeps_trans k1 k2) q₄.1, q₄.2⟩) fun _ _ x => x

theorem in_marks (neg : Bool) (x : Str) (p : Pos) : behindInMarks (if neg = true then .NotIn else .In) (.Name x p) = false := by cases neg <;> rfl
include J in
theorem in_ok {l r : Expr} {neg : Bool} {pos : Pos} {e' : Mine.E} (h : cIn f sc neg l r = some e') :
    EvOK prog w base Φ k sc (.Compare l [if neg = true then .NotIn else .In] [r] pos) e' ∧ TrOK prog w base Φ k sc (.Compare l [if neg = true then .NotIn else .In] [r] pos) e' := by
  replace h := ob h
  obtain ⟨a, ha, h⟩ := h
  replace h := ob h
  obtain ⟨y, hy, h⟩ := h
  replace h := om h
  obtain ⟨j, hj, rfl⟩ := h
  obtain ⟨py, rfl⟩ := nameOf_some hy
  constructor
  · intro env ρ A s d E c hv
    replace hv := ob hv
    obtain ⟨x, hx, hv⟩ := hv
    replace hv := ob hv
    obtain ⟨kk, hk, hv⟩ := hv
    replace hv := ob hv
    obtain ⟨kvs, hkv, hv⟩ := hv
    replace hv := oi hv
    obtain ⟨ho, rfl⟩ := hv
    refine wpAny_Compare1 (wpAny_mono ((J.1 l a ha).1 env ρ A s x E c hx) (fun lv s₁ q₁ => ?_) fun _ _ x => x) (in_marks neg y py)
    have c1 := c.mono (keeps_heap q₁.1)
    refine load_dic c1 hj hkv fun b hD => wpAny_mono (dic_in (units8 c1.ok) hD q₁.2 hk ho) (fun v s₃ q₃ => ?_) fun _ _ x => x
    obtain ⟨rfl, k3⟩ := q₃
    exact ⟨keeps_trans q₁.1 k3, .bool _⟩
  · intro env ρ A s t E c hv
    replace hv := ob hv
    obtain ⟨x, hx, hv⟩ := hv
    replace hv := ob hv
    obtain ⟨kk, hk, hv⟩ := hv
    replace hv := ob hv
    obtain ⟨kvs, hkv, hv⟩ := hv
    replace hv := oi hv
    obtain ⟨ho, he⟩ := hv
    cases he
    refine wpAny_isTrue_Compare1 (wpAny_mono ((J.1 l a ha).1 env ρ A s x E c hx) (fun lv s₁ q₁ => ?_) fun _ _ x => x) (in_marks neg y py)
    have c1 := c.mono (keeps_heap q₁.1)
    refine load_dic c1 hj hkv fun b hD => wpAny_mono (dic_in (units8 c1.ok) hD q₁.2 hk ho) (fun v s₃ q₃ => ?_) fun _ _ x => x
    obtain ⟨rfl, k3⟩ := q₃
    exact wpAny_truthy_bool ⟨rfl, keeps_trans q₁.1 k3⟩

theorem inOf_some {op : CmpOp} {neg : Bool} (h : inOf op = some neg) : op = if neg = true then .NotIn else .In := by
  cases op <;> first | exact nns h | (cases h; rfl)
include J in
theorem compare_ok {l : Expr} {ops : List CmpOp} {rs : List Expr} {pos : Pos} {e' : Mine.E} (h : cCmpE f sc l ops rs = some e') : EvOK prog w base Φ k sc (.Compare l ops rs pos) e' ∧ TrOK prog w base Φ k sc (.Compare l ops rs pos) e' := by
  replace h := ob h
  obtain ⟨c, _, h⟩ := h
  cases c with
  | one op r =>
    cases hn : inOf op with
    | some neg =>
      have h : (match inOf op with | some neg => cIn f sc neg l r | none => (cCm op).bind fun o => (f l).bind fun a => (f r).map fun b => .cmp o a b) = some e' := h
      rw [hn] at h
      have := inOf_some hn; subst this
      exact in_ok J h
    | none =>
    have h : (match inOf op with | some neg => cIn f sc neg l r | none => (cCm op).bind fun o => (f l).bind fun a => (f r).map fun b => .cmp o a b) = some e' := h
    rw [hn] at h
    replace h := ob h
    obtain ⟨o, ho, h⟩ := h
    replace h := ob h
    obtain ⟨a, ha, h⟩ := h
    obtain ⟨b, hb, rfl⟩ := om h
    have := cmA_of ho; subst this
    exact cmp1_ok J ha hb
  | two op₁ op₂ r₁ r₂ =>
    replace h := ob h
    obtain ⟨o₁, ho₁, h⟩ := h
    replace h := ob h
    obtain ⟨o₂, ho₂, h⟩ := h
    replace h := ob h
    obtain ⟨a, ha, h⟩ := h
    replace h := ob h
    obtain ⟨b, hb, h⟩ := h
    replace h := om h
    obtain ⟨c, hc, rfl⟩ := h
    have := cmA_of ho₁; subst this
    have := cmA_of ho₂; subst this
    exact chain_eval J ha hb hc

include J in
theorem sub_ok {v sl : Expr} {pos : Pos} {e' : Mine.E} (h : cSubE f sc v sl = some e') : EvOK prog w base Φ k sc (.Subscript v sl pos) e' := by
  unfold cSubE at h
  by_cases hs : isSlice sl = true
  · rw [if_pos hs] at h
    cases sl <;> first | exact nns hs | exact nnb hs | skip
    rename_i lo hi st p
    obtain ⟨hst, h2⟩ := oi' (show (if st.isNone = true then cSlice f v lo hi else none) = some e' from h)
    cases st with
    | none => exact slice_ok J h2
    | some => cases hst
  · rw [if_neg hs] at h
    have hns : ∀ a b c d, sl ≠ .Slice a b c d := by rintro a b c d rfl; exact hs rfl
    replace h := ob h
    obtain ⟨a, ha, h⟩ := h
    replace h := om h
    obtain ⟨b, hb, rfl⟩ := h
    intro env ρ A s d E c hv
    replace hv := ob hv
    obtain ⟨x, hx, hv⟩ := hv
    replace hv := ob hv
    obtain ⟨y, hy, hv⟩ := hv
    refine Subscript_ (wpAny_mono ((J.1 v a ha).1 env ρ A s _ E c hx) (fun o s₁ q₁ => wpAny_mono ((J.1 _ b hb).1 env ρ A s₁ _ E (c.mono (keeps_heap q₁.1)) hy) (fun iv s₂ q₂ => ?_) fun _ _ x => x) fun _ _ x => x)
    have v1 := q₁.2.mono (keeps_heap q₂.1)
    obtain ⟨ds, hds⟩ := evIdx_items hv
    obtain ⟨T, id, t1, t2⟩ := getitem_look v1 hds
    exact tail_any t1 t2 (wpAny_mono (idx_ok v1 q₂.2 hv) (fun r s₃ q₃ => ⟨keeps_trans (keeps_trans q₁.1 q₂.1) q₃.1, q₃.2⟩) fun _ _ x => x) (sub_plain hns)
end
end
end Mine

namespace Mine
open PySem PySem.Calls PyProof.Rows PySem.SeqAt

section
variable {prog : Program} {w : World} {base : Heap} {fns : List Str} {mg mb : Str → Option Value} {fa : Nat → Addr} {Φ : Fns} {k : Nat}

/-- what a comprehension is made of -/
theorem cComp_parts {g : Sc → Expr → Option Mine.E} {sc : Sc} {elt : Expr} {scope : Scope} {gens : List Comprehension} {e' : Mine.E} (h : cComp g sc elt scope gens = some e') :
    ∃ x px iter ifs it el cd, gens = [⟨.Name x px, iter, ifs, 0⟩] ∧ compOk sc scope x = true ∧ cIt (g sc) sc iter = some it ∧ g (compSc sc scope.names x) elt = some el ∧ e' = .comp el it cd ∧
      ((ifs = [] ∧ cd = .k (.bool true)) ∨ ∃ t, ifs = [t] ∧ g (compSc sc scope.names x) t = some cd) := by
  cases gens with
  | nil => cases h
  | cons c r =>
    obtain ⟨tg, iter, ifs, asy⟩ := c
    replace h := oi' h
    obtain ⟨⟨hr, ha⟩, h⟩ := h
    cases r with
    | cons => cases hr
    | nil =>
    have ha : asy = 0 := ha
    subst ha
    replace h := ob h
    obtain ⟨x, hx, h⟩ := h
    obtain ⟨px, hx'⟩ := nameOf_some hx
    have hx' : tg = .Name x px := hx'
    subst hx'
    replace h := oi' h
    obtain ⟨ho, h⟩ := h
    replace h := ob h
    obtain ⟨it, hit, h⟩ := h
    replace h := ob h
    obtain ⟨el, hel, h⟩ := h
    cases ifs with
    | nil => cases h; exact ⟨x, px, iter, [], it, el, _, rfl, ho, hit, hel, rfl, .inl ⟨rfl, rfl⟩⟩
    | cons t r =>
      obtain ⟨hr, h⟩ := oi' (show (if r.isEmpty = true then (g (compSc sc scope.names x) t).map fun cd => E.comp el it cd else none) = some e' from h)
      cases r with
      | cons => cases hr
      | nil =>
        replace h := om h
        obtain ⟨cd, hcd, rfl⟩ := h
        exact ⟨x, px, iter, [t], it, el, cd, rfl, ho, hit, hel, rfl, .inr ⟨t, rfl, hcd⟩⟩

theorem ev_comp_parts {ρ : Rho} {el cd : Mine.E} {it : It} {d : D} (hv : ev Φ ρ (.comp el it cd) = some d) : ∃ ds res, evIt Φ ρ it = some ds ∧ compO (fun d => (ev Φ (ρ ++ [some (.dat d)]) cd).bind isTrueD) (fun d => ev Φ (ρ ++ [some (.dat d)]) el) ds = some res ∧ D.pures res = true ∧ d = .lst res := by
  replace hv := ob hv
  obtain ⟨ds, hds, hv⟩ := hv
  replace hv := ob hv
  obtain ⟨res, hres, hv⟩ := hv
  replace hv := oi hv
  obtain ⟨hp, rfl⟩ := hv
  exact ⟨ds, res, hds, hres, hp, rfl⟩

theorem it_simple {A : Around} {s : Shared} {E : Value → Shared → Prop} {env : Env} {ρ : Rho} {iter : Expr} {it : It} {ds : List D}
    (h : wpAny (model prog w) A (eval iter env) (fun xv s₁ => wpAny (model prog w) A (pyIter xv) (ItPost prog w Φ ρ A it ds s xv s₁) E s₁) E s) :
    wpAny (model prog w) A (eval iter env) (fun xv s₁ => wpAny (model prog w) A (pyIter xv) (fun itv s₂ => ds.length ≤ lim ∧ ∃ I fp, itv = .ref I ∧ Keeps s s₁ ∧ Keeps s₁ s₂ ∧ Wk prog w A s₁.heap s₂ I fp ds ∧ True) E s₁) E s :=
  wpAny_mono h (fun xv s₁ h₁ => wpAny_mono h₁ (fun itv s₂ h₂ => by obtain ⟨a, I, g, b, c, d, e, _⟩ := h₂; exact ⟨a, I, _, b, c, d, e, trivial⟩) fun _ _ x => x) fun _ _ x => x

theorem ev_sound (G : Gl fns base mg mb fa) (hΦ : FnsOk prog w base Φ fa k) : ∀ (n : Nat) (sc : Sc), Judged prog w base Φ k sc (cE fns n sc)
  | 0, sc => ⟨(fun e e' h => by cases h), (fun _ _ => rfl)⟩
  | n + 1, sc => by
    have J := ev_sound G hΦ n sc
    refine ⟨fun e e' h => ?_, fun _ _ => rfl⟩
    cases e with
    | Constant cn k' pos =>
      obtain ⟨d', hd, rfl⟩ := om (show (cConst cn).map .k = some e' from h)
      have : EvOK prog w base Φ k sc (.Constant cn k' pos) (.k d') := by
        intro env ρ A s d E c hv
        have hv : some d' = some d := hv
        cases hv
        cases cn <;> first | exact nns hd | exact nnb hd | skip
        · cases hd; exact wpAny_pure ⟨keeps_refl s, .none⟩
        · cases hd; exact wpAny_pure ⟨keeps_refl s, .bool _⟩
        · cases hd; exact wpAny_Constant_int post_int
        · cases hd; exact Constant_str ⟨keeps_toks s _, .str _ _⟩
      exact ⟨this, tr_plain this fun _ _ => rfl⟩
    | Name x pos =>
      obtain ⟨hvk, hx⟩ := oi' (show (if (isVarK (sc.kd.lookup x) && !(x == ("__debug__" : Str))) = true then (sc.ix.lookup x).map .v else none) = some e' from h)
      simp only [Bool.and_eq_true, Bool.not_eq_true'] at hvk
      obtain ⟨i, hi, rfl⟩ := om hx
      have : EvOK prog w base Φ k sc (.Name x pos) (.v i) := by
        intro env ρ A s d E c hv
        replace hv := ob hv
        obtain ⟨lo, hlo, hv⟩ := hv
        obtain ⟨v, ha, hV⟩ := c.binds x i lo hvk.1 hi hlo
        exact load_var (sc := sc) (ρ := ρ) c.kind ha ⟨keeps_refl s, hV.val hv⟩ hvk.2
      exact ⟨this, tr_plain this fun _ _ => rfl⟩
    | BinOp l op r pos =>
      obtain ⟨o, ho, h⟩ := ob (show ((cOp op).bind fun o => (cE fns n sc l).bind fun a => (cE fns n sc r).map fun b => .bin o a b) = some e' from h)
      replace h := ob h
      obtain ⟨a, ha, h⟩ := h
      obtain ⟨b, hb, rfl⟩ := om h
      have := opA_of ho; subst this
      have : EvOK prog w base Φ k sc (.BinOp l (opA o) r pos) (.bin o a b) := by
        intro env ρ A s d E c hv
        replace hv := ob hv
        obtain ⟨x, hx, hv⟩ := hv
        replace hv := ob hv
        obtain ⟨y, hy, hv⟩ := hv
        refine wpAny_BinOp (wpAny_mono ((J.1 l a ha).1 env ρ A s x E c hx) (fun lv s₁ q₁ => wpAny_mono ((J.1 r b hb).1 env ρ A s₁ y E (c.mono (keeps_heap q₁.1)) hy) (fun rv s₂ q₂ => ?_) fun _ _ x => x) fun _ _ x => x)
        exact wpAny_mono (bin_ok (q₁.2.mono (keeps_heap q₂.1)) q₂.2 hv) (fun v s₃ q₃ => ⟨keeps_trans (keeps_trans q₁.1 q₂.1) q₃.1, q₃.2⟩) fun _ _ x => x
      exact ⟨this, tr_plain this fun _ _ => rfl⟩
    | UnaryOp op x pos => exact unary_ok J h
    | BoolOp op vs pos =>
      cases vs with
      | nil => cases h
      | cons a r =>
        cases r with
        | nil => cases h
        | cons b r =>
          obtain ⟨h1, h2⟩ := bool_ok J op pos (b :: r) a e' h
          exact ⟨fun env ρ A s d E c hv => h1 env ρ A s d E c hv, fun env ρ A s b E c hv => h2 env ρ A s b E c hv⟩
    | Compare l ops rs pos => exact compare_ok J h
    | Subscript v sl pos =>
      have := sub_ok (pos := pos) J (show cSubE (cE fns n sc) sc v sl = some e' from h)
      exact ⟨this, tr_plain this fun _ _ => rfl⟩
    | Tuple es k' pos =>
      obtain ⟨x, hx, h⟩ := ob (show ((cEs (cE fns n sc) es).bind fun x => if x.size ≤ 1000 then some (.tup x) else none) = some e' from h)
      obtain ⟨hsz, rfl⟩ := oi h
      have : EvOK prog w base Φ k sc (.Tuple es k' pos) (.tup x) := by
        intro env ρ A s d E c hv
        obtain ⟨ds, hds, rfl⟩ := om hv
        refine Tuple_ (wpAny_mono (args_ok J es x hx env ρ A s ds E pos c hds) (fun vs s₁ q₁ => ?_) fun _ _ x => x)
        have hl := evs_size x ρ ds hds
        have hl2 := q₁.2.length
        have hlim : ds.length ≤ lim := small_lim (by (first | lia | omega))
        refine wpAny_newObj_type ?_ (by show vs.toArray.size ≤ sizeLine; rw [List.size_toArray]; have := lim_line; (first | lia | omega))
        have := new_tuple q₁.2 hlim
        exact ⟨keeps_trans q₁.1 this.1, this.2⟩
      exact ⟨this, tr_plain this fun _ _ => rfl⟩
    | List es pos =>
      obtain ⟨x, hx, h⟩ := ob (show ((cEs (cE fns n sc) es).bind fun x => if x.size ≤ 1000 then some (.lst x) else none) = some e' from h)
      obtain ⟨hsz, rfl⟩ := oi h
      have : EvOK prog w base Φ k sc (.List es pos) (.lst x) := by
        intro env ρ A s d E c hv
        obtain ⟨ds, hds, rfl⟩ := om hv
        refine List_ (wpAny_mono (args_ok J es x hx env ρ A s ds E pos c hds) (fun vs s₁ q₁ => ?_) fun _ _ x => x)
        have hl := evs_size x ρ ds hds
        have hl2 := q₁.2.length
        have hlim : ds.length ≤ lim := small_lim (by (first | lia | omega))
        refine wpAny_newObj_type ?_ (by show vs.toArray.size ≤ sizeLine; rw [List.size_toArray]; have := lim_line; (first | lia | omega))
        have := new_list q₁.2 hlim
        exact ⟨keeps_trans q₁.1 this.1, this.2⟩
      exact ⟨this, tr_plain this fun _ _ => rfl⟩
    | Call fn args kws pos =>
      obtain ⟨hk, h2⟩ := oi' (show (if kws.isEmpty = true then cCallE (cE fns n sc) fns sc args fn else none) = some e' from h)
      cases kws with
      | cons => cases hk
      | nil =>
        suffices hh : EvOK prog w base Φ k sc (.Call fn args [] pos) e' from ⟨hh, tr_plain hh fun _ _ => rfl⟩
        cases fn with
        | Name f p => exact call_ok G hΦ J h2
        | _ => cases h2
    | ListComp elt gens scope pos =>
      suffices hh : EvOK prog w base Φ k sc (.ListComp elt gens scope pos) e' from ⟨hh, tr_plain hh fun _ _ => rfl⟩
      obtain ⟨x, px, iter, ifs, it, el, cd, rfl, hco, hit, hel, rfl, hcd⟩ := cComp_parts h
      have o := compOk_of hco
      have J' := ev_sound G hΦ n (compSc sc scope.names x)
      intro env ρ A s d E c hv
      obtain ⟨ds, res, hds, hres, hp, rfl⟩ := ev_comp_parts hv
      obtain ⟨hs, hi⟩ := it_ok (prog := prog) (w := w) (E := E) G J hit c hds
      rw [eval_ListComp]
      refine comp_ok (use := none) c o hs (it_simple hi) ((J'.1 elt el hel).1) (hcd.imp id fun ⟨t, e, q⟩ => ⟨t, e, (J'.1 t cd q).2⟩) hres hp ?_
      intro Dd C s' m' ys hdl hk hD hC hDC hn hl hvs
      refine ⟨m', hn, fun h'' hs'' => ?_⟩
      have hlen : res.length ≤ lim := Nat.le_trans (compO_len hres) hdl
      have tk : ∀ a items, s'.heap.IsTuple a items → h''.IsTuple a items := tup_keep [C] (fun b o hb e => by
        simp only [List.mem_cons, List.not_mem_nil, or_false] at hb
        exact hs''.extBut b o hb e) (fun b hb => by rw [List.mem_singleton.mp hb]; exact badNs hn)
      obtain ⟨h₀, t₀, rfl, hk₀⟩ := hk
      exact ⟨⟨h'', t₀, rfl, fun b o e => hs''.extBut b o (fun q => by rw [q, hC] at e; cases e) (hk₀ b o e)⟩, .lst (hl.extBut hs''.extBut hDC) (hvs.pureKeep tk hp) hlen⟩
    | _ => exact nns h
end
end Mine

namespace Mine
open PySem PySem.Calls PyProof.Rows PySem.SeqAt

noncomputable def LoV (prog : Program) (w : World) (h₀ h : Heap) (a : Addr) (v : Value) : Lo → Prop
  | .dat d => V h v d ∧ d.pure = true
  | .arg d => V h₀ v d
  | .own ds => v = .ref a ∧ ∃ vs, h.PlainList a (List.toArray vs) ∧ Vs h vs ds ∧ D.pures ds = true ∧ ds.length ≤ lim
  | .dic kvs => v = .ref a ∧ DicAt prog w h a kvs
noncomputable def MutAt (h : Heap) (L a : Addr) (lo : Lo) : Prop := a ≠ L ∧ match lo with
  | .own _ => ∃ xs, h.PlainList a xs
  | .dic _ => ∃ o es ep, h.get? a = some o ∧ o.ExactDict ∧ o.data = .dict es ep
  | .dat _ => True
  | .arg _ => True

theorem MutAt.at {h h' : Heap} {L a : Addr} {lo : Lo} (x : MutAt h L a lo) (k : ∀ o, h.get? a = some o → h'.get? a = some o) : MutAt h' L a lo := by
  obtain ⟨n, x⟩ := x
  refine ⟨n, ?_⟩
  cases lo with
  | own ds => obtain ⟨xs, p⟩ := x; exact ⟨xs, p.at k⟩
  | dic kvs => obtain ⟨o, es, ep, p, q⟩ := x; exact ⟨o, es, ep, k o p, q⟩
  | dat d => trivial
  | arg d => trivial
theorem MutAt.obj {h : Heap} {L a : Addr} {lo : Lo} (x : MutAt h L a lo) (m : lo.mine = true) : ∃ o, h.get? a = some o ∧ o.cls ≠ .type "tuple" ∧ (∀ v, o.data ≠ .cell v) ∧ ∀ vs, o.data ≠ .fields vs := by
  obtain ⟨n, x⟩ := x
  cases lo with
  | own ds =>
    obtain ⟨xs, m, ho⟩ := x
    exact ⟨_, ho, (fun q => by simp at q), (fun v q => by cases q), (fun v q => by cases q)⟩
  | dic kvs =>
    obtain ⟨o, es, ep, h1, h2, h3⟩ := x
    exact ⟨o, h1, (fun q => by rw [h2.1] at q; simp at q), (fun v q => by rw [h3] at q; cases q), (fun v q => by rw [h3] at q; cases q)⟩
  | dat d => cases m
  | arg d => cases m
theorem MutAt.notuple {h : Heap} {L a b : Addr} {lo : Lo} {items : Array Value} (x : MutAt h L a lo) (m : lo.mine = true) (y : h.IsTuple b items) : b ≠ a := by
  rintro rfl
  obtain ⟨o, ho, hc, _⟩ := x.obj m
  obtain ⟨o', ho', hc', _⟩ := y
  rw [ho] at ho'; cases ho'
  exact hc hc'
theorem MutAt.nocell {h : Heap} {L a b : Addr} {lo : Lo} {v : Option Value} (x : MutAt h L a lo) (m : lo.mine = true) (y : h.IsCell b v) : a ≠ b := by
  rintro rfl
  obtain ⟨o, ho, _, hc, _⟩ := x.obj m
  obtain ⟨o', ho', hd⟩ := y
  rw [ho] at ho'; cases ho'
  exact hc _ hd
theorem LoV.change {prog : Program} {w : World} {h₀ h h' : Heap} {a : Addr} {v : Value} {lo : Lo} (x : LoV prog w h₀ h a v lo) (kt : ∀ a items, h.IsTuple a items → h'.IsTuple a items) (kl : lo.mine = true → ∀ o, h.get? a = some o → h'.get? a = some o) : LoV prog w h₀ h' a v lo := by
  cases lo with
  | dat d => exact ⟨x.1.pureKeep kt x.2, x.2⟩
  | arg d => exact x
  | own ds =>
    obtain ⟨e, vs, p, q, r, l⟩ := x
    exact ⟨e, vs, p.at (kl rfl), q.pureKeep kt r, r, l⟩
  | dic kvs => exact ⟨x.1, x.2.change (kl rfl) kt⟩
theorem LoV.c {prog : Program} {w : World} {h₀ h : Heap} {a : Addr} {v : Value} {lo : Lo} (x : LoV prog w h₀ h a v lo) (k : ∀ b o, h₀.get? b = some o → h.get? b = some o) : LoC prog w h v lo := by
  cases lo with
  | dat d => exact x.1
  | arg d => exact V.mono k x
  | own ds =>
    obtain ⟨rfl, vs, p, q, r, l⟩ := x
    exact .lst p q l
  | dic kvs => exact ⟨a, x.1, x.2⟩
theorem LoV.mut {prog : Program} {w : World} {h₀ h : Heap} {L a : Addr} {v : Value} {lo : Lo} (x : LoV prog w h₀ h a v lo) (n : a ≠ L) : MutAt h L a lo := by
  refine ⟨n, ?_⟩
  cases lo with
  | dat d => trivial
  | arg d => trivial
  | own ds => obtain ⟨_, vs, p, _⟩ := x; exact ⟨_, p⟩
  | dic kvs => exact x.2.obj

/-- tuples stay -/
noncomputable def Tk (h h' : Heap) : Prop := ∀ a items, h.IsTuple a items → h'.IsTuple a items

/-- a frame -/
structure Inv (prog : Program) (w : World) (base h₀ : Heap) (k : Nat) (sc : Sc) (env : Env) (T : List (Addr × Obj)) (ρ : Rho) (A : Around) (h : Heap) : Prop where
  names : env.scope.names = sc.kd
  kind : env.scope.kind = .function
  glob : env.globals = mainGlobals
  blt : env.builtins = builtinsNs
  cells : ∀ x, sc.kd.lookup x = some .cell → (env.cells.lookup x).isSome = true
  len : ρ.length = sc.n
  inj : ∀ x y i, sc.ix.lookup x = some i → sc.ix.lookup y = some i → x = y
  lt : ∀ x i, sc.ix.lookup x = some i → i < sc.n
  keep : ∀ b o, h₀.get? b = some o → h.get? b = some o
  newL : h₀.get? env.locals = none
  ns : ∃ m, h.Ns env.locals m
  cel : ∀ x c, env.cells.lookup x = some c → h₀.get? c = none ∧ c ≠ env.locals ∧ (∃ v, h.IsCell c v) ∧ ∀ y, env.cells.lookup y = some c → y = x
  own : ∃ α : Nat → Addr,
    (∀ x i lo, isVarK (sc.kd.lookup x) = true → sc.ix.lookup x = some i → ρ.get i = some lo → ∃ v, At h env x v ∧ LoV prog w h₀ h (α i) v lo) ∧
    (∀ i lo, ρ.get i = some lo → lo.mine = true → h₀.get? (α i) = none ∧ (∀ p ∈ T, p.1 ≠ α i) ∧ MutAt h env.locals (α i) lo) ∧
    (∀ i j lo lo', ρ.get i = some lo → ρ.get j = some lo' → lo.mine = true → lo'.mine = true → i ≠ j → α i ≠ α j)
  prot : ∀ p ∈ T, h.get? p.1 = some p.2 ∧ p.1 ≠ env.locals ∧ ∀ x, env.cells.lookup x ≠ some p.1
  ok : Ok base k A h
  frame : env.frame = some env.locals
  stk : ∃ l, A.frames = some (env :: l)
  above : h₀.objs.size ≤ env.locals
  bse : ∀ b o, base.get? b = some o → h₀.get? b = some o

section
variable {prog : Program} {w : World} {base h₀ h h' : Heap} {k : Nat} {sc : Sc} {env : Env} {T : List (Addr × Obj)} {ρ : Rho} {A : Around}

theorem Inv.cx (I : Inv prog w base h₀ k sc env T ρ A h) : Cx prog w base k sc env ρ A h :=
  ⟨I.names, I.kind, I.glob, I.blt, I.cells, I.len, fun x i lo h1 h2 h3 => by obtain ⟨α, a, _, _⟩ := I.own; obtain ⟨v, p, q⟩ := a x i lo h1 h2 h3; exact ⟨v, p, q.c I.keep⟩, I.ok⟩
theorem Inv.kindOf (I : Inv prog w base h₀ k sc env T ρ A h) (x : Str) : env.kindOf x = sc.kd.lookup x := I.cx.kindOf x

theorem Inv.mono (I : Inv prog w base h₀ k sc env T ρ A h) (e : ∀ b o, h.get? b = some o → h'.get? b = some o) : Inv prog w base h₀ k sc env T ρ A h' := by
  obtain ⟨α, a1, a2, a3⟩ := I.own
  refine ⟨I.names, I.kind, I.glob, I.blt, I.cells, I.len, I.inj, I.lt, fun b o q => e b o (I.keep b o q), I.newL, let ⟨m, hm⟩ := I.ns; ⟨m, hm.keeps e⟩, fun x c hc => ?_, ⟨α, fun x i lo h1 h2 h3 => ?_, fun i lo hi hm => ?_, a3⟩, fun p hp => ?_, I.ok.mono e, I.frame, I.stk, I.above, I.bse⟩
  · obtain ⟨p, q, ⟨v, r⟩, t⟩ := I.cel x c hc
    exact ⟨p, q, ⟨v, r.keeps e⟩, t⟩
  · obtain ⟨v, p, q⟩ := a1 x i lo h1 h2 h3
    exact ⟨v, p.mono e, q.change (fun a items t => IsTuple_keep t e) fun _ o => e _ o⟩
  · obtain ⟨p, q, r⟩ := a2 i lo hi hm
    exact ⟨p, q, r.at fun o => e _ o⟩
  · obtain ⟨p, q⟩ := I.prot p hp
    exact ⟨e _ _ p, q⟩

theorem rho_set {ρ : Rho} {i j : Nat} {v : Option Lo} (hi : i < ρ.length) : Rho.get (ρ.set i v) j = if i = j then v else Rho.get ρ j := by
  unfold Rho.get
  by_cases h : i = j
  · subst h; simp [hi]
  · simp [h, List.getElem?_set_ne h]

theorem ns_fun {a : Addr} {m m' : Str → Option Value} (x : h.Ns a m) (y : h.Ns a m') : m = m' := by
  obtain ⟨o, es, ep, ho, hd, _, hm⟩ := x
  obtain ⟨o', es', ep', ho', hd', _, hm'⟩ := y
  rw [ho] at ho'; cases ho'
  rw [hd] at hd'; cases hd'
  funext n; rw [← hm, ← hm']

theorem ns_notuple {a b : Addr} {m : Str → Option Value} {items : Array Value} (x : h.Ns a m) (y : h.IsTuple b items) : b ≠ a := by
  rintro rfl
  obtain ⟨o, es, ep, ho, hd, _⟩ := x
  obtain ⟨o', ho', _, n, hd'⟩ := y
  rw [ho] at ho'; cases ho'
  rw [hd] at hd'; cases hd'
theorem cell_notuple {a b : Addr} {v : Option Value} {items : Array Value} (x : h.IsCell a v) (y : h.IsTuple b items) : b ≠ a := by
  rintro rfl
  obtain ⟨o, ho, hd⟩ := x
  obtain ⟨o', ho', _, n, hd'⟩ := y
  rw [ho] at ho'; cases ho'
  rw [hd] at hd'; cases hd'
theorem list_notuple {a b : Addr} {xs items : Array Value} (x : h.PlainList a xs) (y : h.IsTuple b items) : b ≠ a := by
  rintro rfl
  obtain ⟨n, ho⟩ := x
  obtain ⟨o', ho', hc, _⟩ := y
  rw [ho] at ho'; cases ho'
  simp at hc
theorem tuple_but {a : Addr} (hs : Heap.SameBut a h h') (hn : ∀ b items, h.IsTuple b items → b ≠ a) : ∀ b items, h.IsTuple b items → h'.IsTuple b items :=
  fun b items x => x.extBut hs.extBut (hn b items x)

theorem funFrames_any {h h' base : Heap} (k : ∀ b o, h.get? b = some o → (∀ vs, o.data ≠ .fields vs) → ∃ o', h'.get? b = some o' ∧ ∀ vs, o'.data ≠ .fields vs) {l : List Env} (hl : h.FunFrames base l) : h'.FunFrames base l := by
  induction l with
  | nil => trivial
  | cons env rest ih =>
    obtain ⟨hk, ⟨L, o, hf, hn, ho, hd⟩, hr⟩ := hl
    obtain ⟨o', ho', hd'⟩ := k L o ho hd
    exact ⟨hk, ⟨L, o', hf, hn, ho', hd'⟩, ih hr⟩

/-- one object that is none of the base's is changed -/
theorem Ok.change {a : Addr} {o' : Obj} (x : Ok base k A h) (hs : Heap.SameBut a h h') (ha : base.get? a = none) (ho : h'.get? a = some o') (hf : ∀ vs, o'.data ≠ .fields vs) : Ok base k A h' := by
  obtain ⟨a1, a2, a3, l, L⟩ := x
  refine ⟨a1, a2, a3, l, L.stack, fun b o q => hs.extBut b o (fun e => by rw [e, ha] at q; cases q) (L.stays b o q), funFrames_any (fun b o hb hn => ?_) L.frames⟩
  by_cases e : b = a
  · subst e; exact ⟨o', ho, hf⟩
  · exact ⟨o, hs.extBut b o e hb, hn⟩

theorem base_none {a : Addr} (I : Inv prog w base h₀ k sc env T ρ A h) (ha : h₀.get? a = none) : base.get? a = none := by
  cases q : base.get? a with
  | none => rfl
  | some o => rw [I.bse _ _ q] at ha; cases ha

/-- an object of the frame's own is changed; x at i holds anew -/
theorem Inv.change {a : Addr} {o' : Obj} {x : Str} {i : Nat} {lo' : Lo} {v : Value} {a' : Addr} (I : Inv prog w base h₀ k sc env T ρ A h)
    (hx : isVarK (sc.kd.lookup x) = true) (hi : sc.ix.lookup x = some i)
    (hs : Heap.SameBut a h h') (ha : h₀.get? a = none) (hT : ∀ p ∈ T, p.1 ≠ a) (ho : h'.get? a = some o') (hf : ∀ vs, o'.data ≠ .fields vs) (htup : ∀ b items, h.IsTuple b items → b ≠ a)
    (hns : ∃ m, h'.Ns env.locals m) (hcel : ∀ y c, env.cells.lookup y = some c → ∃ v, h'.IsCell c v)
    (hAt : ∀ y w, y ≠ x → At h env y w → At h' env y w) (hAx : At h' env x v)
    (α : Nat → Addr) (h1 : ∀ x i lo, isVarK (sc.kd.lookup x) = true → sc.ix.lookup x = some i → ρ.get i = some lo → ∃ v, At h env x v ∧ LoV prog w h₀ h (α i) v lo)
    (h2 : ∀ i lo, ρ.get i = some lo → lo.mine = true → h₀.get? (α i) = none ∧ (∀ p ∈ T, p.1 ≠ α i) ∧ MutAt h env.locals (α i) lo) (h3 : ∀ i j lo lo', ρ.get i = some lo → ρ.get j = some lo' → lo.mine = true → lo'.mine = true → i ≠ j → α i ≠ α j)
    (hoth : ∀ j lo, j ≠ i → ρ.get j = some lo → lo.mine = true → α j ≠ a)
    (hlo : LoV prog w h₀ h' a' v lo') (hnew : lo'.mine = true → h₀.get? a' = none ∧ (∀ p ∈ T, p.1 ≠ a') ∧ a' ≠ env.locals ∧ ∀ j lo, j ≠ i → ρ.get j = some lo → lo.mine = true → α j ≠ a') :
    Inv prog w base h₀ k sc env T (ρ.set i (some lo')) A h' := by
  have kt := tuple_but hs htup
  have hlt : i < ρ.length := by rw [I.len]; exact I.lt x i hi
  refine ⟨I.names, I.kind, I.glob, I.blt, I.cells, by simp [I.len], I.inj, I.lt, fun b o q => hs.extBut b o (fun e => by rw [e, ha] at q; cases q) (I.keep b o q), I.newL, hns, fun y c hc => ?_, ⟨fun j => if j = i then a' else α j, fun y j lo q1 q2 q3 => ?_, fun j lo q qm => ?_, fun j j' lo1 lo2 q1 q2 m1 m2 q3 => ?_⟩, fun p hp => ?_, I.ok.change hs (base_none I ha) ho hf, I.frame, I.stk, I.above, I.bse⟩
  · obtain ⟨p, q, _, t⟩ := I.cel y c hc
    exact ⟨p, q, hcel y c hc, t⟩
  · rw [rho_set hlt] at q3
    by_cases e : i = j
    · subst e
      rw [if_pos rfl] at q3
      cases q3
      have := I.inj x y i hi q2; subst this
      exact ⟨v, hAx, by dsimp only; rw [if_pos rfl]; exact hlo⟩
    · rw [if_neg e] at q3
      have hxy : y ≠ x := by rintro rfl; rw [hi] at q2; cases q2; exact e rfl
      obtain ⟨w, p, q⟩ := h1 y j lo q1 q2 q3
      refine ⟨w, hAt y w hxy p, ?_⟩
      dsimp only
      rw [if_neg (Ne.symm e)]
      exact q.change kt fun hm o ho => hs.extBut _ o (hoth j lo (Ne.symm e) q3 hm) ho
  · rw [rho_set hlt] at q
    by_cases e : i = j
    · subst e
      rw [if_pos rfl] at q
      cases q
      obtain ⟨p1, p2, p3, _⟩ := hnew qm
      dsimp only
      rw [if_pos rfl]
      exact ⟨p1, p2, hlo.mut p3⟩
    · rw [if_neg e] at q
      dsimp only
      rw [if_neg (Ne.symm e)]
      obtain ⟨p1, p2, p3⟩ := h2 j lo q qm
      exact ⟨p1, p2, p3.at fun o ho => hs.extBut _ o (hoth j lo (Ne.symm e) q qm) ho⟩
  · rw [rho_set hlt] at q1 q2
    by_cases e : i = j
    · subst e
      rw [if_pos rfl] at q1
      cases q1
      rw [if_neg q3] at q2
      dsimp only
      rw [if_pos rfl, if_neg (Ne.symm q3)]
      exact Ne.symm ((hnew m1).2.2.2 j' lo2 (Ne.symm q3) q2 m2)
    · rw [if_neg e] at q1
      by_cases e' : i = j'
      · subst e'
        rw [if_pos rfl] at q2
        cases q2
        dsimp only
        rw [if_pos rfl, if_neg (Ne.symm e)]
        exact (hnew m2).2.2.2 j lo1 (Ne.symm e) q1 m1
      · rw [if_neg e'] at q2
        dsimp only
        rw [if_neg (Ne.symm e), if_neg (Ne.symm e')]
        exact h3 j j' lo1 lo2 q1 q2 m1 m2 q3
  · obtain ⟨p1, p2⟩ := I.prot p hp
    exact ⟨hs.extBut _ _ (hT p hp) p1, p2⟩
theorem Inv.tl_ne (I : Inv prog w base h₀ k sc env T ρ A h) (b : Addr) (hb : h.get? b = none) : ∀ p ∈ T, p.1 ≠ b := by
  rintro p hp rfl
  rw [(I.prot p hp).1] at hb; cases hb
theorem Inv.h0_none (I : Inv prog w base h₀ k sc env T ρ A h) {b : Addr} (hb : h.get? b = none) : h₀.get? b = none := by
  cases q : h₀.get? b with
  | none => rfl
  | some o => rw [I.keep _ _ q] at hb; cases hb
end

section
variable {prog : Program} {w : World} {base h₀ h h' : Heap} {k : Nat} {sc : Sc} {env : Env} {T : List (Addr × Obj)} {ρ : Rho} {A : Around}
/-- what is guarded may be less -/
theorem Inv.less {T' : List (Addr × Obj)} (I : Inv prog w base h₀ k sc env T ρ A h) (hT : ∀ p ∈ T', p ∈ T) : Inv prog w base h₀ k sc env T' ρ A h := by
  obtain ⟨α, a1, a2, a3⟩ := I.own
  exact ⟨I.names, I.kind, I.glob, I.blt, I.cells, I.len, I.inj, I.lt, I.keep, I.newL, I.ns, I.cel, ⟨α, a1, fun i lo q qm => let ⟨p1, p2, p3⟩ := a2 i lo q qm; ⟨p1, fun p hp => p2 p (hT p hp), p3⟩, a3⟩, fun p hp => I.prot p (hT p hp), I.ok, I.frame, I.stk, I.above, I.bse⟩

/-- one object more is guarded -/
theorem Inv.guard {b : Addr} {o : Obj} (I : Inv prog w base h₀ k sc env T ρ A h) (hb : h.get? b = some o) (hd : ∀ es n, o.data ≠ .dict es n) (hc : ∀ v, o.data ≠ .cell v)
    (ho : (∀ xs, ¬ h.PlainList b xs) ∨ (h₀.get? b ≠ none) ∨ ∀ i ds, ρ.get i ≠ some (.own ds)) : Inv prog w base h₀ k sc env ((b, o) :: T) ρ A h := by
  obtain ⟨α, a1, a2, a3⟩ := I.own
  refine ⟨I.names, I.kind, I.glob, I.blt, I.cells, I.len, I.inj, I.lt, I.keep, I.newL, I.ns, I.cel, ⟨α, a1, fun i lo q qm => ?_, a3⟩, fun p hp => ?_, I.ok, I.frame, I.stk, I.above, I.bse⟩
  · obtain ⟨p1, p2, p3⟩ := a2 i lo q qm
    refine ⟨p1, fun p hp => ?_, p3⟩
    rcases List.mem_cons.mp hp with rfl | hp
    · rintro rfl
      cases lo with
      | own ds =>
        rcases ho with e | e | e
        · obtain ⟨xs, p3⟩ := p3.2
          exact e xs p3
        · exact e p1
        · exact e i ds q
      | dic kvs =>
        obtain ⟨o', es, ep, q1, _, q2⟩ := p3.2
        have hb : h.get? (α i) = some o := hb
        rw [hb] at q1; cases q1
        exact hd _ _ q2
      | dat d => cases qm
      | arg d => cases qm
    · exact p2 p hp
  · rcases List.mem_cons.mp hp with rfl | hp
    · refine ⟨hb, ?_, fun x q => ?_⟩
      · rintro rfl
        obtain ⟨m, o', es, ep, ho', hd', _⟩ := I.ns
        have hb' : h.get? env.locals = some o := hb
        rw [hb'] at ho'; cases ho'
        exact hd _ _ hd'
      · obtain ⟨_, _, ⟨v, o', ho', hd'⟩, _⟩ := I.cel x b q
        rw [hb] at ho'; cases ho'
        exact hc _ hd'
    · exact I.prot p hp

/-- an object that the frame does not look at is changed -/
theorem Inv.other {b : Addr} {o o' : Obj} {fs fs' : Array Value} (I : Inv prog w base h₀ k sc env T ρ A h) (hb : h.get? b = some o) (hd : o.data = .fields fs) (h0 : h₀.get? b = none) (hT : ∀ p ∈ T, p.1 ≠ b)
    (hk : ∀ a q, a ≠ b → h.get? a = some q → h'.get? a = some q) : Inv prog w base h₀ k sc env T ρ A h' := by
  have neL : env.locals ≠ b := by
    rintro e
    obtain ⟨m, o'', es, ep, ho', hd', _⟩ := I.ns
    rw [e, hb] at ho'; cases ho'
    rw [hd] at hd'; cases hd'
  have neC : ∀ x c, env.cells.lookup x = some c → c ≠ b := by
    rintro x c hx rfl
    obtain ⟨_, _, ⟨v, o'', ho', hd'⟩, _⟩ := I.cel x c hx
    rw [hb] at ho'; cases ho'
    rw [hd] at hd'; cases hd'
  have kt : ∀ a items, h.IsTuple a items → h'.IsTuple a items := by
    rintro a items ⟨o'', ho', hc, n, hd'⟩
    exact ⟨o'', hk a o'' (by rintro rfl; rw [hb] at ho'; cases ho'; rw [hd] at hd'; cases hd') ho', hc, n, hd'⟩
  have kl : ∀ a lo, MutAt h env.locals a lo → lo.mine = true → a ≠ b := by
    rintro a lo hM hm rfl
    obtain ⟨o', ho', _, _, hf⟩ := hM.obj hm
    rw [hb] at ho'; cases ho'; exact hf _ hd
  obtain ⟨α, a1, a2, a3⟩ := I.own
  refine ⟨I.names, I.kind, I.glob, I.blt, I.cells, I.len, I.inj, I.lt, fun a q e => hk a q (by rintro rfl; rw [h0] at e; cases e) (I.keep a q e), I.newL, let ⟨m, hm⟩ := I.ns; ⟨m, hm.at' fun o e => hk _ o neL e⟩, fun x c hx => ?_, ⟨α, fun x i lo q1 q2 q3 => ?_, fun i lo q qm => ?_, a3⟩, fun p hp => ?_, ?_, I.frame, I.stk, I.above, I.bse⟩
  · obtain ⟨p1, p2, ⟨v, o'', ho', hd'⟩, p4⟩ := I.cel x c hx
    exact ⟨p1, p2, ⟨v, o'', hk c o'' (neC x c hx) ho', hd'⟩, p4⟩
  · obtain ⟨v, p, q⟩ := a1 x i lo q1 q2 q3
    refine ⟨v, ?_, q.change kt fun hm o ho => hk _ o (kl _ _ (a2 i lo q3 hm).2.2 hm) ho⟩
    · cases p with
      | loc m e1 e2 e3 => exact .loc m e1 (e2.at' fun o e => hk _ o neL e) e3
      | cell c e1 e2 e3 => obtain ⟨o'', ho', hd'⟩ := e3; exact .cell c e1 e2 ⟨o'', hk c o'' (neC x c e2) ho', hd'⟩
  · obtain ⟨p1, p2, p3⟩ := a2 i lo q qm
    exact ⟨p1, p2, p3.at fun o e => hk _ o (kl _ _ p3 qm) e⟩
  · obtain ⟨p1, p2⟩ := I.prot p hp
    exact ⟨hk _ _ (hT p hp) p1, p2⟩
  · obtain ⟨x1, x2, x3, l, L⟩ := I.ok
    refine ⟨x1, x2, x3, l, L.stack, fun a q e => hk a q (by rintro rfl; have := I.bse _ _ e; rw [h0] at this; cases this) (L.stays a q e), funFrames_any (fun a q ha hn => ⟨q, hk a q (by rintro rfl; rw [hb] at ha; cases ha; exact hn _ hd) ha, hn⟩) L.frames⟩
end

section
variable {prog : Program} {w : World} {base h₀ : Heap} {k : Nat} {sc : Sc} {env : Env} {T : List (Addr × Obj)} {ρ : Rho} {A : Around} {E : Value → Shared → Prop} {s : Shared}

/-- a name is stored: data, or a list that was not there at hb -/
theorem store_ok {A' : Around} {hb : Heap} {x : Str} {i : Nat} {v : Value} {lo' : Lo} {a' : Addr} {Q : Unit → Shared → Prop} (I : Inv prog w base h₀ k sc env T ρ A hb)
    (K : ∀ b o, hb.get? b = some o → s.heap.get? b = some o)
    (hx : isVarK (sc.kd.lookup x) = true) (hi : sc.ix.lookup x = some i) (hlo : LoV prog w h₀ s.heap a' v lo') (hnew : lo'.mine = true → hb.get? a' = none)
    (hQ : ∀ h' tk, Inv prog w base h₀ k sc env T (ρ.set i (some lo')) A h' → Tk s.heap h' → (∃ a, Heap.SameBut a s.heap h' ∧ (a = env.locals ∨ ∃ y, env.cells.lookup y = some a)) → Q () { s with heap := h', toks := tk }) : wpAny (model prog w) A' (storeName env x v) Q E s := by
  have I' := I.mono K
  obtain ⟨α, a1, a2, a3⟩ := I.own
  have b1 : ∀ x i lo, isVarK (sc.kd.lookup x) = true → sc.ix.lookup x = some i → ρ.get i = some lo → ∃ v, At s.heap env x v ∧ LoV prog w h₀ s.heap (α i) v lo := fun x i lo q1 q2 q3 =>
    let ⟨v, p, q⟩ := a1 x i lo q1 q2 q3; ⟨v, p.mono K, q.change (fun a items t => IsTuple_keep t K) fun _ o => K _ o⟩
  have b2 : ∀ i lo, ρ.get i = some lo → lo.mine = true → h₀.get? (α i) = none ∧ (∀ p ∈ T, p.1 ≠ α i) ∧ MutAt s.heap env.locals (α i) lo := fun i lo q qm =>
    let ⟨p1, p2, p3⟩ := a2 i lo q qm; ⟨p1, p2, p3.at fun o => K _ o⟩
  have new : lo'.mine = true → h₀.get? a' = none ∧ (∀ p ∈ T, p.1 ≠ a') ∧ a' ≠ env.locals ∧ ∀ j lo, j ≠ i → ρ.get j = some lo → lo.mine = true → α j ≠ a' := fun e => by
    have hn := hnew e
    refine ⟨I.h0_none hn, I.tl_ne a' hn, ?_, fun j lo _ q qm e' => ?_⟩
    · rintro rfl
      obtain ⟨m, o', _, _, ho', _⟩ := I.ns
      rw [hn] at ho'; cases ho'
    obtain ⟨_, _, p3⟩ := a2 j lo q qm
    obtain ⟨o, ho, _⟩ := p3.obj qm
    rw [e', hn] at ho; cases ho
  obtain ⟨m, hm⟩ := I'.ns
  have hkx := I'.kindOf x
  have cases' : sc.kd.lookup x = some .local ∨ sc.kd.lookup x = some .cell := by
    revert hx
    cases sc.kd.lookup x with
    | none => intro h; cases h
    | some q => cases q <;> intro h <;> first | exact .inl rfl | exact .inr rfl | cases h
  rcases cases' with hl | hc
  · refine wpAny_storeName_local (hkx.trans hl) hm (fun h' hn hs => hQ h' _ ?_ (tuple_but hs fun b items t => ns_notuple hm t) ⟨_, hs, .inl rfl⟩) (by rw [I'.kind]; rfl)
    obtain ⟨oL, es, ep, hoL, hdL, _⟩ := id hn
    have kt : ∀ b items, s.heap.IsTuple b items → b ≠ env.locals := fun b items t => ns_notuple hm t
    refine I'.change hx hi hs I.newL (fun p hp => (I'.prot p hp).2.1) hoL (fun vs q => by rw [hdL] at q; cases q) kt ⟨_, hn⟩ (fun y c hc => ?_) (fun y w' hy ha => ?_) (.loc _ (hkx.trans hl) hn (if_pos rfl)) α b1 b2 a3 (fun j lo _ q qm => ?_) ?_ new
    · obtain ⟨_, q, ⟨v', r⟩, _⟩ := I'.cel y c hc
      exact ⟨v', r.sameBut hs q⟩
    · cases ha with
      | loc m' e1 e2 e3 =>
        have := ns_fun e2 hm; subst this
        exact .loc _ e1 hn (by rw [if_neg hy]; exact e3)
      | cell c e1 e2 e3 => exact .cell c e1 e2 (e3.sameBut hs (I'.cel y c e2).2.1)
    · exact (b2 j lo q qm).2.2.1
    · exact hlo.change (tuple_but hs kt) fun e o q => hs.extBut _ o (new e).2.2.1 q
  · obtain ⟨c, hcl⟩ := Option.isSome_iff_exists.mp (I'.cells x hc)
    obtain ⟨q1, q2, ⟨v₀, q3⟩, q4⟩ := I'.cel x c hcl
    refine wpAny_storeName_cell I'.kind (hkx.trans hc) hcl q3 fun h' hn hs => hQ h' s.toks ?_ (tuple_but hs fun b items t => cell_notuple q3 t) ⟨_, hs, .inr ⟨x, hcl⟩⟩
    obtain ⟨oc, hoc, hdc⟩ := id hn
    have kt : ∀ b items, s.heap.IsTuple b items → b ≠ c := fun b items t => cell_notuple q3 t
    refine I'.change hx hi hs q1 (fun p hp e => (I'.prot p hp).2.2 x (by rw [e]; exact hcl)) hoc (fun vs q => by rw [hdc] at q; cases q) kt ⟨m, hm.sameBut hs (Ne.symm q2)⟩ (fun y c' hc' => ?_) (fun y w' hy ha => ?_) (.cell c (hkx.trans hc) hcl hn) α b1 b2 a3 (fun j lo _ q qm => ?_) ?_ new
    · by_cases e : c' = c
      · subst e; exact ⟨_, hn⟩
      · obtain ⟨_, _, ⟨v', r⟩, _⟩ := I'.cel y c' hc'
        exact ⟨v', r.sameBut hs e⟩
    · cases ha with
      | loc m' e1 e2 e3 => exact .loc m' e1 (e2.sameBut hs (Ne.symm q2)) e3
      | cell c' e1 e2 e3 => exact .cell c' e1 e2 (e3.sameBut hs fun e => hy (q4 y (e ▸ e2)))
    · exact (b2 j lo q qm).2.2.nocell qm q3
    · exact hlo.change (tuple_but hs kt) fun e o q => hs.extBut _ o ((hlo.mut (new e).2.2.1).nocell e q3) q
end
end Mine

namespace Mine
open PySem PySem.Calls PyProof.Rows PySem.SeqAt

/-- where a called function's result goes -/
inductive Tg where
  | var (x : Nat)

set_option genSizeOf false in
set_option genInjectivity false in
mutual
inductive S where
  | asg (x : Nat) (e : E)
  | ownD (x : Nat) (es : Es)
  | ownC (x : Nat) (e : E)
  | ownL (x : Nat) (e : E)
  | unp (xs : List Nat) (e : E)
  | seti (x : Nat) (i e : E)
  | app (x : Nat) (e : E)
  | iff (c : E) (a b : Ss)
  | for1 (x : Nat) (it : It) (body : Ss)
  | forV (x y : Nat) (body : Ss)
  | newD (x : Nat)
  | setd (x : Nat) (i e : E)
  | pop (x y : Nat)
  | ownS (x : Nat) (e : E)
  | ownR (x : Nat) (e : E)
  | forU (xs : List Nat) (y : Nat) (body : Ss)
  | retC (e : E)
  | retD (x : Nat)
  | whl (c : E) (body : Ss)
  | ret (e : E)
  | cont
  | rais (c : Nat)
  | callS (t : Tg) (f : Nat) (es : Es)
inductive Ss where
  | nil
  | cons (s : S) (r : Ss)
end

/-- what a statement ends in -/
inductive R where
  | next (ρ : Rho)
  | cont (ρ : Rho)
  | ret (d : D)
  | own (lo : Lo)

/-- a turn of a loop is done -/
noncomputable def afterR (f : Rho → Option R) (r : R) : Option R := match r with
  | .next ρ => f ρ
  | .cont ρ => f ρ
  | .ret d => some (.ret d)
  | .own _ => none
/-- a statement is done -/
noncomputable def thenR (f : Rho → Option R) (r : R) : Option R := match r with
  | .next ρ => f ρ
  | .cont ρ => some (.cont ρ)
  | .ret d => some (.ret d)
  | .own lo => some (.own lo)

noncomputable def loopO {α : Type} (body : α → Rho → Option R) : List α → Rho → Option R
  | [], ρ => some (.next ρ)
  | d :: ds, ρ => (body d ρ).bind (afterR fun ρ' => loopO body ds ρ')

/-- a while loop, so many turns at most -/
noncomputable def loopW (cond : Rho → Option Bool) (body : Rho → Option R) : Nat → Rho → Option R
  | 0, _ => none
  | n + 1, ρ => (cond ρ).bind fun t => if t = true then (body ρ).bind (afterR fun ρ' => loopW cond body n ρ') else some (.next ρ)

noncomputable def setAll (ρ : Rho) : List Nat → List D → Rho
  | x :: xs, d :: ds => setAll (ρ.set x (some (.dat d))) xs ds
  | _, _ => ρ

noncomputable def Lo.own? : Lo → Option (List D)
  | .own ds => some ds
  | _ => none
theorem own?_some {lo : Lo} {ds : List D} (h : lo.own? = some ds) : lo = .own ds := by cases lo <;> cases h; rfl
noncomputable def Rho.own? (ρ : Rho) (x : Nat) : Option (List D) := (ρ.get x).bind Lo.own?
theorem Rho.own?_some {ρ : Rho} {x : Nat} {ds : List D} (h : ρ.own? x = some ds) : ρ.get x = some (.own ds) := by
  replace h := ob h
  obtain ⟨lo, h1, h2⟩ := h
  rw [h1, Mine.own?_some h2]
noncomputable def Rho.noOwn (ρ : Rho) : Bool := ρ.all fun o => (o.bind Lo.own?).isNone

/-- may the iterable be walked while the frame's own lists are changed -/
noncomputable def itOk (Φ : Fns) (ρ : Rho) : It → Bool
  | .seq e => ρ.noOwn || ((ev Φ ρ e).bind tupOf).isSome
  | .keys _ => false
  | _ => true

noncomputable def putD (ρ : Rho) (x : Nat) (d : D) : Option R := if d.pure = true then some (.next (ρ.set x (some (.dat d)))) else none
noncomputable def putO (ρ : Rho) (x : Nat) (ds : List D) : Option R := if D.pures ds = true then some (.next (ρ.set x (some (.own ds)))) else none
noncomputable def putU (ρ : Rho) (xs : List Nat) (d : D) : Option R := (tupOf d).bind fun ds => if ds.length = xs.length ∧ D.pures ds = true then some (.next (setAll ρ xs ds)) else none
noncomputable def unpS (xs : List Nat) (d : D) (ρ : Rho) : Option Rho := (tupOf d).bind fun es => if es.length = xs.length then some (setAll ρ xs es) else none
noncomputable def putT (ρ : Rho) (d : D) : Tg → Option R
  | .var x => putD ρ x d
noncomputable def putN (ρ : Rho) (lo : Lo) : Tg → Option R
  | .var x => if lo.mine = true then some (.next (ρ.set x (some lo))) else none
noncomputable def outT (ρ : Rho) (t : Tg) (o : Out) : Option R := match o with
  | .ok d => putT ρ d t
  | .own lo => putN ρ lo t
noncomputable def ifT {α : Type} (d : D) (x y : Option α) : Option α := (isTrueD d).bind fun t => if t = true then x else y

mutual
noncomputable def ex (Φ : Fns) (ρ : Rho) : S → Option R
  | .asg x e => (ev Φ ρ e).bind fun d => putD ρ x d
  | .ownD x es => (evs Φ ρ es).bind fun ds => putO ρ x ds
  | .ownC x e => (ev Φ ρ e).bind fun d => (lstOf d).bind fun ds => putO ρ x ds
  | .ownL x e => (ev Φ ρ e).bind fun d => (items d).bind fun ds => putO ρ x ds
  | .unp xs e => (ev Φ ρ e).bind fun d => putU ρ xs d
  | .seti x i e => (ρ.own? x).bind fun ds => (ev Φ ρ i).bind fun y => (ev Φ ρ e).bind fun d => (intOf y).bind fun j => if 0 ≤ j ∧ j < ds.length ∧ d.pure = true then some (.next (ρ.set x (some (.own (ds.set j.toNat d))))) else none
  | .app x e => (ρ.own? x).bind fun ds => (ev Φ ρ e).bind fun d => if d.pure = true ∧ ds.length < lim then some (.next (ρ.set x (some (.own (ds ++ [d]))))) else none
  | .iff c a b => (ev Φ ρ c).bind fun d => ifT d (exs Φ ρ a) (exs Φ ρ b)
  | .for1 x it body => (evIt Φ ρ it).bind fun ds => if itOk Φ ρ it = true then loopO (fun d ρ => exs Φ (ρ.set x (some (.dat d))) body) ds ρ else none
  | .forV x y body => (ρ.get y).bind fun lo => (items lo.val).bind fun ds => if lo.own?.isNone = true ∧ D.pures ds = true then loopO (fun d ρ => exs Φ (ρ.set x (some (.dat d))) body) ds ρ else none
  | .newD x => some (.next (ρ.set x (some (.dic []))))
  | .setd x i e => (ev Φ ρ e).bind fun d => (ρ.dic? x).bind fun kvs => (ev Φ ρ i).bind fun y => (keyD y).bind fun k => if kindOk kvs k = true ∧ flat d = true ∧ kvs.length < lim then some (.next (ρ.set x (some (.dic (putK kvs k d))))) else none
  | .pop x y => (ρ.own? y).bind fun ds => ds.getLast?.map fun d => .next ((ρ.set y (some (.own ds.dropLast))).set x (some (.dat d)))
  | .ownS x e => (ev Φ ρ e).bind fun d => (lstOf d).bind fun ds => putO ρ x ds
  | .ownR x e => (evIt Φ ρ (.range e)).bind fun ds => putO ρ x ds
  | .forU xs y body => (ρ.get y).bind fun lo => (items lo.val).bind fun ds => if lo.own?.isNone = true ∧ D.pures ds = true then loopO (fun d ρ => (unpS xs d ρ).bind fun ρ' => exs Φ ρ' body) ds ρ else none
  | .retC e => (ev Φ ρ e).bind fun d => (lstOf d).map fun ds => .own (.own ds)
  | .retD x => (ρ.dic? x).map fun kvs => .own (.dic kvs)
  | .whl c body => loopW (fun ρ => (ev Φ ρ c).bind isTrueD) (fun ρ => exs Φ ρ body) lim ρ
  | .ret e => (ev Φ ρ e).map .ret
  | .cont => some (.cont ρ)
  | .rais _ => none
  | .callS t f es => (evs Φ ρ es).bind fun ds => (Φ f ds).bind fun o => outT ρ t o
noncomputable def exs (Φ : Fns) (ρ : Rho) : Ss → Option R
  | .nil => some (.next ρ)
  | .cons s r => (ex Φ ρ s).bind (thenR fun ρ' => exs Φ ρ' r)
end

/-! views of the program's text -/
noncomputable def idxVars (sc : Sc) : List Expr → Option (List Nat)
  | [] => some []
  | e :: r => (nameOf e).bind fun x => (idxVar sc x).bind fun i => (idxVars sc r).map fun is => i :: is
noncomputable def callOf : Expr → Option (Expr × List Expr × Pos)
  | .Call fn args kws pos => if kws.isEmpty = true then some (fn, args, pos) else none
  | _ => none
theorem callOf_some {e : Expr} {p : Expr × List Expr × Pos} (h : callOf e = some p) : e = .Call p.1 p.2.1 [] p.2.2 := by
  cases e <;> first | exact nns h | exact nnb h | skip
  rename_i fn args kws pos
  replace h := oi h
  obtain ⟨h, rfl⟩ := h
  cases kws with
  | nil => rfl
  | cons => cases h
noncomputable def one {α : Type} : List α → Option α
  | [] => none
  | a :: r => if r.isEmpty = true then some a else none
theorem one_some {α : Type} {l : List α} {a : α} (h : one l = some a) : l = [a] := by
  cases l with
  | nil => cases h
  | cons b r =>
    replace h := oi h
    obtain ⟨h, rfl⟩ := h
    cases r with
    | nil => rfl
    | cons => cases h
noncomputable def listOf : Expr → Option (List Expr)
  | .List es _ => some es
  | _ => none
theorem listOf_some {e : Expr} {q : List Expr} (h : listOf e = some q) : ∃ p, e = .List q p := by
  cases e <;> first | exact nns h | exact nnb h | skip
  cases h; exact ⟨_, rfl⟩
noncomputable def attrOf : Expr → Option (Expr × Str × Pos)
  | .Attribute o m p => some (o, m, p)
  | _ => none
theorem attrOf_some {e : Expr} {q : Expr × Str × Pos} (h : attrOf e = some q) : e = .Attribute q.1 q.2.1 q.2.2 := by
  cases e <;> first | exact nns h | exact nnb h | skip
  cases h; rfl
/-- no comprehension: its value is stored in the plain way -/
noncomputable def plainE : Expr → Bool
  | .Constant .. => true
  | .Name .. => true
  | .BinOp .. => true
  | .UnaryOp .. => true
  | .BoolOp .. => true
  | .Compare .. => true
  | .Tuple .. => true
  | .Subscript .. => true
  | .Call .. => true
  | _ => false
noncomputable def isEmptyDict : Expr → Bool
  | .Dict ks vs _ => ks.isEmpty && vs.isEmpty
  | _ => false
noncomputable def isNS : Expr → Bool
  | .Name .. => true
  | .Subscript .. => true
  | _ => false
/-- a comprehension whose list goes into the name x -/
noncomputable def compFor (sc : Sc) (x : Str) (px : Pos) : Expr → Bool
  | .ListComp _ _ scope cpos => sc.kd.lookup x == some .local && px.line == cpos.line && !(scope.names.any fun y => y.1 == x && (y.2 == .local || y.2 == .cell))
  | _ => false

noncomputable def asCall (fns : List Str) (n : Nat) (sc : Sc) (v : Expr) : Option (Nat × Es) :=
  (callOf v).bind fun c => (nameOf c.1).bind fun f => if glob sc f = true ∧ c.2.1.isEmpty = false then (fns.idxOf? f).bind fun i => (cEs (cE fns n sc) c.2.1).map fun es => (i, es) else none
/-- a method of a name, without arguments -/
noncomputable def asPop (sc : Sc) (v : Expr) : Option Nat :=
  (callOf v).bind fun c => (attrOf c.1).bind fun q => if q.2.1 = ("pop" : Str) ∧ (q.2.2.endLine == c.2.2.line) = true ∧ c.2.1.isEmpty = true then (nameOf q.1).bind fun x => idxVar sc x else none
noncomputable def asSorted (sc : Sc) (v : Expr) : Option Expr :=
  (callOf v).bind fun c => if nameIs "sorted" c.1 = true ∧ glob sc "sorted" = true then one c.2.1 else none
noncomputable def asRange (sc : Sc) (v : Expr) : Option Expr :=
  (callOf v).bind fun c => if nameIs "range" c.1 = true ∧ glob sc "range" = true then one c.2.1 else none
noncomputable def asList (sc : Sc) (v : Expr) : Option Expr :=
  (callOf v).bind fun c => if nameIs "list" c.1 = true ∧ glob sc "list" = true then one c.2.1 else none
noncomputable def cAsg (fns : List Str) (n : Nat) (sc : Sc) (x : Str) (px : Pos) (i : Nat) (v : Expr) : Option S :=
  match asCall fns n sc v with
  | some q => some (.callS (.var i) q.1 q.2)
  | none => match listOf v with
    | some es => (cEs (cE fns n sc) es).bind fun es' => if es'.size ≤ 1000 then some (.ownD i es') else none
    | none => match asList sc v with
        | some a => match asRange sc a with
          | some b => (cE fns n sc b).map (.ownR i)
          | none => (cE fns n sc a).map (.ownL i)
        | none => match asPop sc v with
         | some j => some (.pop i j)
         | none => match asSorted sc v with
          | some a => (cSrt (cE fns n sc) sc a).map (.ownS i)
          | none => if isEmptyDict v = true then some (.newD i) else (cE fns n sc v).bind fun e => if plainE v = true then some (.asg i e) else if compFor sc x px v = true then some (.ownC i e) else none
noncomputable def cUnp (fns : List Str) (n : Nat) (sc : Sc) (is : List Nat) (v : Expr) : Option S :=
  if isNS v = true then (cE fns n sc v).map (.unp is) else none
noncomputable def cTgt (fns : List Str) (n : Nat) (sc : Sc) (v : Expr) : Expr → Option S
  | .Name x px => (idxVar sc x).bind fun i => cAsg fns n sc x px i v
  | .Tuple es _ _ => (idxVars sc es).bind fun is => cUnp fns n sc is v
  | .Subscript o i _ => if plainE v = true then (nameOf o).bind fun x => (idxVar sc x).bind fun ix => (cE fns n sc i).bind fun i' => (cE fns n sc v).map fun v' => if dictNames.contains x = true then .setd ix i' v' else .seti ix i' v' else none
  | _ => none
noncomputable def cFor (fns : List Str) (n : Nat) (sc : Sc) (it : Expr) (b : Ss) : Expr → Option S
  | .Name x _ => (idxVar sc x).bind fun i => match nameOf it with
    | some y => (idxVar sc y).map fun j => .forV i j b
    | none => (cIt (cE fns n sc) sc it).map fun it' => .for1 i it' b
  | .Tuple es _ _ => (idxVars sc es).bind fun is => (nameOf it).bind fun y => (idxVar sc y).map fun j => .forU is j b
  | _ => none
noncomputable def cApp (fns : List Str) (n : Nat) (sc : Sc) (v : Expr) : Option S :=
  (callOf v).bind fun c => (attrOf c.1).bind fun q => if q.2.1 = ("append" : Str) ∧ (q.2.2.endLine == c.2.2.line) = true then (nameOf q.1).bind fun x => (idxVar sc x).bind fun i => (one c.2.1).bind fun a => (cE fns n sc a).map fun e => .app i e else none

noncomputable def isComp : Expr → Bool
  | .ListComp .. => true
  | _ => false
noncomputable def cRet (fns : List Str) (n : Nat) (sc : Sc) (e : Expr) : Option S :=
  if isComp e = true then (cE fns n sc e).map .retC else match dictVar sc e with
    | some j => some (.retD j)
    | none => (cE fns n sc e).map .ret

mutual
noncomputable def cS (fns excs : List Str) (n : Nat) (sc : Sc) : Stmt → Option S
  | .Return e _ => e.bind fun e => cRet fns n sc e
  | .Continue _ => some .cont
  | .If t a b _ => (cE fns n sc t).bind fun c => (cSs fns excs n sc a).bind fun x => (cSs fns excs n sc b).map fun y => .iff c x y
  | .Assign ts v _ => (one ts).bind fun t => cTgt fns n sc v t
  | .For t it body orelse _ => if orelse.isEmpty = true then (cSs fns excs n sc body).bind fun b => cFor fns n sc it b t else none
  | .While t body orelse _ => if orelse.isEmpty = true then (cE fns n sc t).bind fun c => (cSs fns excs n sc body).map fun b => .whl c b else none
  | .Expr v _ => cApp fns n sc v
  | .Raise _ _ _ => some (.rais 0)
  | _ => none
noncomputable def cSs (fns excs : List Str) (n : Nat) (sc : Sc) : List Stmt → Option Ss
  | [] => some .nil
  | s :: r => (cS fns excs n sc s).bind fun a => (cSs fns excs n sc r).map fun b => .cons a b
end

noncomputable def scOf (scope : Scope) : Sc := { kd := scope.names, ix := scope.names.zipIdx.map fun p => (p.1.1, p.2), n := scope.names.length }
end Mine

namespace Mine
open PySem

noncomputable def rhoL (names : List (Str × NameKind)) (ps : List Str) (los : List Lo) : Rho := names.map fun p => (ps.zip los).lookup p.1
noncomputable abbrev rho0 (names : List (Str × NameKind)) (ps : List Str) (ds : List D) : Rho := rhoL names ps (ds.map Lo.arg)

/-- a compiled def -/
structure Fn where
  ps : List Str
  names : List (Str × NameKind)
  body : Ss
abbrev Prg := List Fn

/-- what a def's body gives back -/
noncomputable def retR (keep : Bool) (r : R) : Option Out := match r with
  | .ret d => some (.ok d)
  | .next _ => some (.ok .none)
  | .cont _ => none
  | .own lo => some (.own lo)
noncomputable def fnRun (keep : Bool) (Φ : Fns) (f : Fn) (ds : List D) : Option Out :=
  if ds.length = f.ps.length then (exs Φ (rho0 f.names f.ps ds) f.body).bind (retR keep) else none
noncomputable def run (keep : Bool) (P : Prg) : Nat → Fns
  | 0 => fun _ _ => none
  | n + 1 => fun f ds => (P[f]?).bind fun g => fnRun keep (run keep P n) g ds
end Mine

namespace Mine
open PySem PySem.Calls PyProof.Rows PySem.SeqAt

noncomputable def Same (s s' : Shared) : Prop := ∃ h tk, s' = { s with heap := h, toks := tk }
theorem Same.refl (s : Shared) : Same s s := ⟨s.heap, s.toks, rfl⟩
theorem Same.trans {s s' s'' : Shared} (x : Same s s') (y : Same s' s'') : Same s s'' := by
  obtain ⟨h, t, rfl⟩ := x; obtain ⟨h', t', rfl⟩ := y; exact ⟨h', t', rfl⟩
theorem Same.keeps {s s' : Shared} (x : Keeps s s') : Same s s' := by
  obtain ⟨h, t, rfl, _⟩ := x; exact ⟨h, t, rfl⟩
theorem Same.mk' (s : Shared) (h : Heap) (tk : Nat) : Same s { s with heap := h, toks := tk } := ⟨h, tk, rfl⟩
theorem Tk.refl (h : Heap) : Tk h h := fun _ _ x => x
theorem Tk.trans {h h' h'' : Heap} (x : Tk h h') (y : Tk h' h'') : Tk h h'' := fun a i t => y a i (x a i t)
theorem Tk.mono {h h' : Heap} (e : ∀ b o, h.get? b = some o → h'.get? b = some o) : Tk h h' := fun a i t => IsTuple_keep t e

section
variable {prog : Program} {w : World} {A : Around} {E : Value → Shared → Prop} {s : Shared}
theorem mapSeq_set_plain (its : Array Value) (n j : Nat) (x : Value) :
    ∃ n', Obj.mapSeq (·.setIfInBounds j x) { cls := .type "list", data := .seq its n } = { cls := .type "list", data := .seq (its.setIfInBounds j x) n' } := by
  exact ⟨_, by simp only [Obj.mapSeq]; rfl⟩

theorem setItem_plain {l : Addr} {items : Array Value} {k : Int} {t : Tok} {v : Value} {Q : Unit → Shared → Prop} (hl : s.heap.PlainList l items)
    (h0 : 0 ≤ k) (hfit : k < 2 ^ 63) (hn : k < items.size)
    (hQ : ∀ h', h'.PlainList l (items.setIfInBounds k.toNat v) → Heap.SameBut l s.heap h' → Q () { s with heap := h' }) :
    wpAny (model prog w) A (setItem (.ref l) (.int k t) v) Q E s := by
  obtain ⟨ne, ho⟩ := id hl
  unfold setItem
  try with_reducible refine wpAny_holding ?_
  first | refine wpAny_bind (wpAny_pure ?_) | skip
  refine wpAny_bind (wpAny_sequenceKey hl.isList.typeIs (by decide) ?_)
  refine wpAny_bind (wpAny_callSpecial?_slot (name := Str.ofString "__setitem__") hl.isList.typeIs slot_list_setitem
    (wpAny_call_entry slot_list_setitem hl.isList.typeIs entry_list_setitem ?_ (args_list_setitem _ _ _)))
  show wpAny _ _ (Builtin.List.listSubscript? (.int k t) >>= _) _ _ s
  refine wpAny_bind (wpAny_listSubscript_int (fitsIndex_of h0 hfit) ?_)
  clear hfit
  obtain ⟨j, rfl⟩ := Int.eq_ofNat_of_zero_le h0
  have hj : j < items.size := by (first | lia | omega)
  have hx' : items[j]? = some items[j] := Array.getElem?_eq_getElem hj
  show wpAny _ _ ((seqItemAt l j >>= fun r => pure (r.map (j, ·))) >>= _) _ _ s
  refine wpAny_bind (wpAny_bind (wpAny_seqItemAt ho rfl (wpAny_pure ?_)))
  rw [hx']
  show wpAny _ _ (setSeqItemAt l j v >>= _) _ _ s
  obtain ⟨n', hd'⟩ := mapSeq_set_plain items ne j v
  have hfin : (s.heap.update l (Obj.mapSeq (·.setIfInBounds j v))).PlainList l (items.setIfInBounds j v) :=
    ⟨n', by rw [Heap.get?_update_self _ ho (by rw [hd']; rfl), hd']⟩
  refine wpAny_bind (wpAny_setSeqItemAt ho rfl ?_)
  first
    | exact wpAny_bind (wpAny_pure (wpAny_pure ⟨.none, rfl, wpAny_pure (hQ _ hfin (Heap.SameBut.update ..))⟩))
    | exact wpAny_pure ⟨.none, rfl, wpAny_pure (hQ _ hfin (Heap.SameBut.update ..))⟩
end

section
variable {prog : Program} {w : World} {base h₀ h h' : Heap} {k : Nat} {sc : Sc} {env : Env} {T : List (Addr × Obj)} {ρ : Rho} {A : Around}

/-- an object of the frame's own may be changed -/
theorem mine_at (I : Inv prog w base h₀ k sc env T ρ A h) {x : Str} {i : Nat} {lo : Lo} (hx : isVarK (sc.kd.lookup x) = true) (hi : sc.ix.lookup x = some i) (hρ : ρ.get i = some lo) (hm : lo.mine = true) :
    ∃ a, At h env x (.ref a) ∧ LoV prog w h₀ h a (.ref a) lo ∧ MutAt h env.locals a lo ∧
      ∀ h₂ h' lo' o', (∀ b o, h.get? b = some o → h₂.get? b = some o) → Heap.SameBut a h₂ h' → h'.get? a = some o' → (∀ vs, o'.data ≠ .fields vs) → ((∀ b items, h₂.IsTuple b items → h'.IsTuple b items) → LoV prog w h₀ h' a (.ref a) lo') →
        Inv prog w base h₀ k sc env T (ρ.set i (some lo')) A h' ∧ Tk h₂ h' := by
  obtain ⟨α, a1, a2, a3⟩ := I.own
  obtain ⟨v, p, q⟩ := a1 x i _ hx hi hρ
  have hv : v = .ref (α i) := by
    cases lo with
    | own ds => exact q.1
    | dic kvs => exact q.1
    | dat d => cases hm
    | arg d => cases hm
  subst hv
  obtain ⟨e1, e2, eM⟩ := a2 i lo hρ hm
  refine ⟨α i, p, q, eM, fun h₂ h' lo' o' K hs ho' hf hlo => ?_⟩
  have I₂ := I.mono K
  have b1 : ∀ x i lo, isVarK (sc.kd.lookup x) = true → sc.ix.lookup x = some i → ρ.get i = some lo → ∃ v, At h₂ env x v ∧ LoV prog w h₀ h₂ (α i) v lo := fun x i lo q1 q2 q3 =>
    let ⟨v, p, q⟩ := a1 x i lo q1 q2 q3; ⟨v, p.mono K, q.change (fun a items t => IsTuple_keep t K) fun _ o => K _ o⟩
  have b2 : ∀ i lo, ρ.get i = some lo → lo.mine = true → h₀.get? (α i) = none ∧ (∀ p ∈ T, p.1 ≠ α i) ∧ MutAt h₂ env.locals (α i) lo := fun i lo q qm =>
    let ⟨p1, p2, p3⟩ := a2 i lo q qm; ⟨p1, p2, p3.at fun o => K _ o⟩
  have eM₂ : MutAt h₂ env.locals (α i) lo := eM.at fun o => K _ o
  have kt : ∀ b items, h₂.IsTuple b items → b ≠ α i := fun b items t => eM₂.notuple hm t
  obtain ⟨m, hns⟩ := I₂.ns
  have hLa : env.locals ≠ α i := Ne.symm eM.1
  have hCa : ∀ y c, env.cells.lookup y = some c → c ≠ α i := fun y c hc => by
    obtain ⟨_, _, ⟨v', r⟩, _⟩ := I₂.cel y c hc
    exact Ne.symm (eM₂.nocell hm r)
  have atk : ∀ y w, At h₂ env y w → At h' env y w := by
    intro y w ha
    cases ha with
    | loc m' e1 e2 e3 => exact .loc m' e1 (e2.sameBut hs hLa) e3
    | cell c e1 e2 e3 => exact .cell c e1 e2 (e3.sameBut hs (hCa y c e2))
  refine ⟨I₂.change hx hi hs e1 e2 ho' hf kt ⟨m, hns.sameBut hs hLa⟩ (fun y c hc => ?_) (fun y w _ ha => atk y w ha) (atk x _ (p.mono K)) α b1 b2 a3 (fun j l2 hj q qm => a3 j i l2 lo q hρ qm hm hj) (hlo (tuple_but hs kt)) ?_, tuple_but hs kt⟩
  · obtain ⟨_, _, ⟨v', r⟩, _⟩ := I₂.cel y c hc
    exact ⟨v', r.sameBut hs (hCa y c hc)⟩
  · intro _
    exact ⟨e1, e2, eM.1, fun j l2 hj q qm => a3 j i l2 lo q hρ qm hm hj⟩

/-- an own list may be written anew -/
theorem own_at (I : Inv prog w base h₀ k sc env T ρ A h) {x : Str} {i : Nat} {ds : List D} (hx : isVarK (sc.kd.lookup x) = true) (hi : sc.ix.lookup x = some i) (hρ : ρ.get i = some (.own ds)) :
    ∃ a vs, At h env x (.ref a) ∧ h.PlainList a (List.toArray vs) ∧ Vs h vs ds ∧ D.pures ds = true ∧ ds.length ≤ lim ∧
      ∀ h₂ h' vs' ds', (∀ b o, h.get? b = some o → h₂.get? b = some o) → Heap.SameBut a h₂ h' → h'.PlainList a (List.toArray vs') → Vs h₂ vs' ds' → D.pures ds' = true → ds'.length ≤ lim →
        Inv prog w base h₀ k sc env T (ρ.set i (some (.own ds'))) A h' ∧ Tk h₂ h' := by
  obtain ⟨a, p, ⟨_, vs, q1, q2, q3, q4⟩, _, chg⟩ := mine_at I hx hi hρ rfl
  refine ⟨a, vs, p, q1, q2, q3, q4, fun h₂ h' vs' ds' K hs hl hv hp hle => ?_⟩
  obtain ⟨n', ho'⟩ := id hl
  exact chg h₂ h' (.own ds') _ K hs ho' (fun vs q => by cases q) fun kt => ⟨rfl, vs', hl, hv.pureKeep kt hp, hp, hle⟩
/-- an own dict may be written anew -/
theorem dic_at (I : Inv prog w base h₀ k sc env T ρ A h) {x : Str} {i : Nat} {kvs : List (Ky × D)} (hx : isVarK (sc.kd.lookup x) = true) (hi : sc.ix.lookup x = some i) (hρ : ρ.get i = some (.dic kvs)) :
    ∃ a, At h env x (.ref a) ∧ DicAt prog w h a kvs ∧
      ∀ h₂ h' kvs', (∀ b o, h.get? b = some o → h₂.get? b = some o) → Heap.SameBut a h₂ h' → DicAt prog w h' a kvs' →
        Inv prog w base h₀ k sc env T (ρ.set i (some (.dic kvs'))) A h' ∧ Tk h₂ h' := by
  obtain ⟨a, p, ⟨_, q⟩, _, chg⟩ := mine_at I hx hi hρ rfl
  refine ⟨a, p, q, fun h₂ h' kvs' K hs hD => ?_⟩
  obtain ⟨o', es, ep, ho', _, hd'⟩ := hD.obj
  exact chg h₂ h' (.dic kvs') o' K hs ho' (fun vs q => by rw [hd'] at q; cases q) fun _ => ⟨rfl, hD⟩

theorem funFrames_ne {C : Addr} (hk : ∀ a q, a ≠ C → h.get? a = some q → h'.get? a = some q) : ∀ {l : List Env}, h.FunFrames base l → (∀ e ∈ l, e.frame ≠ some C) → h'.FunFrames base l
  | [], _, _ => trivial
  | env :: _, ⟨hf, ⟨L, o, e1, e2, e3, e4⟩, hr⟩, hn => ⟨hf, ⟨L, o, e1, e2, hk L o (fun q => hn env (.head _) (q ▸ e1)) e3, e4⟩, funFrames_ne hk hr fun e he => hn e (.tail _ he)⟩

/-- an object that is none of the frame's is changed -/
theorem Inv.aside {C : Addr} {oC : Obj} (I : Inv prog w base h₀ k sc env ((C, oC) :: T) ρ A h) (hk : ∀ a q, a ≠ C → h.get? a = some q → h'.get? a = some q) (h0 : h₀.get? C = none) (hT : ∀ p ∈ T, p.1 ≠ C)
    (htup : ∀ a items, h.IsTuple a items → a ≠ C) (hfr : ∀ l, A.frames = some l → ∀ e ∈ l, e.frame ≠ some C) : Inv prog w base h₀ k sc env T ρ A h' ∧ Tk h h' := by
  have kt : ∀ a items, h.IsTuple a items → h'.IsTuple a items := by
    rintro a items t
    have := htup a items t
    obtain ⟨o'', ho', hc, n, hd'⟩ := t
    exact ⟨o'', hk a o'' this ho', hc, n, hd'⟩
  refine ⟨?_, kt⟩
  have neL : env.locals ≠ C := Ne.symm (I.prot _ (.head _)).2.1
  have neC : ∀ x c, env.cells.lookup x = some c → c ≠ C := fun x c hx e => (I.prot _ (.head _)).2.2 x (e ▸ hx)
  obtain ⟨α, a1, a2, a3⟩ := I.own
  refine ⟨I.names, I.kind, I.glob, I.blt, I.cells, I.len, I.inj, I.lt, fun a q e => hk a q (by rintro rfl; rw [h0] at e; cases e) (I.keep a q e), I.newL, let ⟨m, hm⟩ := I.ns; ⟨m, hm.at' fun o e => hk _ o neL e⟩, fun x c hx => ?_, ⟨α, fun x i lo q1 q2 q3 => ?_, fun i lo q qm => ?_, a3⟩, fun p hp => ?_, ?_, I.frame, I.stk, I.above, I.bse⟩
  · obtain ⟨p1, p2, ⟨v, o'', ho', hd'⟩, p4⟩ := I.cel x c hx
    exact ⟨p1, p2, ⟨v, o'', hk c o'' (neC x c hx) ho', hd'⟩, p4⟩
  · obtain ⟨v, p, q⟩ := a1 x i lo q1 q2 q3
    refine ⟨v, ?_, q.change kt fun hm o ho => hk _ o (Ne.symm ((a2 i lo q3 hm).2.1 _ (.head _))) ho⟩
    · cases p with
      | loc m e1 e2 e3 => exact .loc m e1 (e2.at' fun o e => hk _ o neL e) e3
      | cell c e1 e2 e3 => obtain ⟨o'', ho', hd'⟩ := e3; exact .cell c e1 e2 ⟨o'', hk c o'' (neC x c e2) ho', hd'⟩
  · obtain ⟨p1, p2, p3⟩ := a2 i lo q qm
    exact ⟨p1, fun p hp => p2 p (.tail _ hp), p3.at fun o e => hk _ o (Ne.symm (p2 _ (.head _))) e⟩
  · obtain ⟨p1, p2⟩ := I.prot p (.tail _ hp)
    exact ⟨hk _ _ (hT p hp) p1, p2⟩
  · obtain ⟨x1, x2, x3, l, L⟩ := I.ok
    exact ⟨x1, x2, x3, l, L.stack, fun a q e => hk a q (by rintro rfl; have := I.bse _ _ e; rw [h0] at this; cases this) (L.stays a q e), funFrames_ne hk L.frames (hfr l L.stack)⟩

/-- objects that are new are guarded -/
theorem Inv.guardN {Cs : List (Addr × Obj)} (I : Inv prog w base h₀ k sc env T ρ A h) (K : ∀ b o, h.get? b = some o → h'.get? b = some o) (hC : ∀ p ∈ Cs, h.get? p.1 = none) (ho : ∀ p ∈ Cs, h'.get? p.1 = some p.2) : Inv prog w base h₀ k sc env (Cs ++ T) ρ A h' := by
  have I' := I.mono K
  obtain ⟨α, a1, a2, a3⟩ := I.own
  refine ⟨I'.names, I'.kind, I'.glob, I'.blt, I'.cells, I'.len, I'.inj, I'.lt, I'.keep, I'.newL, I'.ns, I'.cel, ⟨α, fun x i lo q1 q2 q3 => ?_, fun i lo q qm => ?_, a3⟩, fun p hp => ?_, I'.ok, I'.frame, I'.stk, I'.above, I'.bse⟩
  · obtain ⟨v, p, q⟩ := a1 x i lo q1 q2 q3
    exact ⟨v, p.mono K, q.change (fun a items t => IsTuple_keep t K) fun _ o => K _ o⟩
  · obtain ⟨p1, p2, p3⟩ := a2 i lo q qm
    refine ⟨p1, fun p hp => ?_, p3.at fun o => K _ o⟩
    rcases List.mem_append.mp hp with hp | hp
    · intro e
      obtain ⟨o', ho', _⟩ := p3.obj qm
      rw [← e, hC p hp] at ho'; cases ho'
    · exact p2 p hp
  · rcases List.mem_append.mp hp with hp | hp
    · refine ⟨ho p hp, fun q => ?_, fun x q => ?_⟩
      · obtain ⟨m, o', _, _, ho', _⟩ := I.ns
        rw [← q, hC p hp] at ho'; cases ho'
      · obtain ⟨_, _, ⟨v, o', ho', _⟩, _⟩ := I.cel x p.1 q
        rw [hC p hp] at ho'; cases ho'
    · exact I'.prot p hp
theorem Inv.guardNew {C : Addr} {o : Obj} (I : Inv prog w base h₀ k sc env T ρ A h) (K : ∀ b o, h.get? b = some o → h'.get? b = some o) (hC : h.get? C = none) (ho : h'.get? C = some o) : Inv prog w base h₀ k sc env ((C, o) :: T) ρ A h' :=
  I.guardN (Cs := [(C, o)]) K (fun p hp => by rw [List.mem_singleton.mp hp]; exact hC) (fun p hp => by rw [List.mem_singleton.mp hp]; exact ho)
theorem Inv.frames_ne (I : Inv prog w base h₀ k sc env T ρ A h) {C : Addr} (hC : h.get? C = none) : ∀ l, A.frames = some l → ∀ e ∈ l, e.frame ≠ some C := by
  obtain ⟨x1, x2, x3, l, L⟩ := I.ok
  intro l' hl e he hf
  rw [L.stack] at hl; cases hl
  have := (L.frames.mem (List.mem_filterMap.mpr ⟨e, he, hf⟩)).2
  obtain ⟨o, ho, _⟩ := this
  rw [hC] at ho; cases ho
end

section
variable {prog : Program} {w : World} {base : Heap} {fns : List Str} {mg mb : Str → Option Value} {fa : Nat → Addr} {Φ : Fns} {k : Nat}

noncomputable def FinR (prog : Program) (w : World) (base h₀ : Heap) (k : Nat) (sc : Sc) (env : Env) (T : List (Addr × Obj)) (A : Around) (s : Shared) (r : R) (fl : Flow) (s' : Shared) : Prop :=
  Same s s' ∧ Tk s.heap s'.heap ∧ match r with
    | .next ρ => fl = .next ∧ Inv prog w base h₀ k sc env T ρ A s'.heap
    | .cont ρ => fl = .cont ∧ Inv prog w base h₀ k sc env T ρ A s'.heap
    | .ret d => ∃ v ρ, fl = .ret v ∧ V s'.heap v d ∧ Inv prog w base h₀ k sc env T ρ A s'.heap
    | .own lo => ∃ a ρ, fl = .ret (.ref a) ∧ h₀.get? a = none ∧ NewAt prog w s'.heap a lo ∧ Inv prog w base h₀ k sc env T ρ A s'.heap

theorem FinR.after {h₀ : Heap} {sc : Sc} {env : Env} {T : List (Addr × Obj)} {A : Around} {s s₁ s' : Shared} {r : R} {fl : Flow} (h : Same s s₁) (t : Tk s.heap s₁.heap) (x : FinR prog w base h₀ k sc env T A s₁ r fl s') : FinR prog w base h₀ k sc env T A s r fl s' :=
  ⟨h.trans x.1, t.trans x.2.1, x.2.2⟩

noncomputable def XOK (prog : Program) (w : World) (base : Heap) (Φ : Fns) (k : Nat) (sc : Sc) (st : Stmt) (st' : S) : Prop :=
  ∀ h₀ env T ρ A s r Q E, Inv prog w base h₀ k sc env T ρ A s.heap → PassesOwn (model prog w) A env E → ex Φ ρ st' = some r → (∀ fl s', FinR prog w base h₀ k sc env T A s r fl s' → Q fl s') → wpAny (model prog w) A (exec st env) Q E s
noncomputable def XsOK (prog : Program) (w : World) (base : Heap) (Φ : Fns) (k : Nat) (sc : Sc) (st : List Stmt) (st' : Ss) : Prop :=
  ∀ h₀ env T ρ A s r Q E, Inv prog w base h₀ k sc env T ρ A s.heap → PassesOwn (model prog w) A env E → exs Φ ρ st' = some r → (∀ fl s', FinR prog w base h₀ k sc env T A s r fl s' → Q fl s') → wpAny (model prog w) A (execs st env) Q E s

end
end Mine

namespace Mine
open PySem PySem.Calls PyProof.Rows PySem.SeqAt

theorem idxVars_cons {sc : Sc} {e : Expr} {r : List Expr} {is : List Nat} (h : idxVars sc (e :: r) = some is) : ∃ x p i is', e = .Name x p ∧ idxVar sc x = some i ∧ idxVars sc r = some is' ∧ is = i :: is' := by
  replace h := ob h
  obtain ⟨x, hx, h1⟩ := h
  replace h1 := ob h1
  obtain ⟨i, hi, h2⟩ := h1
  replace h2 := om h2
  obtain ⟨is', hs, rfl⟩ := h2
  obtain ⟨p, rfl⟩ := nameOf_some hx
  exact ⟨x, p, i, is', rfl, hi, hs, rfl⟩

section
variable {prog : Program} {w : World} {base h₀ : Heap} {fns : List Str} {mg mb : Str → Option Value} {fa : Nat → Addr} {Φ : Fns} {k : Nat} {sc : Sc} {env : Env} {T : List (Addr × Obj)} {ρ : Rho} {A : Around} {E : Value → Shared → Prop} {s : Shared}

/-- a name gets data -/
theorem put_ok {A' : Around} {s₁ : Shared} {x : Str} {i : Nat} {v : Value} {d : D} {Q : Unit → Shared → Prop} (I : Inv prog w base h₀ k sc env T ρ A s.heap) (hx : idxVar sc x = some i) (K : Keeps s s₁) (hv : V s₁.heap v d) (hp : d.pure = true)
    (hQ : ∀ s', FinR prog w base h₀ k sc env T A s (.next (ρ.set i (some (.dat d)))) .next s' → Q () s') : wpAny (model prog w) A' (storeName env x v) Q E s₁ := by
  obtain ⟨h1, h2⟩ := idxVar_some hx
  refine store_ok (lo' := .dat d) (a' := 0) I (keeps_heap K) h1 h2 ⟨hv, hp⟩ (fun e => by cases e) fun h' tk I' t _ => hQ _ ⟨(Same.keeps K).trans (Same.mk' _ _ _), (Tk.mono (keeps_heap K)).trans t, rfl, I'⟩

theorem asg_ok {x : Str} {px pos : Pos} {value : Expr} {i : Nat} {d : D} {Q : Flow → Shared → Prop} (I : Inv prog w base h₀ k sc env T ρ A s.heap) (hx : idxVar sc x = some i) (hs : swapsWith value (some (.Name x px)) pos.line env = pure false)
    (he : wpAny (model prog w) A (eval value env) (Post s d) E s) (hp : d.pure = true) (hQ : ∀ fl s', FinR prog w base h₀ k sc env T A s (.next (ρ.set i (some (.dat d)))) fl s' → Q fl s') :
    wpAny (model prog w) A (exec (.Assign [.Name x px] value pos) env) Q E s :=
  wpAny_Assign_Name (wpAny_mono he (fun v s₁ q => put_ok I hx q.1 q.2 hp fun s' f => hQ _ _ f) fun _ _ x => x) hs

/-- a name gets a fresh list -/
theorem putL_ok {hb : Heap} {s₁ : Shared} {x : Str} {i : Nat} {a : Addr} {vs : List Value} {ds : List D} {Q : Unit → Shared → Prop} (I : Inv prog w base h₀ k sc env T ρ A hb) (hx : idxVar sc x = some i) (K : ∀ b o, hb.get? b = some o → s₁.heap.get? b = some o) (hn : hb.get? a = none)
    (hl : s₁.heap.PlainList a (List.toArray vs)) (hv : Vs s₁.heap vs ds) (hp : D.pures ds = true) (hle : ds.length ≤ lim)
    (hQ : ∀ h' tk, Inv prog w base h₀ k sc env T (ρ.set i (some (.own ds))) A h' → Tk s₁.heap h' → (∃ a, Heap.SameBut a s₁.heap h' ∧ (a = env.locals ∨ ∃ y, env.cells.lookup y = some a)) → Q () { s₁ with heap := h', toks := tk }) : wpAny (model prog w) A (storeName env x (.ref a)) Q E s₁ := by
  obtain ⟨h1, h2⟩ := idxVar_some hx
  exact store_ok (lo' := .own ds) (a' := a) I K h1 h2 ⟨rfl, vs, hl, hv, hp, hle⟩ (fun _ => hn) hQ

theorem asgL_ok {x : Str} {px pos : Pos} {value : Expr} {i : Nat} {ds : List D} {Q : Flow → Shared → Prop} (I : Inv prog w base h₀ k sc env T ρ A s.heap) (hx : idxVar sc x = some i) (hs : swapsWith value (some (.Name x px)) pos.line env = pure false)
    (he : wpAny (model prog w) A (eval value env) (fun v s₁ => ∃ a vs, v = .ref a ∧ Keeps s s₁ ∧ s.heap.get? a = none ∧ s₁.heap.PlainList a (List.toArray vs) ∧ Vs s₁.heap vs ds ∧ ds.length ≤ lim) E s) (hp : D.pures ds = true)
    (hQ : ∀ fl s', FinR prog w base h₀ k sc env T A s (.next (ρ.set i (some (.own ds)))) fl s' → Q fl s') :
    wpAny (model prog w) A (exec (.Assign [.Name x px] value pos) env) Q E s := by
  refine wpAny_Assign_Name (wpAny_mono he (fun v s₁ q => ?_) fun _ _ x => x) hs
  obtain ⟨a, vs, rfl, K, hn, hl, hv, hle⟩ := q
  exact putL_ok I hx (keeps_heap K) hn hl hv hp hle fun h' tk I' t _ => hQ _ _ ⟨(Same.keeps K).trans (Same.mk' _ _ _), (Tk.mono (keeps_heap K)).trans t, rfl, I'⟩

theorem idxVars_each : ∀ {es : List Expr} {is : List Nat}, idxVars sc es = some is → (assignEach es env).length = is.length ∧ (assignEach es env).findIdx? (·.1) = none
  | [], is, h => by cases h; exact ⟨rfl, rfl⟩
  | e :: r, is, h => by
    obtain ⟨x, p, i, is', rfl, _, h2, rfl⟩ := idxVars_cons h
    obtain ⟨a, b⟩ := idxVars_each h2
    refine ⟨congrArg (· + 1) a, ?_⟩
    show List.findIdx? _ ((false, _) :: assignEach r env) = none
    rw [List.findIdx?_cons, b]; rfl

/-- names get a tuple's items -/
theorem puts_ok {Q : Unit → Shared → Prop} : ∀ {es : List Expr} {is : List Nat} {vs : List Value} {ds : List D} {ρ : Rho} {s₁ : Shared}, idxVars sc es = some is → Inv prog w base h₀ k sc env T ρ A s₁.heap → Vs s₁.heap vs ds → ds.length = is.length → D.pures ds = true →
    (∀ s', FinR prog w base h₀ k sc env T A s₁ (.next (setAll ρ is ds)) .next s' → Q () s') → wpAny (model prog w) A (assignInOrder ((assignEach es env).map (·.2)) vs) Q E s₁
  | [], is, vs, ds, ρ, s₁, h, I, hv, hl, hp, hQ => by
    cases h
    cases ds with
    | nil => exact assignInOrder_nil (hQ _ ⟨Same.refl _, Tk.refl _, rfl, I⟩)
    | cons d ds => cases hl
  | e :: r, is, vs, ds, ρ, s₁, h, I, hv, hl, hp, hQ => by
    obtain ⟨x, p, i, is', rfl, h1, h2, rfl⟩ := idxVars_cons h
    cases hv with
    | nil => cases hl
    | cons a b =>
      have hp := Bool.and_eq_true _ _ ▸ hp
      refine assignInOrder_cons (wpAny_assign_Name (put_ok I h1 (keeps_refl _) a hp.1 fun s' f => ?_))
      exact puts_ok h2 f.2.2.2 (b.pureKeep f.2.1 hp.2) (Nat.succ.inj hl) hp.2 fun s'' g => hQ _ (g.after f.1 f.2.1)

theorem Inv.tup (I : Inv prog w base h₀ k sc env T ρ A s.heap) : A.handled = none := I.ok.hand

theorem unp_ok {es : List Expr} {is : List Nat} {kk : Nat} {tp pos : Pos} {value : Expr} {ds : List D} {Q : Flow → Shared → Prop} {x1} (I : Inv prog w base h₀ k sc env T ρ A s.heap) (hx : idxVars sc es = some is)
    (hs : swapsWithSole [.Tuple es x1 tp] value pos.line env = pure false) (hw : swappedStores [.Tuple es x1 tp] value env = pure none)
    (he : wpAny (model prog w) A (eval value env) (Post s (.tup ds)) E s) (hp : D.pures ds = true) (hl : ds.length = is.length) (hQ : ∀ fl s', FinR prog w base h₀ k sc env T A s (.next (setAll ρ is ds)) fl s' → Q fl s') :
    wpAny (model prog w) A (exec (.Assign [.Tuple es x1 tp] value pos) env) Q E s := by
  refine Assign_Tuple (wpAny_mono he (fun v s₁ q => ?_) fun _ _ x => x) hs hw
  obtain ⟨K, hv⟩ := q
  cases hv with
  | tup ht hvs hle =>
    rename_i a vs
    have hlen := hvs.length
    obtain ⟨q1, q2⟩ := idxVars_each (env := env) hx
    refine wpAny_assign_Tuple I.ok.hand ht (by rw [q1, List.size_toArray]; (first | lia | omega)) q2 fun h' he' => ?_
    have K' : ∀ b o, s₁.heap.get? b = some o → h'.get? b = some o := fun b o e => he' b o (Nat.ne_of_lt (Heap.lt_size e)) e
    refine puts_ok (s₁ := { s₁ with heap := h' }) hx ((I.mono (keeps_heap K)).mono K') (hvs.mono K') hl hp fun s' f => hQ _ _ (f.after ((Same.keeps K).trans ⟨h', s₁.toks, rfl⟩) ((Tk.mono (keeps_heap K)).trans (Tk.mono K')))
end

section
variable {prog : Program} {w : World} {base h₀ : Heap} {fns excs : List Str} {mg mb : Str → Option Value} {fa : Nat → Addr} {Φ : Fns} {k n : Nat} {sc : Sc} {env : Env} {T : List (Addr × Obj)} {ρ : Rho} {A : Around} {s : Shared}

theorem asCall_parts {v : Expr} {q : Nat × Es} (h : asCall fns n sc v = some q) : ∃ g p a r pos, v = .Call (.Name g p) (a :: r) [] pos ∧ glob sc g = true ∧ fns.idxOf? g = some q.1 ∧ cEs (cE fns n sc) (a :: r) = some q.2 := by
  replace h := ob h
  obtain ⟨⟨fn, args, pos⟩, hc, h3⟩ := h
  replace h3 := ob h3
  obtain ⟨g, hg, h4⟩ := h3
  replace h4 := oi' h4
  obtain ⟨⟨h1, h2⟩, h5⟩ := h4
  replace h5 := ob h5
  obtain ⟨i, hi, h6⟩ := h5
  replace h6 := om h6
  obtain ⟨es, hes, rfl⟩ := h6
  have := callOf_some hc; subst this
  obtain ⟨p, hp⟩ := nameOf_some hg
  have hp : fn = .Name g p := hp
  subst hp
  cases args with
  | nil => cases h2
  | cons a r => exact ⟨g, p, a, r, pos, rfl, h1, hi, hes⟩

theorem asCall_ok (G : Gl fns base mg mb fa) (hΦ : FnsOk prog w base Φ fa k) {v : Expr} {q : Nat × Es} (h : asCall fns n sc v = some q) (I : Inv prog w base h₀ k sc env T ρ A s.heap)
    {ds : List D} {d : D} {E : Value → Shared → Prop} (hds : evs Φ ρ q.2 = some ds) (ho : Φ q.1 ds = some (.ok d)) :
    wpAny (model prog w) A (eval v env) (Post s d) E s := by
  obtain ⟨g, p, a, r, pos, rfl, hg, hi, hes⟩ := asCall_parts h
  have J := ev_sound (prog := prog) (w := w) (k := k) G hΦ n sc
  have hn := idxOf?_get hi
  obtain ⟨o, fd, h1, h2, h3⟩ := G.fn q.1 g hn
  obtain ⟨a', ha, _⟩ := ob (show ((cE fns n sc a).bind _) = some q.2 from hes)
  refine Call_ (load_fn G I.cx hg hn (callWith_def h3 ?_ (starEach_plain (J.plain ha) _ _)))
  refine wpAny_mono (args_ok J (a :: r) q.2 hes env ρ A s ds _ pos I.cx hds) (fun vs s₁ h₁ => ?_) fun _ _ x => x
  have I₁ := I.mono (keeps_heap h₁.1)
  exact ⟨I₁.ok.stays _ _ h2, wpAny_mono (hΦ.ok q.1 ds d A s₁ vs _ ho I₁.ok h₁.2) (fun r s₂ h₂ => ⟨keeps_trans h₁.1 h₂.1, h₂.2⟩) fun _ _ x => x⟩

/-- a call that gives a new list or dict -/
theorem asCall_own (G : Gl fns base mg mb fa) (hΦ : FnsOk prog w base Φ fa k) {v : Expr} {q : Nat × Es} (h : asCall fns n sc v = some q) (I : Inv prog w base h₀ k sc env T ρ A s.heap) {E : Value → Shared → Prop}
    {ds : List D} {lo : Lo} (hds : evs Φ ρ q.2 = some ds) (ho : Φ q.1 ds = some (.own lo)) :
    wpAny (model prog w) A (eval v env) (fun r s' => Keeps s s' ∧ ∃ a, r = .ref a ∧ s.heap.get? a = none ∧ NewAt prog w s'.heap a lo) E s := by
  obtain ⟨g, p, a, r, pos, rfl, hg, hi, hes⟩ := asCall_parts h
  have J := ev_sound (prog := prog) (w := w) (k := k) G hΦ n sc
  have hn := idxOf?_get hi
  obtain ⟨o, fd, h1, h2, h3⟩ := G.fn q.1 g hn
  obtain ⟨a', ha, _⟩ := ob (show ((cE fns n sc a).bind _) = some q.2 from hes)
  refine Call_ (load_fn G I.cx hg hn (callWith_def h3 ?_ (starEach_plain (J.plain ha) _ _)))
  refine wpAny_mono (args_ok J (a :: r) q.2 hes env ρ A s ds _ pos I.cx hds) (fun vs s₁ h₁ => ?_) fun _ _ x => x
  have I₁ := I.mono (keeps_heap h₁.1)
  refine ⟨I₁.ok.stays _ _ h2, wpAny_mono (hΦ.own q.1 ds lo A s₁ vs _ ho I₁.ok h₁.2) (fun r s₂ h₂ => ?_) fun _ _ x => x⟩
  obtain ⟨K, b, e, hb, hN⟩ := h₂
  refine ⟨keeps_trans h₁.1 K, b, e, ?_, hN⟩
  cases qq : s.heap.get? b with
  | none => rfl
  | some o => have := keeps_heap h₁.1 _ _ qq; rw [hb] at this; cases this
theorem NewAt.lov {h' : Heap} {a : Addr} {lo : Lo} (x : NewAt prog w h' a lo) : LoV prog w h₀ h' a (.ref a) lo ∧ lo.mine = true := by
  cases lo with
  | own ds => exact ⟨⟨rfl, x⟩, rfl⟩
  | dic kvs => exact ⟨⟨rfl, x⟩, rfl⟩
  | dat d => cases x
  | arg d => cases x

theorem asCall_swaps {v : Expr} {q : Nat × Es} (h : asCall fns n sc v = some q) (t : Option Expr) (l : Nat) (env : Env) : swapsWith v t l env = pure false := by
  obtain ⟨g, p, a, r, pos, rfl, _⟩ := asCall_parts h; rfl
end
end Mine

namespace Mine
open PySem PySem.Calls PyProof.Rows PySem.SeqAt

theorem loopO_drop {α : Type} {body : α → Rho → Option R} {as : List α} {i : Nat} {a : α} {ρ : Rho} (h : as[i]? = some a) : loopO body (as.drop i) ρ = (body a ρ).bind (afterR fun ρ' => loopO body (as.drop (i + 1)) ρ') := by
  obtain ⟨hi, rfl⟩ := List.getElem?_eq_some_iff.mp h
  rw [List.drop_eq_getElem_cons hi]; rfl

theorem noOwn_get {ρ : Rho} (h : ρ.noOwn = true) (i : Nat) (ds : List D) : ρ.get i ≠ some (.own ds) := by
  intro hq
  cases hg : ρ[i]? with
  | none => rw [Rho.get, hg] at hq; cases hq
  | some lo =>
    rw [Rho.get, hg] at hq
    have hq : lo = some (.own ds) := hq
    have := List.all_eq_true.mp h _ (List.mem_of_getElem? hg)
    rw [hq] at this; cases this

section
variable {prog : Program} {w : World} {base h₀ : Heap} {fns excs : List Str} {mg mb : Str → Option Value} {fa : Nat → Addr} {Φ : Fns} {k n : Nat} {sc : Sc} {env : Env} {T : List (Addr × Obj)} {ρ : Rho} {A : Around} {s : Shared} {E : Value → Shared → Prop}

theorem guard_seq {h : Heap} {ax : Addr} {d : D} (I : Inv prog w base h₀ k sc env T ρ A h) (hV : V h (.ref ax) d) (alt : (∃ q, d = .tup q) ∨ h₀.get? ax ≠ none ∨ ∀ i ds, ρ.get i ≠ some (.own ds)) : ∃ o, Inv prog w base h₀ k sc env ((ax, o) :: T) ρ A h := by
  cases hV with
  | tup hp _ _ =>
    obtain ⟨o, ho1, hc, nn, hd⟩ := id hp
    exact ⟨o, I.guard ho1 (fun es n q => by rw [hd] at q; cases q) (fun v q => by rw [hd] at q; cases q) (.inl fun xs hq => list_notuple hq hp rfl)⟩
  | lst hp _ _ =>
    obtain ⟨nn, ho1⟩ := id hp
    exact ⟨_, I.guard ho1 (fun es n q => by cases q) (fun v q => by cases q) (.inr (alt.resolve_left fun ⟨q, e⟩ => by cases e))⟩

/-- a loop may begin: what is walked is guarded -/
noncomputable def LoopAt (prog : Program) (w : World) (base h₀ : Heap) (k : Nat) (sc : Sc) (env : Env) (T : List (Addr × Obj)) (ρ : Rho) (A : Around) (s : Shared) (ds : List D) (s₁ : Shared) (itv : Value) (s₂ : Shared) : Prop :=
  ∃ I' g, itv = .ref I' ∧ Keeps s s₁ ∧ Keeps s₁ s₂ ∧ Wk prog w A s₁.heap s₂ I' (I' :: g.map (·.1)) ds ∧ Inv prog w base h₀ k sc env (g ++ T) ρ A s₁.heap

theorem itS_ok {f : Expr → Option Mine.E} (G : Gl fns base mg mb fa) (J : Judged prog w base Φ k sc f) {iter : Expr} {it : It} (h : cIt f sc iter = some it) {ds : List D}
    (I : Inv prog w base h₀ k sc env T ρ A s.heap) (hv : evIt Φ ρ it = some ds) (ho : itOk Φ ρ it = true) :
    (∀ x, foldedSetIterable iter env x = pure x) ∧ wpAny (model prog w) A (eval iter env) (fun xv s₁ => wpAny (model prog w) A (pyIter xv) (LoopAt prog w base h₀ k sc env T ρ A s ds s₁) E s₁) E s := by
  have b := it_ok (prog := prog) (w := w) (E := E) G J h I.cx hv
  refine ⟨b.1, wpAny_mono b.2 (fun xv s₁ h₁ => wpAny_mono h₁ (fun itv s₂ h₂ => ?_) fun _ _ x => x) fun _ _ x => x⟩
  obtain ⟨_, I', g, e1, K1, K2, W, S⟩ := h₂
  have I₁ := I.mono (keeps_heap K1)
  rcases S with ⟨_, rfl⟩ | ⟨x, rfl⟩ | ⟨e', d, ax, rfl, hd, rfl, hV, rfl⟩
  · exact ⟨I', [], e1, K1, K2, W, I₁⟩
  · cases ho
  · have alt : (∃ q, d = .tup q) ∨ h₀.get? ax ≠ none ∨ ∀ i ds, ρ.get i ≠ some (.own ds) := by
      have ho : (ρ.noOwn || ((ev Φ ρ e').bind tupOf).isSome) = true := ho
      rcases Bool.or_eq_true _ _ ▸ ho with q | q
      · exact .inr (.inr (noOwn_get q))
      · rw [hd] at q
        obtain ⟨z, hz⟩ := Option.isSome_iff_exists.mp q
        exact .inl ⟨z, tupOf_some hz⟩
    obtain ⟨o, Ig⟩ := guard_seq I₁ hV alt
    exact ⟨I', [(ax, o)], e1, K1, K2, W, Ig⟩

theorem itV_ok {y : Str} {p : Pos} {j : Nat} {lo : Lo} {ds : List D} (hy : idxVar sc y = some j) (I : Inv prog w base h₀ k sc env T ρ A s.heap) (hlo : ρ.get j = some lo) (hi : items lo.val = some ds) (ho : lo.own?.isNone = true) :
    wpAny (model prog w) A (eval (.Name y p) env) (fun xv s₁ => wpAny (model prog w) A (pyIter xv) (LoopAt prog w base h₀ k sc env T ρ A s ds s₁) E s₁) E s := by
  obtain ⟨h1, h2⟩ := idxVar_some hy
  obtain ⟨α, a1, a2, a3⟩ := I.own
  obtain ⟨v, hat, hL⟩ := a1 y j lo h1 h2 hlo
  have hV : V s.heap v lo.val := (hL.c I.keep).val (by cases lo <;> first | rfl | (cases hi; done))
  refine load_var (ρ := ρ) (sc := sc) I.kind hat (wpAny_mono (iter_seq I.ok.hand hV hi) (fun itv s₂ h₂ => ?_) fun _ _ x => x) (idxVar_dbg hy)
  obtain ⟨I', ax, e1, rfl, e2, e3⟩ := h₂
  have alt : (∃ q, lo.val = .tup q) ∨ h₀.get? ax ≠ none ∨ ∀ i ds, ρ.get i ≠ some (.own ds) := by
    cases lo with
    | own ds => cases ho
    | dic kvs => cases hi
    | dat d =>
      refine .inl ?_
      have hp := hL.2
      cases d <;> first | (cases hi; done) | skip
      · exact ⟨_, rfl⟩
      · rw [D.pure, D.okN_lst] at hp; cases hp
    | arg d =>
      refine .inr (.inl ?_)
      have hL' : V h₀ (.ref ax) d := hL
      cases hL' with
      | tup hp _ _ => obtain ⟨o, ho1, _⟩ := hp; rw [ho1]; exact fun q => by cases q
      | lst hp _ _ => obtain ⟨nn, ho1⟩ := hp; rw [ho1]; exact fun q => by cases q
  obtain ⟨o, Ig⟩ := guard_seq I hV alt
  exact ⟨I', [(ax, o)], e1, keeps_refl s, e2, e3, Ig⟩
end
end Mine

namespace Mine
open PySem PySem.Calls PyProof.Rows PySem.SeqAt

theorem rangeD_pures (a b : Int) : D.pures (rangeD a b) = true := by
  simp only [D.pures, rangeD, List.all_map, List.all_eq_true]
  intro x _; rfl

theorem evIt_pures {Φ : Fns} {ρ : Rho} {it : It} {ds : List D} (h : evIt Φ ρ it = some ds) : D.pures ds = true := by
  cases it with
  | range a =>
    replace h := ob h
    obtain ⟨x, _, h⟩ := h
    replace h := ob h
    obtain ⟨n, _, h⟩ := h
    obtain ⟨_, rfl⟩ := oi h
    exact rangeD_pures _ _
  | seq e =>
    replace h := ob h
    obtain ⟨x, _, h⟩ := h
    replace h := ob h
    obtain ⟨n, _, h⟩ := h
    replace h := oi h
    obtain ⟨q, rfl⟩ := h
    exact q
  | keys x =>
    replace h := ob h
    obtain ⟨kvs, _, h⟩ := h
    obtain ⟨_, rfl⟩ := oi h
    refine List.all_eq_true.mpr fun y hy => ?_
    obtain ⟨⟨⟨a, i⟩, dd⟩, _, rfl⟩ := List.mem_map.mp hy
    cases a <;> rfl
theorem pures_get {ds : List D} {i : Nat} {d : D} (h : D.pures ds = true) (e : ds[i]? = some d) : d.pure = true := by
  simp only [D.pures, List.all_eq_true] at h
  exact h d (List.mem_of_getElem? e)

theorem Tk.but {H h' : Heap} {I : Addr} (hI : ∃ o, H.get? I = some o ∧ ∃ fs, o.data = .fields fs) (hk : ∀ b o, b ≠ I → H.get? b = some o → h'.get? b = some o) : Tk H h' :=
  tup_keep [I] (fun b o hb e => by
    simp only [List.mem_cons, List.not_mem_nil, or_false] at hb
    exact hk b o hb e) (bad0 hI)

section
variable {prog : Program} {w : World} {base : Heap} {fns excs : List Str} {mg mb : Str → Option Value} {fa : Nat → Addr} {Φ : Fns} {k n : Nat} {sc : Sc}

theorem ofFields {base h₀ h : Heap} {env : Env} {T : List (Addr × Obj)} {ρ : Rho} {A : Around} {b : Addr} {o : Obj} {fs : Array Value} (I : Inv prog w base h₀ k sc env T ρ A h) (ho : h.get? b = some o) (hf : o.data = .fields fs) : Inv prog w base h₀ k sc env ((b, o) :: T) ρ A h :=
  I.guard ho (fun es n q => by rw [hf] at q; cases q) (fun v q => by rw [hf] at q; cases q) (.inl (fun xs q => by obtain ⟨nn, e⟩ := q; rw [ho] at e; cases e; cases hf))

/-- what is known when a turn begins -/
structure Turn (prog : Program) (w : World) (base h₀ : Heap) (k : Nat) (sc : Sc) (env : Env) (T : List (Addr × Obj)) (A : Around) (s s₁ : Shared) (St : Nat → Heap → Prop) (len : Nat) (cont : Nat → Rho → Option R) (r : R) (m : Nat) (s' : Shared) (j : Nat) (ρ' : Rho) : Prop where
  same : Same s s'
  tk : Tk s₁.heap s'.heap
  inv : Inv prog w base h₀ k sc env T ρ' A s'.heap
  st : St j s'.heap
  run : cont j ρ' = some r
  left : m = len + 1 - j
  le : j ≤ len

/-- the body of a turn is done -/
theorem turn_done {base h₀ : Heap} {env : Env} {T T' T₀ : List (Addr × Obj)} {A : Around} {s s₁ s₃ s₄ : Shared} {St : Nat → Heap → Prop} {len : Nat} {cont : Nat → Rho → Option R} {r rb : R} {j : Nat} {fl : Flow} {Q : Flow → Shared → Prop}
    (hlt : j < len) (h01 : Tk s.heap s₁.heap) (s3 : Same s s₃) (t3 : Tk s₁.heap s₃.heap) (hl : afterR (cont (j + 1)) rb = some r) (sub : ∀ p ∈ T, p ∈ T') (sub₀ : ∀ p ∈ T₀, p ∈ T')
    (stk : ∀ (ρ'' : Rho) (s₄ : Shared), Inv prog w base h₀ k sc env T' ρ'' A s₄.heap → St (j + 1) s₄.heap)
    (hQ : ∀ fl s', FinR prog w base h₀ k sc env T₀ A s r fl s' → Q fl s') (F : FinR prog w base h₀ k sc env T' A s₃ rb fl s₄) :
    ((fl = .next ∨ fl = .cont) ∧ ∃ m, m < len + 1 - j ∧ ∃ j' ρ', Turn prog w base h₀ k sc env T A s s₁ St len cont r m s₄ j' ρ') ∨ ∃ v, fl = .ret v ∧ Q (.ret v) s₄ := by
  obtain ⟨F1, F2, F3⟩ := F
  have go : ∀ ρ'', Inv prog w base h₀ k sc env T' ρ'' A s₄.heap → cont (j + 1) ρ'' = some r → ∃ m, m < len + 1 - j ∧ ∃ j' ρ', Turn prog w base h₀ k sc env T A s s₁ St len cont r m s₄ j' ρ' := fun ρ'' K4 hl =>
    ⟨len + 1 - (j + 1), by (first | lia | omega), j + 1, ρ'', s3.trans F1, t3.trans F2, K4.less sub, stk ρ'' s₄ K4, hl, rfl, hlt⟩
  cases rb with
  | next ρ'' => exact .inl ⟨.inl F3.1, go ρ'' F3.2 hl⟩
  | cont ρ'' => exact .inl ⟨.inr F3.1, go ρ'' F3.2 hl⟩
  | ret d' =>
    obtain ⟨v', ρ'', e, hV', K4⟩ := F3
    cases hl
    exact .inr ⟨v', e, hQ _ _ ⟨s3.trans F1, h01.trans (t3.trans F2), v', ρ'', rfl, hV', K4.less sub₀⟩⟩
  | own lo => cases hl

/-- no tuple is let go -/
theorem let_ok {A : Around} {s : Shared} {Q : Unit → Shared → Prop} {E : Value → Shared → Prop} {tg : Expr} {I : Addr} {v : Value} {o : Obj} {n : String} {fs : Array Value} (ho : s.heap.get? I = some o) (hc : o.cls = .type n) (hd : o.data = .fields fs) (hn : ownsT n = false) (hQ : Q () s) :
    wpAny (model prog w) A (letOwnedTupleGo tg (.ref I) v) Q E s := by
  have key : wpAny (model prog w) A (do
      let (.ref r, .ref a) := (Value.ref I, v) | return
      let o ← load r
      match o.cls, o.data with
      | .type n, .fields vs =>
        if ["enumerate", "zip", "dict_itemiterator", "dict_reverseitemiterator", "odict_iterator", "itertools.zip_longest", "itertools.pairwise"].contains n && vs[0]? == some (rawInt a) then
          rule "for.unpacks-the-owned-tuple"
          updateField r 0 .none
      | _, _ => pure ()) Q E s := by
    cases v <;> first | exact wpAny_pure hQ | skip
    refine wpAny_bind (wpAny_load ho ?_)
    rw [hc, hd]
    dsimp only
    unfold ownsT at hn
    rw [hn, Bool.false_and, if_neg (by decide)]
    exact wpAny_pure hQ
  cases tg <;> first | exact wpAny_pure hQ | exact key

theorem loop_ok {base h₀ : Heap} {env : Env} {T : List (Addr × Obj)} {ρ : Rho} {A : Around} {s : Shared} {Q : Flow → Shared → Prop} {E : Value → Shared → Prop} {r : R} {ds : List D}
    {tg iter : Expr} {pos : Pos} {body : List Stmt} {b : Ss} {stp : D → Rho → Option Rho} (hx : ∀ {T : List (Addr × Obj)} {ρ ρ' : Rho} {s : Shared} {v : Value} {d : D} {Q : Unit → Shared → Prop} {E : Value → Shared → Prop}, Inv prog w base h₀ k sc env T ρ A s.heap → V s.heap v d → d.pure = true → stp d ρ = some ρ' →
      (∀ s', FinR prog w base h₀ k sc env T A s (.next ρ') .next s' → Q () s') → wpAny (model prog w) A (assign tg env v) Q E s) (hb : XsOK prog w base Φ k sc body b) (hpu : D.pures ds = true) (hs : ∀ x, foldedSetIterable iter env x = pure x)
    (hi : wpAny (model prog w) A (eval iter env) (fun xv s₁ => wpAny (model prog w) A (pyIter xv) (LoopAt prog w base h₀ k sc env T ρ A s ds s₁) E s₁) E s)
    (hE : PassesOwn (model prog w) A env E) (hex : loopO (fun d ρ => (stp d ρ).bind fun ρ' => exs Φ ρ' b) ds ρ = some r) (hQ : ∀ fl s', FinR prog w base h₀ k sc env T A s r fl s' → Q fl s') : wpAny (model prog w) A (exec (.For tg iter body [] pos) env) Q E s := by
  refine wpAny_For (wpAny_mono hi (fun xv s₁ h₁ => wpAny_mono h₁ (fun itv s₂ h₂ => ?_) fun _ _ x => x) fun _ _ x => x) hs
  obtain ⟨I', g, rfl, K1, K2, ⟨P, St, W, hst, hfp, hIn, hk12, hP, hSt, hCl⟩, Ig⟩ := h₂
  have I'0 : h₀.get? I' = none := Ig.h0_none hIn
  have I'T : ∀ p ∈ g ++ T, p.1 ≠ I' := Ig.tl_ne I' hIn
  refine codeAny_forLoop_any (fun m s' => ∃ j ρ', Turn prog w base h₀ k sc env (g ++ T) A s s₁ St ds.length (fun j ρ' => loopO (fun d ρ => (stp d ρ).bind fun ρ' => exs Φ ρ' b) (ds.drop j) ρ') r m s' j ρ') ?_ (ds.length + 1)
    ⟨0, ρ, (Same.keeps K1).trans (Same.keeps K2), Tk.mono hk12, Ig.mono hk12, hst, hex, rfl, Nat.zero_le _⟩
  rintro m s' ⟨j, ρ', U⟩
  have hfo := hSt j _ U.st
  have I'k : ∀ h₂ : Heap, (∀ b o, b ∉ [I'] → s'.heap.get? b = some o → h₂.get? b = some o) → Inv prog w base h₀ k sc env (g ++ T) ρ' A h₂ ∧ Tk s'.heap h₂ := by
    intro h₂ hk
    have hk' : ∀ b o, b ≠ I' → s'.heap.get? b = some o → h₂.get? b = some o := fun b o hb e => hk b o (fun q => hb (List.mem_singleton.mp q)) e
    obtain ⟨o, ho1, fs, hfs⟩ := id hfo
    exact ⟨U.inv.other (o' := o) (fs' := fs) ho1 hfs I'0 I'T hk', Tk.but hfo hk'⟩
  have hm := U.left; subst hm
  by_cases hlt : j < ds.length
  · refine W.item j s' _ _ hlt U.st fun v h₂ tk₂ hPv hst₂ hk₂ => ?_
    obtain ⟨d, hd, hVd⟩ := hP j v hPv
    obtain ⟨J2, tk2⟩ := I'k h₂ hk₂
    have hl := U.run
    rw [loopO_drop hd] at hl
    replace hl := ob hl
    obtain ⟨rb, hbd, hl⟩ := hl
    replace hbd := ob hbd
    obtain ⟨ρ₁, hst1, hbd⟩ := hbd
    have hdp := pures_get hpu hd
    obtain ⟨o₂, ho₂, fs₂, hfs₂⟩ := hSt (j + 1) _ hst₂
    have J3 := ofFields J2 ho₂ hfs₂
    have t2 := U.tk.trans tk2
    obtain ⟨o₄, n₄, fs₄, ho₄, hc₄, hd₄, hn₄⟩ := hCl (j + 1) _ hst₂
    refine let_ok ho₄ hc₄ hd₄ hn₄ (hx (s := { s' with heap := h₂, toks := tk₂ }) J3 (hVd.pureKeep t2 hdp) hdp hst1 fun s₃ f => ?_)
    have s3 : Same s s₃ := U.same.trans ((Same.mk' s' h₂ tk₂).trans f.1)
    have stk : ∀ (ρ'' : Rho) (s₄ : Shared), Inv prog w base h₀ k sc env ((I', o₂) :: (g ++ T)) ρ'' A s₄.heap → St (j + 1) s₄.heap := by
      intro ρ'' s₄ K4
      refine W.frame (j + 1) h₂ s₄.heap hst₂ fun b hb o e => ?_
      rcases List.mem_cons.mp hb with rfl | hb
      · rw [ho₂] at e; cases e
        exact (K4.prot _ (.head _)).1
      · obtain ⟨p, hp, rfl⟩ := List.mem_map.mp hb
        have hp' : p ∈ g ++ T := List.mem_append_left _ hp
        have e1 := (J2.prot p hp').1
        rw [e1] at e; cases e
        exact (K4.prot p (.tail _ hp')).1
    refine wpAny_passesOwn hE (hb h₀ env _ _ A s₃ rb _ E f.2.2.2 hE hbd (fun fl s₄ F => ?_))
    · rcases turn_done (T := g ++ T) (cont := fun j ρ' => loopO (fun d ρ => (stp d ρ).bind fun ρ' => exs Φ ρ' b) (ds.drop j) ρ') hlt (Tk.mono (keeps_heap K1)) s3 (t2.trans f.2.1) hl (fun p hp => .tail _ hp) (fun p hp => .tail _ (List.mem_append_right _ hp)) stk hQ F with ⟨rfl | rfl, X⟩ | ⟨v, rfl, X⟩
      · exact X
      · exact X
      · exact X
  · have hin : j = ds.length := Nat.le_antisymm U.le (Nat.le_of_not_lt hlt)
    subst hin
    have hl := U.run
    rw [List.drop_length] at hl
    cases hl
    refine W.done s' _ _ U.st fun h₂ tk₂ hk₂ => wpAny_execs_nil ?_
    obtain ⟨J2, tk2⟩ := I'k h₂ hk₂
    exact hQ _ _ ⟨U.same.trans (Same.mk' s' h₂ tk₂), (Tk.mono (keeps_heap K1)).trans (U.tk.trans tk2), rfl, J2.less fun p hp => List.mem_append_right _ hp⟩

theorem asgN {h₀ : Heap} {env : Env} {A : Around} {x : Str} {px : Pos} {i : Nat} (hx : idxVar sc x = some i) {T : List (Addr × Obj)} {ρ ρ' : Rho} {s : Shared} {v : Value} {d : D} {Q : Unit → Shared → Prop} {E : Value → Shared → Prop} (I : Inv prog w base h₀ k sc env T ρ A s.heap) (hV : V s.heap v d) (hp : d.pure = true) (hs : some (ρ.set i (some (.dat d))) = some ρ')
    (hQ : ∀ s', FinR prog w base h₀ k sc env T A s (.next ρ') .next s' → Q () s') : wpAny (model prog w) A (assign (.Name x px) env v) Q E s := by
  cases hs
  exact wpAny_assign_Name (put_ok I hx (keeps_refl _) hV hp hQ)
theorem asgT {h₀ : Heap} {env : Env} {A : Around} {es : List Expr} {x1} {tp : Pos} {is : List Nat} (hx : idxVars sc es = some is) {T : List (Addr × Obj)} {ρ ρ' : Rho} {s : Shared} {v : Value} {d : D} {Q : Unit → Shared → Prop} {E : Value → Shared → Prop} (I : Inv prog w base h₀ k sc env T ρ A s.heap) (hV : V s.heap v d) (hp : d.pure = true) (hs : unpS is d ρ = some ρ')
    (hQ : ∀ s', FinR prog w base h₀ k sc env T A s (.next ρ') .next s' → Q () s') : wpAny (model prog w) A (assign (.Tuple es x1 tp) env v) Q E s := by
  replace hs := ob hs
  obtain ⟨ds, hds, hs⟩ := hs
  obtain ⟨hl, rfl⟩ := oi hs
  have := tupOf_some hds; subst this
  cases hV with
  | tup ht hvs hle =>
    rename_i a vs
    have hlen := hvs.length
    obtain ⟨q1, q2⟩ := idxVars_each (env := env) hx
    refine wpAny_assign_Tuple I.ok.hand ht (by rw [q1, List.size_toArray]; (first | lia | omega)) q2 fun h' he' => ?_
    have K' : ∀ b o, s.heap.get? b = some o → h'.get? b = some o := fun b o e => he' b o (Nat.ne_of_lt (Heap.lt_size e)) e
    exact puts_ok (s₁ := { s with heap := h' }) hx (I.mono K') (hvs.mono K') hl (D.pure_item hp) fun s' f => hQ _ (f.after ⟨h', s.toks, rfl⟩ (Tk.mono K'))

theorem for1_ok {f : Expr → Option Mine.E} (G : Gl fns base mg mb fa) (J : Judged prog w base Φ k sc f)
    {x : Str} {px pos : Pos} {iter : Expr} {it : It} {body : List Stmt} {b : Ss} {i : Nat} (hx : idxVar sc x = some i) (h : cIt f sc iter = some it) (hb : XsOK prog w base Φ k sc body b) :
    XOK prog w base Φ k sc (.For (.Name x px) iter body [] pos) (.for1 i it b) := by
  intro h₀ env T ρ A s r Q E I hE hex hQ
  replace hex := ob hex
  obtain ⟨ds, hv, hex⟩ := hex
  replace hex := oi' hex
  obtain ⟨ho, hex⟩ := hex
  obtain ⟨hs, hi⟩ := itS_ok (E := E) G J h I hv ho
  exact loop_ok (stp := fun d ρ => some (ρ.set i (some (.dat d)))) (asgN hx) hb (evIt_pures hv) hs hi hE hex hQ

theorem forV_ok {x y : Str} {px py pos : Pos} {body : List Stmt} {b : Ss} {i j : Nat} (hx : idxVar sc x = some i) (hy : idxVar sc y = some j) (hb : XsOK prog w base Φ k sc body b) :
    XOK prog w base Φ k sc (.For (.Name x px) (.Name y py) body [] pos) (.forV i j b) := by
  intro h₀ env T ρ A s r Q E I hE hex hQ
  replace hex := ob hex
  obtain ⟨lo, hlo, hex⟩ := hex
  replace hex := ob hex
  obtain ⟨ds, hds, hex⟩ := hex
  replace hex := oi' hex
  obtain ⟨⟨ho, hp⟩, hex⟩ := hex
  exact loop_ok (stp := fun d ρ => some (ρ.set i (some (.dat d)))) (asgN hx) hb hp (fun _ => rfl) (itV_ok hy I hlo hds ho) hE hex hQ
theorem forU_ok {es : List Expr} {x1} {y : Str} {tp py pos : Pos} {body : List Stmt} {b : Ss} {is : List Nat} {j : Nat} (hx : idxVars sc es = some is) (hy : idxVar sc y = some j) (hb : XsOK prog w base Φ k sc body b) :
    XOK prog w base Φ k sc (.For (.Tuple es x1 tp) (.Name y py) body [] pos) (.forU is j b) := by
  intro h₀ env T ρ A s r Q E I hE hex hQ
  replace hex := ob hex
  obtain ⟨lo, hlo, hex⟩ := hex
  replace hex := ob hex
  obtain ⟨ds, hds, hex⟩ := hex
  replace hex := oi' hex
  obtain ⟨⟨ho, hp⟩, hex⟩ := hex
  exact loop_ok (stp := unpS is) (asgT hx) hb hp (fun _ => rfl) (itV_ok hy I hlo hds ho) hE hex hQ
end
end Mine

namespace Mine
open PySem PySem.Calls PyProof.Rows PySem.SeqAt

section
variable {prog : Program} {w : World} {base : Heap} {fns excs : List Str} {mg mb : Str → Option Value} {fa : Nat → Addr} {Φ : Fns} {k n : Nat} {sc : Sc}

theorem ret_ok (G : Gl fns base mg mb fa) (hΦ : FnsOk prog w base Φ fa k) {e : Expr} {e' : Mine.E} {pos : Pos} (h : cE fns n sc e = some e') : XOK prog w base Φ k sc (.Return (some e) pos) (.ret e') := by
  intro h₀ env T ρ A s r Q E I hE hex hQ
  replace hex := om hex
  obtain ⟨d, hd, rfl⟩ := hex
  refine wpAny_Return_some (wpAny_mono (((ev_sound G hΦ n sc).1 e e' h).1 env ρ A s d E I.cx hd) (fun v s₁ q => ?_) fun _ _ x => x)
  exact hQ _ _ ⟨Same.keeps q.1, Tk.mono (keeps_heap q.1), v, ρ, rfl, q.2, I.mono (keeps_heap q.1)⟩

theorem cont_ok {pos : Pos} : XOK prog w base Φ k sc (.Continue pos) .cont := by
  intro h₀ env T ρ A s r Q E I hE hex hQ
  cases hex
  exact wpAny_Continue (hQ _ _ ⟨Same.refl s, Tk.refl _, rfl, I⟩)

theorem XsOK.after {a : List Stmt} {x : Ss} (ha : XsOK prog w base Φ k sc a x) {h₀ : Heap} {env : Env} {T : List (Addr × Obj)} {ρ : Rho} {A : Around} {s s₁ : Shared} {r : R} {Q : Flow → Shared → Prop} {E : Value → Shared → Prop}
    (sm : Same s s₁) (tk : Tk s.heap s₁.heap) (I : Inv prog w base h₀ k sc env T ρ A s₁.heap) (hE : PassesOwn (model prog w) A env E) (hex : exs Φ ρ x = some r) (hQ : ∀ fl s', FinR prog w base h₀ k sc env T A s r fl s' → Q fl s') : wpAny (model prog w) A (execs a env) Q E s₁ :=
  ha h₀ env T ρ A s₁ r Q E I hE hex fun fl s' f => hQ fl s' (f.after sm tk)

theorem iff_ok (G : Gl fns base mg mb fa) (hΦ : FnsOk prog w base Φ fa k) {t : Expr} {c : Mine.E} {a b : List Stmt} {x y : Ss} {pos : Pos} (h : cE fns n sc t = some c) (ha : XsOK prog w base Φ k sc a x) (hb : XsOK prog w base Φ k sc b y) :
    XOK prog w base Φ k sc (.If t a b pos) (.iff c x y) := by
  intro h₀ env T ρ A s r Q E I hE hex hQ
  replace hex := ob hex
  obtain ⟨d, hc, hex1⟩ := hex
  replace hex1 := ob hex1
  obtain ⟨bb, hbb, hex2⟩ := hex1
  rw [isTrueD_some hbb] at hc
  refine wpAny_If (wpAny_mono (((ev_sound G hΦ n sc).1 t c h).2 env ρ A s bb E I.cx hc) (fun q s₁ hq => ?_) fun _ _ x => x)
  obtain ⟨rfl, K⟩ := hq
  have I₁ := I.mono (keeps_heap K)
  cases q with
  | true => exact ha.after (Same.keeps K) (Tk.mono (keeps_heap K)) I₁ hE hex2 hQ
  | false => exact hb.after (Same.keeps K) (Tk.mono (keeps_heap K)) I₁ hE hex2 hQ

theorem seq_nil : XsOK prog w base Φ k sc [] .nil := by
  intro h₀ env T ρ A s r Q E I hE hex hQ
  cases hex
  exact wpAny_execs_nil (hQ _ _ ⟨Same.refl s, Tk.refl _, rfl, I⟩)

theorem seq_cons {st : Stmt} {a : S} {r : List Stmt} {b : Ss} (ha : XOK prog w base Φ k sc st a) (hb : XsOK prog w base Φ k sc r b) : XsOK prog w base Φ k sc (st :: r) (.cons a b) := by
  intro h₀ env T ρ A s r' Q E I hE hex hQ
  replace hex := ob hex
  obtain ⟨ra, hx, hex1⟩ := hex
  refine wpAny_execs_cons (ha h₀ env T ρ A s ra _ E I hE hx (fun fl s' F => ?_))
  · obtain ⟨F1, F2, F3⟩ := F
    cases ra with
    | next ρ' =>
      obtain ⟨rfl, I'⟩ := F3
      exact hb.after F1 F2 I' hE hex1 hQ
    | cont ρ' =>
      cases hex1
      obtain ⟨rfl, I'⟩ := F3
      exact hQ _ _ ⟨F1, F2, rfl, I'⟩
    | ret d =>
      cases hex1
      obtain ⟨v, ρ', rfl, q⟩ := F3
      exact hQ _ _ ⟨F1, F2, v, ρ', rfl, q⟩
    | own lo =>
      cases hex1
      obtain ⟨a, ρ', rfl, q⟩ := F3
      exact hQ _ _ ⟨F1, F2, a, ρ', rfl, q⟩

theorem asgE (G : Gl fns base mg mb fa) (hΦ : FnsOk prog w base Φ fa k) {x : Str} {px pos : Pos} {v : Expr} {i : Nat} {e : Mine.E} (hx : idxVar sc x = some i) (h : cE fns n sc v = some e) (hs : ∀ env, swapsWith v (some (.Name x px)) pos.line env = pure false) :
    XOK prog w base Φ k sc (.Assign [.Name x px] v pos) (.asg i e) := by
  intro h₀ env T ρ A s r Q E I hE hex hQ
  replace hex := ob hex
  obtain ⟨d, hd, hex1⟩ := hex
  replace hex1 := oi hex1
  obtain ⟨hp, rfl⟩ := hex1
  exact asg_ok I hx (hs env) (((ev_sound G hΦ n sc).1 v e h).1 env ρ A s d E I.cx hd) hp hQ

theorem callS_parts {ρ : Rho} {t : Tg} {f : Nat} {es : Es} {r : R} (h : ex Φ ρ (.callS t f es) = some r) : ∃ ds out, evs Φ ρ es = some ds ∧ Φ f ds = some out ∧ outT ρ t out = some r := by
  replace h := ob h
  obtain ⟨ds, hds, h⟩ := h
  replace h := ob h
  obtain ⟨out, ho, h⟩ := h
  exact ⟨ds, out, hds, ho, h⟩

theorem asgCall (G : Gl fns base mg mb fa) (hΦ : FnsOk prog w base Φ fa k) {x : Str} {px pos : Pos} {v : Expr} {i : Nat} {q : Nat × Es} (hx : idxVar sc x = some i) (h : asCall fns n sc v = some q) :
    XOK prog w base Φ k sc (.Assign [.Name x px] v pos) (.callS (.var i) q.1 q.2) := by
  intro h₀ env T ρ A s r Q E I hE hex hQ
  obtain ⟨ds, out, hds, ho, h2⟩ := callS_parts hex
  cases out with
  | own lo =>
    obtain ⟨hm, rfl⟩ := oi (show (if lo.mine = true then some (R.next (ρ.set i (some lo))) else none) = some r from h2)
    refine wpAny_Assign_Name (wpAny_mono (asCall_own G hΦ h I hds ho) (fun v s₁ q => ?_) fun _ _ x => x) (asCall_swaps h _ _ _)
    obtain ⟨K, a, rfl, hn, hN⟩ := q
    obtain ⟨h1, h2⟩ := idxVar_some hx
    exact store_ok (lo' := lo) (a' := a) I (keeps_heap K) h1 h2 hN.lov.1 (fun _ => hn) fun h' tk I' t _ => hQ _ _ ⟨(Same.keeps K).trans (Same.mk' _ _ _), (Tk.mono (keeps_heap K)).trans t, rfl, I'⟩
  | ok d =>
    obtain ⟨hp, rfl⟩ := oi h2
    exact asg_ok I hx (asCall_swaps h _ _ _) (asCall_ok G hΦ h I hds ho) hp hQ





theorem unpE (G : Gl fns base mg mb fa) (hΦ : FnsOk prog w base Φ fa k) {ts : List Expr} {x1} {tp pos : Pos} {v : Expr} {is : List Nat} {e : Mine.E} (hx : idxVars sc ts = some is) (h : cE fns n sc v = some e)
    (hs : ∀ env, swapsWithSole [.Tuple ts x1 tp] v pos.line env = pure false) (hw : ∀ env, swappedStores [.Tuple ts x1 tp] v env = pure none) :
    XOK prog w base Φ k sc (.Assign [.Tuple ts x1 tp] v pos) (.unp is e) := by
  intro h₀ env T ρ A s r Q E I hE hex hQ
  replace hex := ob hex
  obtain ⟨d, hd, hex1⟩ := hex
  replace hex1 := ob hex1
  obtain ⟨dd, hdd, hex2⟩ := hex1
  replace hex2 := oi hex2
  obtain ⟨hp, rfl⟩ := hex2
  rw [tupOf_some hdd] at hd
  exact unp_ok (kk := 0) I hx (hs env) (hw env) (((ev_sound G hΦ n sc).1 v e h).1 env ρ A s _ E I.cx hd) hp.2 hp.1 hQ

theorem fresh_at {s s₁ : Shared} (K : Keeps s s₁) : s.heap.get? s₁.heap.objs.size = none := by
  cases q : s.heap.get? s₁.heap.objs.size with
  | none => rfl
  | some o => have := keeps_heap K _ _ q; rw [size_none] at this; cases this

theorem ownD_ok (G : Gl fns base mg mb fa) (hΦ : FnsOk prog w base Φ fa k) {x : Str} {px pos lp : Pos} {es : List Expr} {i : Nat} {es' : Es} (hx : idxVar sc x = some i) (h : cEs (cE fns n sc) es = some es') (hsz : es'.size ≤ 1000) :
    XOK prog w base Φ k sc (.Assign [.Name x px] (.List es lp) pos) (.ownD i es') := by
  intro h₀ env T ρ A s r Q E I hE hex hQ
  replace hex := ob hex
  obtain ⟨ds, hds, hex1⟩ := hex
  replace hex1 := oi hex1
  obtain ⟨hp, rfl⟩ := hex1
  refine asgL_ok I hx rfl (List_ (wpAny_mono (args_ok (ev_sound G hΦ n sc) es es' h env ρ A s ds E lp I.cx hds) (fun vs s₁ q₁ => ?_) fun _ _ x => x)) hp hQ
  have hl2 := q₁.2.length
  have hlim : ds.length ≤ lim := small_lim (Nat.le_trans (Nat.le_of_eq (evs_size es' ρ ds hds)) hsz)
  refine wpAny_newObj_type ?_ (by show vs.toArray.size ≤ sizeLine; rw [List.size_toArray, hl2]; exact Nat.le_trans hlim lim_line)
  exact ⟨_, vs, rfl, keeps_trans q₁.1 (keeps_push _ _ _), fresh_at q₁.1, ⟨_, Heap.get?_push_size _ rfl⟩, q₁.2.mono fun _ _ e => Heap.get?_push_of_some _ e, hlim⟩

theorem ownL_ok (G : Gl fns base mg mb fa) (hΦ : FnsOk prog w base Φ fa k) {x : Str} {px pos lp pf : Pos} {a : Expr} {i : Nat} {e : Mine.E} (hx : idxVar sc x = some i) (hg : glob sc "list" = true) (h : cE fns n sc a = some e) :
    XOK prog w base Φ k sc (.Assign [.Name x px] (.Call (.Name "list" pf) [a] [] lp) pos) (.ownL i e) := by
  intro h₀ env T ρ A s r Q E I hE hex hQ
  replace hex := ob hex
  obtain ⟨d, hd, hex1⟩ := hex
  replace hex1 := ob hex1
  obtain ⟨ds, hit, hex2⟩ := hex1
  replace hex2 := oi hex2
  obtain ⟨hp, rfl⟩ := hex2
  have J := ev_sound (prog := prog) (w := w) (k := k) G hΦ n sc
  refine asgL_ok I hx rfl (Call_ (load_builtin G I.cx hg (by decide +kernel) boot_list (callWith_type1 (args_cons ?_ (starEach_plain (J.plain h) _ _)) (starEach_plain (J.plain h) _ _)))) hp hQ
  refine wpAny_mono ((J.1 a e h).1 env ρ A s d E I.cx hd) (fun v s₁ h₁ => args_nil ?_) fun _ _ x => x
  obtain ⟨K, hV⟩ := h₁
  have key : ∀ (p : Addr) (vs : List Value) (T : String) (o : Obj) (n : Nat), (T = "list" ∨ T = "tuple") → s₁.heap.get? p = some o → o.cls = .type T → o.data = .seq vs.toArray n → Vs s₁.heap vs ds → ds.length ≤ lim →
      wpAny (model prog w) A (call (.type "list") [.ref p]) (fun v s₂ => ∃ a vs, v = .ref a ∧ Keeps s s₂ ∧ s.heap.get? a = none ∧ s₂.heap.PlainList a (List.toArray vs) ∧ Vs s₂.heap vs ds ∧ ds.length ≤ lim) E s₁ := by
    intro p vs T o n hT ho hc hd hv hl
    refine call_list_seq p hT ho hc hd (fun h' c' hk hD => ?_) (by rw [List.size_toArray, hv.length]; exact Nat.le_trans hl lim_line)
    exact ⟨_, vs, rfl, keeps_trans K ⟨_, _, rfl, hk⟩, fresh_at K, ⟨_, hD⟩, hv.mono hk, hl⟩
  cases hV <;> first | (cases hit; done) | skip
  · rename_i p vs ds1 hpp hv hl
    cases hit
    obtain ⟨o, ho, hc, n, hd⟩ := hpp
    exact key _ vs _ o n (.inr rfl) ho hc hd hv hl
  · rename_i p vs ds1 hpp hv hl
    cases hit
    obtain ⟨o, ho, hc, n, hd⟩ := hpp.isList
    exact key _ vs _ o n (.inl rfl) ho hc hd hv hl

theorem pures_set {ds : List D} {j : Nat} {d : D} (h : D.pures ds = true) (hd : d.pure = true) : D.pures (ds.set j d) = true :=
  List.all_eq_true.mpr fun y hy => (List.mem_or_eq_of_mem_set hy).elim (List.all_eq_true.mp h y) fun q => q ▸ hd
theorem pures_snoc {ds : List D} {d : D} (h : D.pures ds = true) (hd : d.pure = true) : D.pures (ds ++ [d]) = true := by
  have h : ds.all D.pure = true := h
  rw [D.pures, List.all_append, h, List.all_cons, hd]; rfl

theorem seti_ok (G : Gl fns base mg mb fa) (hΦ : FnsOk prog w base Φ fa k) {x : Str} {px pos sp : Pos} {i v : Expr} {ix : Nat} {i' v' : Mine.E} (hx : idxVar sc x = some ix) (hi : cE fns n sc i = some i') (hv : cE fns n sc v = some v')
    (hs : ∀ env, swapsWith v (some (.Subscript (.Name x px) i sp)) pos.line env = pure false) :
    XOK prog w base Φ k sc (.Assign [.Subscript (.Name x px) i sp] v pos) (.seti ix i' v') := by
  intro h₀ env T ρ A s r Q E I hE hex hQ
  replace hex := ob hex
  obtain ⟨ds, hρ, hex1⟩ := hex
  replace hex1 := ob hex1
  obtain ⟨jd, hj, hex2⟩ := hex1
  replace hex2 := ob hex2
  obtain ⟨d, hdv, hex3⟩ := hex2
  replace hex3 := ob hex3
  obtain ⟨j, hjd, hex4⟩ := hex3
  replace hex4 := oi hex4
  obtain ⟨⟨hb1, hb2, hb3⟩, rfl⟩ := hex4
  have := intOf_some hjd; subst this
  have J := ev_sound (prog := prog) (w := w) (k := k) G hΦ n sc
  obtain ⟨h1, h2⟩ := idxVar_some hx
  refine wpAny_Assign_Subscript (wpAny_mono ((J.1 v v' hv).1 env ρ A s d E I.cx hdv) (fun vv s₁ q₁ => ?_) fun _ _ x => x) (hs env)
  have I₁ := I.mono (keeps_heap q₁.1)
  obtain ⟨a, vs, hat, hl, hvs, hpu, hle, chg⟩ := own_at I₁ h1 h2 (Rho.own?_some hρ)
  refine load_var (ρ := ρ) (sc := sc) I.kind hat (wpAny_mono ((J.1 i i' hi).1 env ρ A s₁ _ E I₁.cx hj) (fun iv s₂ q₂ => ?_) fun _ _ x => x) (idxVar_dbg hx)
  obtain ⟨K2, hiv⟩ := q₂
  obtain ⟨t, rfl⟩ := hiv.int_inv
  have hlen := hvs.length
  have l63 : j < 2 ^ 63 := Int.lt_trans (Int.lt_of_lt_of_le hb2 (Int.ofNat_le.mpr hle)) lim_63
  refine setItem_plain (hl.at fun o => keeps_heap K2 _ o) hb1 l63 (by rw [List.size_toArray, hlen]; exact hb2) fun h' hl' hs' => ?_
  obtain ⟨I', tk⟩ := chg s₂.heap h' (vs.set j.toNat vv) (ds.set j.toNat d) (keeps_heap K2) hs' (by simpa using hl') ((hvs.mono (keeps_heap K2)).set _ (q₁.2.mono (keeps_heap K2))) (pures_set hpu hb3) (by rw [List.length_set]; exact hle)
  exact hQ _ _ ⟨((Same.keeps q₁.1).trans (Same.keeps K2)).trans ⟨h', s₂.toks, rfl⟩, (Tk.mono (keeps_heap q₁.1)).trans ((Tk.mono (keeps_heap K2)).trans tk), rfl, I'⟩

theorem app_ok (G : Gl fns base mg mb fa) (hΦ : FnsOk prog w base Φ fa k) {x : Str} {px pos ap cp : Pos} {v : Expr} {ix : Nat} {v' : Mine.E} (hx : idxVar sc x = some ix) (hv : cE fns n sc v = some v') (hline : (ap.endLine == cp.line) = true) :
    XOK prog w base Φ k sc (.Expr (.Call (.Attribute (.Name x px) "append" ap) [v] [] cp) pos) (.app ix v') := by
  intro h₀ env T ρ A s r Q E I hE hex hQ
  replace hex := ob hex
  obtain ⟨ds, hρ, hex1⟩ := hex
  replace hex1 := ob hex1
  obtain ⟨d, hdv, hex2⟩ := hex1
  replace hex2 := oi hex2
  obtain ⟨⟨hb1, hb2⟩, rfl⟩ := hex2
  have J := ev_sound (prog := prog) (w := w) (k := k) G hΦ n sc
  obtain ⟨h1, h2⟩ := idxVar_some hx
  obtain ⟨a, vs, hat, hl, hvs, hpu, hle, chg⟩ := own_at I h1 h2 (Rho.own?_some hρ)
  refine wpAny_Expr_any (Call_method1 rfl (by rw [starEach_plain (J.plain hv)]; rfl) hline (load_var (ρ := ρ) (sc := sc) I.kind hat ?_ (idxVar_dbg hx))) (by simp [interactive, I.kind]) rfl
  refine ⟨"list", "list.append", PySem.F.plainAttrs_list, slot_list_append, type_list_append, hl.isList.typeIs, ?_, ?_⟩
  · intro b e
    cases e
    obtain ⟨n, ho⟩ := hl
    exact ⟨_, ho, rfl⟩
  · refine callWith_builtin (by rfl) (evalArgs_plain (spliced_cons ?_))
    refine wpAny_mono ((J.1 v v' hv).1 env ρ A s _ E I.cx hdv) (fun vv s₂ q₂ => spliced_nil ?_) fun _ _ x => x
    obtain ⟨K2, hV⟩ := q₂
    have hlen := hvs.length
    refine wpAny_list_append_plain (hl.at fun o => keeps_heap K2 _ o) (fun h' hl' hs' => ?_) (by rw [List.size_toArray, hlen]; exact Nat.le_trans (Nat.le_of_lt hb2) lim_line)
    obtain ⟨I', tk⟩ := chg s₂.heap h' (vs ++ [vv]) (ds ++ [d]) (keeps_heap K2) hs' (by simpa using hl') ((hvs.mono (keeps_heap K2)).append (.one hV)) (pures_snoc hpu hb1) (by rw [List.length_append]; exact hb2)
    exact hQ _ _ ⟨(Same.keeps K2).trans ⟨h', s₂.toks, rfl⟩, (Tk.mono (keeps_heap K2)).trans tk, rfl, I'⟩


theorem size_sys (G : Gl fns base mg mb fa) {h : Heap} {A : Around} (o : Ok base k A h) : (h.objs.size == sysModules) = false := by
  obtain ⟨ob, _, _, ho, _⟩ := G.g
  have := Heap.lt_size (o.stays _ _ ho)
  have e : mainGlobals = 3 := rfl
  have e' : sysModules = 1 := rfl
  rw [beq_eq_false_iff_ne, e']
  rw [e] at this
  intro q; rw [q] at this; exact absurd this (by decide)

theorem newD_ok (G : Gl fns base mg mb fa) {x : Str} {px pos dp : Pos} {i : Nat} (hx : idxVar sc x = some i) : XOK prog w base Φ k sc (.Assign [.Name x px] (.Dict [] [] dp) pos) (.newD i) := by
  intro h₀ env T ρ A s r Q E I hE hex hQ
  cases hex
  obtain ⟨h1, h2⟩ := idxVar_some hx
  have hD : DicAt prog w (s.heap.push { cls := .type "dict", data := .dict #[] }) s.heap.objs.size [] := .new (size_sys G I.ok)
  refine wpAny_Assign_Name (wpAny_Dict_empty (store_ok (lo' := .dic []) (a' := s.heap.objs.size) (hb := s.heap) I (fun b o e => Heap.get?_push_of_some _ e) h1 h2 ⟨rfl, hD⟩ (fun _ => size_none _) fun h' tk I' t _ => ?_)) rfl
  exact hQ _ _ ⟨⟨h', tk, rfl⟩, (Tk.mono fun b o e => Heap.get?_push_of_some _ e).trans t, rfl, I'⟩

theorem setd_ok (G : Gl fns base mg mb fa) (hΦ : FnsOk prog w base Φ fa k) {x : Str} {px pos sp : Pos} {i v : Expr} {ix : Nat} {i' v' : Mine.E} (hx : idxVar sc x = some ix) (hi : cE fns n sc i = some i') (hv : cE fns n sc v = some v')
    (hs : ∀ env, swapsWith v (some (.Subscript (.Name x px) i sp)) pos.line env = pure false) :
    XOK prog w base Φ k sc (.Assign [.Subscript (.Name x px) i sp] v pos) (.setd ix i' v') := by
  intro h₀ env T ρ A s r Q E I hE hex hQ
  replace hex := ob hex
  obtain ⟨d, hdv, hex1⟩ := hex
  replace hex1 := ob hex1
  obtain ⟨kvs, hρ, hex2⟩ := hex1
  replace hex2 := ob hex2
  obtain ⟨y, hy, hex3⟩ := hex2
  replace hex3 := ob hex3
  obtain ⟨kk, hk, hex4⟩ := hex3
  replace hex4 := oi hex4
  obtain ⟨⟨hb1, hb2, hb3⟩, rfl⟩ := hex4
  have J := ev_sound (prog := prog) (w := w) (k := k) G hΦ n sc
  obtain ⟨h1, h2⟩ := idxVar_some hx
  refine wpAny_Assign_Subscript (wpAny_mono ((J.1 v v' hv).1 env ρ A s d E I.cx hdv) (fun vv s₁ q₁ => ?_) fun _ _ x => x) (hs env)
  have I₁ := I.mono (keeps_heap q₁.1)
  obtain ⟨a, hat, hD, chg⟩ := dic_at I₁ h1 h2 (Rho.dic?_some hρ)
  refine load_var (ρ := ρ) (sc := sc) I.kind hat (wpAny_mono ((J.1 i i' hi).1 env ρ A s₁ _ E I₁.cx hy) (fun iv s₂ q₂ => ?_) fun _ _ x => x) (idxVar_dbg hx)
  obtain ⟨K2, hiv⟩ := q₂
  refine dic_set (units8 (I₁.mono (keeps_heap K2)).ok) (hD.keeps (keeps_heap K2)) hiv hk hb1 hb2 (q₁.2.mono (keeps_heap K2)) hb3 fun h' tk' hD' hs' => ?_
  obtain ⟨I', tk⟩ := chg s₂.heap h' _ (keeps_heap K2) hs' hD'
  exact hQ _ _ ⟨((Same.keeps q₁.1).trans (Same.keeps K2)).trans ⟨h', tk', rfl⟩, (Tk.mono (keeps_heap q₁.1)).trans ((Tk.mono (keeps_heap K2)).trans tk), rfl, I'⟩

theorem whl_ok (G : Gl fns base mg mb fa) (hΦ : FnsOk prog w base Φ fa k) {t : Expr} {c : Mine.E} {body : List Stmt} {b : Ss} {pos : Pos} (h : cE fns n sc t = some c) (hb : XsOK prog w base Φ k sc body b) :
    XOK prog w base Φ k sc (.While t body [] pos) (.whl c b) := by
  intro h₀ env T ρ A s r Q E I hE hex hQ
  have hex : loopW (fun ρ => (ev Φ ρ c).bind isTrueD) (fun ρ => exs Φ ρ b) lim ρ = some r := hex
  refine wpAny_While (codeAny_whileLoop (fun m s' => Same s s' ∧ Tk s.heap s'.heap ∧ ∃ ρ', Inv prog w base h₀ k sc env T ρ' A s'.heap ∧ loopW (fun ρ => (ev Φ ρ c).bind isTrueD) (fun ρ => exs Φ ρ b) m ρ' = some r) ?_ lim ⟨Same.refl s, Tk.refl _, ρ, I, hex⟩)
  rintro m s' ⟨sm, tk, ρ', I', hl⟩
  cases m with
  | zero => cases hl
  | succ m =>
    replace hl := ob hl
    obtain ⟨t', ht, hl⟩ := hl
    replace ht := ob ht
    obtain ⟨d, hd, ht⟩ := ht
    rw [isTrueD_some ht] at hd
    refine wpAny_passesOwn hE (wpAny_mono (((ev_sound G hΦ n sc).1 t c h).2 env ρ' A s' t' E I'.cx hd) (fun q s₁ hq => ?_) fun _ _ x => x)
    obtain ⟨rfl, K⟩ := hq
    have I₁ := I'.mono (keeps_heap K)
    have sm₁ := sm.trans (Same.keeps K)
    have tk₁ := tk.trans (Tk.mono (keeps_heap K))
    cases q with
    | false =>
      cases hl
      exact wpAny_execs_nil (hQ _ _ ⟨sm₁, tk₁, rfl, I₁⟩)
    | true =>
      replace hl := ob hl
      obtain ⟨rb, hbd, hl⟩ := hl
      refine wpAny_passesOwn hE (hb h₀ env T ρ' A s₁ rb _ E I₁ hE hbd (fun fl s₂ F => ?_))
      · obtain ⟨F1, F2, F3⟩ := F
        cases rb with
        | next ρ₂ => obtain ⟨rfl, I₂⟩ := F3; exact ⟨m, Nat.lt_succ_self m, sm₁.trans F1, tk₁.trans F2, ρ₂, I₂, hl⟩
        | cont ρ₂ => obtain ⟨rfl, I₂⟩ := F3; exact ⟨m, Nat.lt_succ_self m, sm₁.trans F1, tk₁.trans F2, ρ₂, I₂, hl⟩
        | ret d' =>
          cases hl
          obtain ⟨v, ρ₂, rfl, hV, I₂⟩ := F3
          exact hQ _ _ ⟨sm₁.trans F1, tk₁.trans F2, v, ρ₂, rfl, hV, I₂⟩
        | own lo => cases hl

theorem retD_ok {x : Str} {px pos : Pos} {j : Nat} (hx : idxVar sc x = some j) : XOK prog w base Φ k sc (.Return (some (.Name x px)) pos) (.retD j) := by
  intro h₀ env T ρ A s r Q E I hE hex hQ
  replace hex := om hex
  obtain ⟨kvs, hk, rfl⟩ := hex
  obtain ⟨h1, h2⟩ := idxVar_some hx
  obtain ⟨α, a1, a2, a3⟩ := I.own
  have hρ := Rho.dic?_some hk
  obtain ⟨v, hat, rfl, hD⟩ := a1 x j _ h1 h2 hρ
  obtain ⟨e1, _⟩ := a2 j _ hρ rfl
  exact wpAny_Return_some (load_var (ρ := ρ) (sc := sc) I.kind hat (hQ _ _ ⟨Same.refl s, Tk.refl _, α j, ρ, rfl, e1, hD, I⟩) (idxVar_dbg hx))

theorem ownS_ok (G : Gl fns base mg mb fa) (hΦ : FnsOk prog w base Φ fa k) {x : Str} {px pos lp pf : Pos} {a : Expr} {i : Nat} {e : Mine.E} (hx : idxVar sc x = some i) (hg : glob sc "sorted" = true) (h : cSrt (cE fns n sc) sc a = some e) :
    XOK prog w base Φ k sc (.Assign [.Name x px] (.Call (.Name "sorted" pf) [a] [] lp) pos) (.ownS i e) := by
  intro h₀ env T ρ A s r Q E I hE hex hQ
  replace hex := ob hex
  obtain ⟨d, hd, hex1⟩ := hex
  replace hex1 := ob hex1
  obtain ⟨ds, hit, hex2⟩ := hex1
  replace hex2 := oi hex2
  obtain ⟨hp, rfl⟩ := hex2
  obtain ⟨rs, rfl, hq⟩ := srt_ok (prog := prog) (w := w) (E := E) (p := pf) (pos := lp) G (ev_sound G hΦ n sc) hg h I.cx hd
  cases hit
  exact asgL_ok I hx rfl hq hp hQ

theorem ownR_ok (G : Gl fns base mg mb fa) (hΦ : FnsOk prog w base Φ fa k) {x : Str} {px pos lp pf rp pr : Pos} {a : Expr} {i : Nat} {e : Mine.E} (hx : idxVar sc x = some i) (hg : glob sc "list" = true) (hr : glob sc "range" = true) (h : cE fns n sc a = some e) :
    XOK prog w base Φ k sc (.Assign [.Name x px] (.Call (.Name "list" pf) [.Call (.Name "range" pr) [a] [] rp] [] lp) pos) (.ownR i e) := by
  intro h₀ env T ρ A s r Q E I hE hex hQ
  replace hex := ob hex
  obtain ⟨ds, hd, hex2⟩ := hex
  replace hex2 := oi hex2
  obtain ⟨hp, rfl⟩ := hex2
  replace hd := ob hd
  obtain ⟨y, hy, hd⟩ := hd
  replace hd := ob hd
  obtain ⟨m, hm, hd⟩ := hd
  have := intOf_some hm; subst this
  obtain ⟨hb, rfl⟩ := oi hd
  have J := ev_sound (prog := prog) (w := w) (k := k) G hΦ n sc
  refine asgL_ok I hx rfl (Call_ (load_builtin G I.cx hg (by decide +kernel) boot_list (callWith_type1 (args_cons ?_ (starEach_plain (fun _ _ q => by cases q) _ _)) (starEach_plain (fun _ _ q => by cases q) _ _)))) hp hQ
  refine Call_ (load_builtin G I.cx hr (by decide +kernel) boot_range (callWith_type1 (args_cons ?_ (starEach_plain (J.plain h) _ _)) (starEach_plain (J.plain h) _ _)))
  refine wpAny_mono ((J.1 a e h).1 env ρ A s _ E I.cx hy) (fun v s₁ h₁ => args_nil ?_) fun _ _ x => x
  obtain ⟨K, v1⟩ := h₁
  obtain ⟨t, rfl⟩ := v1.int_inv
  refine call_range_1 (args_nil ?_)
  have hlim : (lim : Int) < 2 ^ 62 := by decide +kernel
  have hlen : ((rangeD 0 m).length : Int) = Builtin.Range.rangeSize 0 m 1 := by
    rw [rangeSize_one]
    simp only [rangeD, List.length_map, List.length_range]
    split <;> (first | lia | omega)
  have hll := rangeD_lim (a := 0) (b := m) (by (first | lia | omega)) hb.2
  refine call_list_range (n := (rangeD 0 m).length) I.ok.hand (IsRange.new _ _ _ _ _ _ _) (small_one (by (first | lia | omega)) (by (first | lia | omega)) (by (first | lia | omega)) (by (first | lia | omega))) hlen.symm (Nat.le_trans hll (by decide)) fun h' tk acc c hk hD hacc => ?_
  refine ⟨_, acc.toList, rfl, keeps_trans K (keeps_trans (keeps_push _ _ _) ⟨h', tk, rfl, hk⟩), ?_, ⟨c, by rw [Array.toArray_toList]; exact hD⟩, ?_, hll⟩
  · exact fresh_at (keeps_trans K (keeps_push s₁ _ (s₁.toks + 1 + 1)))
  · have : ∀ {vs : List Value} {ds : List D}, vs.length = ds.length → (∀ (j : Nat) v, vs[j]? = some v → ∃ d, ds[j]? = some d ∧ V h' v d) → Vs h' vs ds := by
      intro vs
      induction vs with
      | nil => intro ds hl _; cases ds with | nil => exact .nil | cons => simp at hl
      | cons v vs ih =>
        intro ds hl hh
        cases ds with
        | nil => simp at hl
        | cons d ds =>
          obtain ⟨d', e1, e2⟩ := hh 0 v rfl
          simp at e1; subst e1
          exact .cons e2 (ih (by simpa using hl) fun j v hv => hh (j + 1) v (by simpa using hv))
    refine this (by rw [Array.length_toList]; exact hacc.1) fun j v hv => ?_
    rw [Array.getElem?_toList] at hv
    obtain ⟨t', rfl⟩ := hacc.2 j v hv
    have hj : j < (rangeD 0 m).length := by rw [← hacc.1]; exact (Array.getElem?_eq_some_iff.mp hv).1
    exact ⟨_, rangeD_get hj, by rw [Int.mul_one]; exact .int _ _⟩

theorem pop_plain {A : Around} {E : Value → Shared → Prop} {s : Shared} {l : Addr} {vs : List Value} {y : Value} {Q : Value → Shared → Prop} (hl : s.heap.PlainList l (List.toArray vs)) (hy : vs.getLast? = some y) (hsz : vs.length ≤ sizeLine)
    (hQ : ∀ h', h'.PlainList l (List.toArray vs.dropLast) → Heap.SameBut l s.heap h' → Q y { s with heap := h' }) : wpAny (model prog w) A (call (.builtin "list.pop") [.ref l]) Q E s := by
  obtain ⟨n, ho⟩ := hl
  have hy' : (List.toArray vs)[(List.toArray vs).size - 1]? = some y := by
    rw [List.getElem?_toArray, List.size_toArray, ← List.getLast?_eq_getElem?]; exact hy
  refine call_meets PySem.F.slot_list_pop ⟨_, ho, rfl⟩ PySem.F.entry_list_pop (PySem.F.args_list_pop_1 _) (PySem.MeetsSeq.list_pop_last l _ n y hy' (by rw [List.size_toArray]; exact hsz)) ⟨ho, ?_⟩
  refine hQ _ ?_ (Heap.SameBut.update ..)
  have e := get?_update_seq ho (fun xs => xs.eraseIdxIfInBounds ((List.toArray vs).size - 1))
  have e2 : (List.toArray vs).eraseIdxIfInBounds ((List.toArray vs).size - 1) = List.toArray vs.dropLast := by
    apply Array.toList_inj.mp
    rw [Array.toList_eraseIdxIfInBounds]
    simp [List.dropLast_eq_take, List.eraseIdx_eq_take_drop_succ]
    (first | lia | omega)
  rw [e2] at e
  exact ⟨_, e⟩

theorem getLast_V {h : Heap} : ∀ {vs : List Value} {ds : List D} {d : D}, Vs h vs ds → ds.getLast? = some d → ∃ v, vs.getLast? = some v ∧ V h v d ∧ Vs h vs.dropLast ds.dropLast := by
  intro vs ds d hv hd
  have hl := hv.length
  rw [List.getLast?_eq_getElem?] at hd
  obtain ⟨v, hv', hV⟩ := hv.get hd
  refine ⟨v, by rw [List.getLast?_eq_getElem?, hl]; exact hv', hV, ?_⟩
  rw [List.dropLast_eq_take, List.dropLast_eq_take, hl]
  exact hv.take _

theorem pop_ok {x y : Str} {px pos ap cp py : Pos} {i j : Nat} (hx : idxVar sc x = some i) (hy : idxVar sc y = some j) (hline : (ap.endLine == cp.line) = true) :
    XOK prog w base Φ k sc (.Assign [.Name x px] (.Call (.Attribute (.Name y py) "pop" ap) [] [] cp) pos) (.pop i j) := by
  intro h₀ env T ρ A s r Q E I hE hex hQ
  replace hex := ob hex
  obtain ⟨ds, hρ, hex1⟩ := hex
  replace hex1 := om hex1
  obtain ⟨d, hd, rfl⟩ := hex1
  obtain ⟨h1, h2⟩ := idxVar_some hy
  obtain ⟨a, vs, hat, hl, hvs, hpu, hle, chg⟩ := own_at I h1 h2 (Rho.own?_some hρ)
  obtain ⟨v, hv, hV, hvs'⟩ := getLast_V hvs hd
  have hdp : d.pure = true := List.all_eq_true.mp hpu d (List.mem_of_getLast? hd)
  refine wpAny_Assign_Name (Call_method0 rfl hline (load_var (ρ := ρ) (sc := sc) I.kind hat ?_ (idxVar_dbg hy))) rfl
  refine ⟨"list", "list.pop", PySem.F.plainAttrs_list, PySem.F.slot_list_pop, PySem.F.type_list_pop, hl.isList.typeIs, ?_, ?_⟩
  · intro b e
    cases e
    obtain ⟨n, ho⟩ := hl
    exact ⟨_, ho, rfl⟩
  · refine callWith_builtin (by rfl) (PyProof.Rows.evalArgs_none ?_)
    refine pop_plain hl hv (by rw [hvs.length]; exact Nat.le_trans hle lim_line) fun h' hl' hs' => ?_
    obtain ⟨I', tk⟩ := chg s.heap h' vs.dropLast ds.dropLast (fun _ _ e => e) hs' hl' hvs' (List.all_eq_true.mpr fun z hz => List.all_eq_true.mp hpu z (List.dropLast_subset _ hz)) (by rw [List.length_dropLast]; (first | lia | omega))
    exact put_ok (s := { s with heap := h' }) I' hx (keeps_refl _) (hV.pureKeep tk hdp) hdp fun s' F => hQ _ _ (F.after ⟨h', s.toks, rfl⟩ tk)
end
end Mine

namespace Mine
open PySem PySem.Calls PyProof.Rows PySem.SeqAt

section
variable {prog : Program} {w : World} {base : Heap} {fns excs : List Str} {mg mb : Str → Option Value} {fa : Nat → Addr} {Φ : Fns} {k n : Nat} {sc : Sc}

theorem compFor_some {y : Str} {py : Pos} {v : Expr} (h : compFor sc y py v = true) : ∃ elt gens scope cpos, v = .ListComp elt gens scope cpos ∧ sc.kd.lookup y = some .local ∧ (py.line == cpos.line) = true ∧ (scope.names.any fun z => z.1 == y && (z.2 == .local || z.2 == .cell)) = false := by
  cases v <;> first | exact nns h | exact nnb h | skip
  rename_i elt gens scope cpos
  have h : (sc.kd.lookup y == some NameKind.local && py.line == cpos.line && !(scope.names.any fun z => z.1 == y && (z.2 == NameKind.local || z.2 == NameKind.cell))) = true := h
  rw [Bool.and_eq_true, Bool.and_eq_true, Bool.not_eq_true'] at h
  exact ⟨elt, gens, scope, cpos, rfl, beq_iff_eq.mp h.1.1, h.1.2, h.2⟩

theorem comp_swaps {env : Env} {y : Str} {py cpos : Pos} {l : Nat} {elt : Expr} {gens : List Comprehension} {scope : Scope} (hk : env.kindOf y = some .local) (hkind : env.scope.kind = .function) (hline : (py.line == cpos.line) = true) (hno : (scope.names.any fun z => z.1 == y && (z.2 == .local || z.2 == .cell)) = false) :
    swapsWith (.ListComp elt gens scope cpos) (some (.Name y py)) l env = pure true := by
  show (pure (env.blockKind == .function && env.kindOf y == some .local && py.line == cpos.line && !(scope.names.any fun (n, k) => n == y && (k == .local || k == .cell))) : Sem Bool) = pure true
  have hb : env.blockKind = .function := by
    unfold Env.blockKind
    rw [hkind]; rfl
  have hno' : (scope.names.any fun (n, k) => n == y && (k == .local || k == .cell)) = false := hno
  rw [hb, hk, hline, hno']; rfl

theorem ownC_ok (G : Gl fns base mg mb fa) (hΦ : FnsOk prog w base Φ fa k) {y : Str} {py pos cpos : Pos} {elt : Expr} {gens : List Comprehension} {scope : Scope} {i : Nat} {e : Mine.E} (hx : idxVar sc y = some i)
    (hloc : sc.kd.lookup y = some .local) (hline : (py.line == cpos.line) = true) (hno : (scope.names.any fun z => z.1 == y && (z.2 == .local || z.2 == .cell)) = false) (h : cE fns n sc (.ListComp elt gens scope cpos) = some e) :
    XOK prog w base Φ k sc (.Assign [.Name y py] (.ListComp elt gens scope cpos) pos) (.ownC i e) := by
  cases n with
  | zero => cases h
  | succ n =>
  obtain ⟨x, px, iter, ifs, it, el, cd, rfl, hco, hit, hel, rfl, hcd⟩ := cComp_parts h
  intro h₀ env T ρ A s r Q E I hE hex hQ
  replace hex := ob hex
  obtain ⟨dd, hev, hex1⟩ := hex
  replace hex1 := ob hex1
  obtain ⟨res, hdd, hex2⟩ := hex1
  replace hex2 := oi hex2
  obtain ⟨hpu, rfl⟩ := hex2
  obtain ⟨ds, res', hds, hres, hp, rfl⟩ := ev_comp_parts hev
  cases hdd
  have J := ev_sound (prog := prog) (w := w) (k := k) G hΦ n sc
  have J' := ev_sound (prog := prog) (w := w) (k := k) G hΦ n (compSc sc scope.names x)
  obtain ⟨hs, hi⟩ := it_ok (prog := prog) (w := w) (E := E) G J hit I.cx hds
  rw [exec_Assign_Name_used _ _ _ _ (comp_swaps ((I.kindOf y).trans hloc) I.kind hline hno)]
  refine wpAny_bind (wpAny_standAt (wpAny_bind ?_))
  show wpAny _ A (do let _ ← comprehension (.ListComp elt [⟨.Name x px, iter, ifs, 0⟩] scope cpos) scope env _ (newList []) false (eval iter env) (some (assign (.Name y py) env))) _ _ s
  refine wpAny_bind (wpAny_mono (comp_ok (Q := fun _ s' => Q .next s') (use := some (assign (.Name y py) env)) I.cx (compOk_of hco) hs (it_simple hi) ((J'.1 elt el hel).1) (hcd.imp id fun ⟨t, e, q⟩ => ⟨t, e, (J'.1 t cd q).2⟩) hres hpu ?_) (fun _ s' hq => wpAny_pure (wpAny_pure hq)) fun _ _ e => e)
  intro Dd C s' m' ys hdl hk hD hC hDC hn hl hvs
  have hlen : res.length ≤ lim := Nat.le_trans (compO_len hres) hdl
  obtain ⟨oC, esC, epC, hoC, _⟩ := id hn
  have K0 : ∀ b o, s.heap.get? b = some o → (s'.heap.hide Dd).get? b = some o := fun b o e => by
    rw [Heap.hide_ne _ (fun q => by rw [q, hD] at e; cases e)]; exact keeps_heap hk b o e
  have Ig := I.guardNew K0 hC (by rw [Heap.hide_ne _ (Ne.symm hDC)]; exact hoC)
  refine wpAny_assign_Name (putL_ok Ig hx (fun b o e => Heap.of_hide e) (Heap.hide_self _ _) hl hvs hpu hlen fun h₂ tk₂ I₂ t₂ sb => ?_)
  have hCL : env.locals ≠ C := Ne.symm (Ig.prot _ (.head _)).2.1
  have hCc : ∀ z c, env.cells.lookup z = some c → c ≠ C := fun z c hz e => (Ig.prot _ (.head _)).2.2 z (e ▸ hz)
  obtain ⟨q, hsb, hq⟩ := sb
  have hn₂ := hn.sameBut hsb (Ne.symm (hq.elim (fun e => e ▸ hCL) fun ⟨z, hz⟩ => hCc z q hz))
  refine ⟨m', hn₂, fun h₃ hs₃ => ?_⟩
  obtain ⟨I₃, t₃⟩ := I₂.aside (h' := h₃) (fun a o ha e => hs₃.extBut a o ha e) (I.h0_none hC) (I.tl_ne C hC) (fun a items t => ns_notuple hn₂ t) (I.frames_ne hC)
  exact hQ _ _ ⟨(Same.keeps hk).trans ⟨h₃, tk₂, rfl⟩, ((Tk.mono (keeps_heap hk)).trans t₂).trans t₃, rfl, I₃⟩

/-- a comprehension's list goes back -/
theorem retC_ok (G : Gl fns base mg mb fa) (hΦ : FnsOk prog w base Φ fa k) {pos cpos : Pos} {elt : Expr} {gens : List Comprehension} {scope : Scope} {e : Mine.E} (h : cE fns n sc (.ListComp elt gens scope cpos) = some e) :
    XOK prog w base Φ k sc (.Return (some (.ListComp elt gens scope cpos)) pos) (.retC e) := by
  cases n with
  | zero => cases h
  | succ n =>
  obtain ⟨x, px, iter, ifs, it, el, cd, rfl, hco, hit, hel, rfl, hcd⟩ := cComp_parts h
  intro h₀ env T ρ A s r Q E I hE hex hQ
  replace hex := ob hex
  obtain ⟨dd, hev, hex1⟩ := hex
  replace hex1 := om hex1
  obtain ⟨res, hdd, rfl⟩ := hex1
  obtain ⟨ds, res', hds, hres, hp, rfl⟩ := ev_comp_parts hev
  cases hdd
  have J := ev_sound (prog := prog) (w := w) (k := k) G hΦ n sc
  have J' := ev_sound (prog := prog) (w := w) (k := k) G hΦ n (compSc sc scope.names x)
  obtain ⟨hs, hi⟩ := it_ok (prog := prog) (w := w) (E := E) G J hit I.cx hds
  refine wpAny_Return_some ?_
  rw [eval_ListComp]
  refine comp_ok (use := none) I.cx (compOk_of hco) hs (it_simple hi) ((J'.1 elt el hel).1) (hcd.imp id fun ⟨t, e, q⟩ => ⟨t, e, (J'.1 t cd q).2⟩) hres hp ?_
  intro Dd C s' m' ys hdl hk hD hC hDC hn hl hvs
  refine ⟨m', hn, fun h'' hs'' => ?_⟩
  have hlen : res.length ≤ lim := Nat.le_trans (compO_len hres) hdl
  have tk : ∀ a items, s'.heap.IsTuple a items → h''.IsTuple a items := tup_keep [C] (fun b o hb e => by
    simp only [List.mem_cons, List.not_mem_nil, or_false] at hb
    exact hs''.extBut b o hb e) (fun b hb => by rw [List.mem_singleton.mp hb]; exact badNs hn)
  obtain ⟨h₁, t₁, rfl, hk₁⟩ := hk
  have K : ∀ b o, s.heap.get? b = some o → h''.get? b = some o := fun b o e => hs''.extBut b o (fun q => by rw [q, hC] at e; cases e) (hk₁ b o e)
  exact hQ _ _ ⟨⟨h'', t₁, rfl⟩, Tk.mono K, Dd, ρ, rfl, I.h0_none hD, ⟨ys, hl.extBut hs''.extBut hDC, hvs.pureKeep tk hp, hp, hlen⟩, I.mono K⟩
end
end Mine

namespace Mine
open PySem PySem.Calls PyProof.Rows PySem.SeqAt

section
variable {prog : Program} {w : World} {base : Heap} {fns excs : List Str} {mg mb : Str → Option Value} {fa : Nat → Addr} {Φ : Fns} {k n : Nat} {sc : Sc}

theorem plain_swaps {v : Expr} (h : plainE v = true) (t : Option Expr) (l : Nat) (env : Env) : swapsWith v t l env = pure false := by
  cases v <;> first | rfl | cases h
theorem asList_some {v a : Expr} (h : asList sc v = some a) : ∃ p pos, v = .Call (.Name "list" p) [a] [] pos ∧ glob sc "list" = true := by
  replace h := ob h
  obtain ⟨⟨fn, args, pos⟩, hc, h1⟩ := h
  replace h1 := oi' h1
  obtain ⟨⟨h2, h3⟩, h4⟩ := h1
  have := callOf_some hc; subst this
  obtain ⟨p, hp⟩ := nameIs_some h2
  have hp : fn = _ := hp
  subst hp
  have ha : args = [a] := one_some h4
  subst ha
  exact ⟨p, pos, rfl, h3⟩

theorem asRange_some {v a : Expr} (h : asRange sc v = some a) : ∃ p pos, v = .Call (.Name "range" p) [a] [] pos ∧ glob sc "range" = true := by
  replace h := ob h
  obtain ⟨⟨fn, args, pos⟩, hc, h1⟩ := h
  replace h1 := oi' h1
  obtain ⟨⟨h2, h3⟩, h4⟩ := h1
  have := callOf_some hc; subst this
  obtain ⟨p, hp⟩ := nameIs_some h2
  have hp : fn = _ := hp
  subst hp
  have ha : args = [a] := one_some h4
  subst ha
  exact ⟨p, pos, rfl, h3⟩
theorem asSorted_some {v a : Expr} (h : asSorted sc v = some a) : ∃ p pos, v = .Call (.Name "sorted" p) [a] [] pos ∧ glob sc "sorted" = true := by
  replace h := ob h
  obtain ⟨⟨fn, args, pos⟩, hc, h1⟩ := h
  replace h1 := oi' h1
  obtain ⟨⟨h2, h3⟩, h4⟩ := h1
  have := callOf_some hc; subst this
  obtain ⟨p, hp⟩ := nameIs_some h2
  have hp : fn = _ := hp
  subst hp
  have ha : args = [a] := one_some h4
  subst ha
  exact ⟨p, pos, rfl, h3⟩
theorem asPop_some {v : Expr} {j : Nat} (h : asPop sc v = some j) : ∃ y py ap cp, v = .Call (.Attribute (.Name y py) "pop" ap) [] [] cp ∧ idxVar sc y = some j ∧ (ap.endLine == cp.line) = true := by
  replace h := ob h
  obtain ⟨⟨fn, args, cp⟩, hc, h⟩ := h
  replace h := ob h
  obtain ⟨⟨o, m, ap⟩, hq, h⟩ := h
  replace h := oi' h
  obtain ⟨⟨hm, hl, he⟩, h⟩ := h
  replace h := ob h
  obtain ⟨y, hy, h⟩ := h
  have := callOf_some hc; subst this
  have hq' : fn = .Attribute o m ap := attrOf_some hq
  subst hq'
  have hm : m = _ := hm
  subst hm
  obtain ⟨py, hy'⟩ := nameOf_some hy
  have hy' : o = _ := hy'
  subst hy'
  have he : args = [] := List.isEmpty_iff.mp he
  subst he
  exact ⟨y, py, ap, cp, rfl, h, hl⟩

theorem asg_sound (G : Gl fns base mg mb fa) (hΦ : FnsOk prog w base Φ fa k) {x : Str} {px pos : Pos} {i : Nat} {v : Expr} {st' : S} (hi : idxVar sc x = some i) (h : cAsg fns n sc x px i v = some st') :
    XOK prog w base Φ k sc (.Assign [.Name x px] v pos) st' := by
  unfold cAsg at h
  cases h1 : asCall fns n sc v with
  | some q => rw [h1] at h; cases h; exact asgCall G hΦ hi h1
  | none =>
    rw [h1] at h
    dsimp only at h
    cases h2 : listOf v with
    | some es =>
      rw [h2] at h
      replace h := ob h
      obtain ⟨es', hes, h⟩ := h
      obtain ⟨hsz, rfl⟩ := oi h
      obtain ⟨p, rfl⟩ := listOf_some h2
      exact ownD_ok G hΦ hi hes hsz
    | none =>
      rw [h2] at h
      dsimp only at h
      cases h4 : asList sc v with
      | some a =>
        rw [h4] at h
        dsimp only at h
        obtain ⟨p, pos, rfl, hg⟩ := asList_some h4
        cases h5 : asRange sc a with
        | some b =>
          rw [h5] at h
          obtain ⟨e, he, rfl⟩ := om h
          obtain ⟨p', pos', rfl, hr⟩ := asRange_some h5
          exact ownR_ok G hΦ hi hg hr he
        | none =>
          rw [h5] at h
          obtain ⟨e, he, rfl⟩ := om h
          exact ownL_ok G hΦ hi hg he
      | none =>
        rw [h4] at h
        dsimp only at h
        cases h6 : asPop sc v with
        | some j =>
          rw [h6] at h
          cases h
          obtain ⟨y, py, ap, cp, rfl, hy, hl⟩ := asPop_some h6
          exact pop_ok hi hy hl
        | none =>
        rw [h6] at h
        dsimp only at h
        cases h7 : asSorted sc v with
        | some a =>
          rw [h7] at h
          obtain ⟨e, he, rfl⟩ := om h
          obtain ⟨p', pos', rfl, hg⟩ := asSorted_some h7
          exact ownS_ok G hΦ hi hg he
        | none =>
        rw [h7] at h
        dsimp only at h
        by_cases hed : isEmptyDict v = true
        · rw [if_pos hed] at h
          cases h
          cases v <;> first | exact nnb hed | skip
          rename_i ks vs dp
          have hed : (ks.isEmpty && vs.isEmpty) = true := hed
          rw [Bool.and_eq_true] at hed
          have e1 := List.isEmpty_iff.mp hed.1
          have e2 := List.isEmpty_iff.mp hed.2
          subst e1 e2
          exact newD_ok G hi
        rw [if_neg hed] at h
        replace h := ob h
        obtain ⟨e, he, h⟩ := h
        by_cases hp : plainE v = true
        · rw [if_pos hp] at h; cases h
          exact asgE G hΦ hi he fun env => plain_swaps hp _ _ _
        · rw [if_neg hp] at h
          obtain ⟨hc, rfl⟩ := oi h
          obtain ⟨elt, gens, scope, cpos, rfl, q1, q2, q3⟩ := compFor_some hc
          exact ownC_ok G hΦ hi q1 q2 q3 he

theorem unp_sound (G : Gl fns base mg mb fa) (hΦ : FnsOk prog w base Φ fa k) {ts : List Expr} {x1} {tp pos : Pos} {is : List Nat} {v : Expr} {st' : S} (hi : idxVars sc ts = some is) (h : cUnp fns n sc is v = some st') :
    XOK prog w base Φ k sc (.Assign [.Tuple ts x1 tp] v pos) st' := by
  replace h := oi' h
  obtain ⟨hv, h⟩ := h
  obtain ⟨e, he, rfl⟩ := om h
  refine unpE G hΦ hi he (fun env => ?_) fun env => ?_ <;> (cases v <;> first | rfl | cases hv)

theorem tgt_sound (G : Gl fns base mg mb fa) (hΦ : FnsOk prog w base Φ fa k) {t v : Expr} {pos : Pos} {st' : S} (h : cTgt fns n sc v t = some st') : XOK prog w base Φ k sc (.Assign [t] v pos) st' := by
  cases t with
  | Name x px =>
    replace h := ob h
    obtain ⟨i, hi, h⟩ := h
    exact asg_sound G hΦ hi h
  | Tuple es x1 tp =>
    replace h := ob h
    obtain ⟨is, hi, h⟩ := h
    exact unp_sound G hΦ hi h
  | Subscript o i sp =>
    obtain ⟨hp, h1⟩ := oi' (show (if plainE v = true then (nameOf o).bind _ else none) = some st' from h)
    replace h1 := ob h1
    obtain ⟨x, hx, h2⟩ := h1
    replace h2 := ob h2
    obtain ⟨ix, hix, h3⟩ := h2
    replace h3 := ob h3
    obtain ⟨i', hi, h4⟩ := h3
    replace h4 := om h4
    obtain ⟨v', hv, h5⟩ := h4
    obtain ⟨px, rfl⟩ := nameOf_some hx
    by_cases hdn : dictNames.contains x = true
    · rw [if_pos hdn] at h5; subst h5
      exact setd_ok G hΦ hix hi hv fun env => plain_swaps hp _ _ _
    · rw [if_neg hdn] at h5; subst h5
      exact seti_ok G hΦ hix hi hv fun env => plain_swaps hp _ _ _
  | _ => exact nns h

theorem for_sound (G : Gl fns base mg mb fa) (hΦ : FnsOk prog w base Φ fa k) {t it : Expr} {body : List Stmt} {b : Ss} {pos : Pos} {st' : S} (hb : XsOK prog w base Φ k sc body b) (h : cFor fns n sc it b t = some st') : XOK prog w base Φ k sc (.For t it body [] pos) st' := by
  cases t with
  | Name x px =>
    replace h := ob h
    obtain ⟨i, hi, h⟩ := h
    cases h1 : nameOf it with
    | some y =>
      rw [h1] at h
      obtain ⟨j, hj, rfl⟩ := om h
      obtain ⟨py, rfl⟩ := nameOf_some h1
      exact forV_ok hi hj hb
    | none =>
      rw [h1] at h
      obtain ⟨it', hit, rfl⟩ := om h
      exact for1_ok G (ev_sound G hΦ n sc) hi hit hb
  | Tuple es x1 tp =>
    replace h := ob h
    obtain ⟨is, hi, h⟩ := h
    replace h := ob h
    obtain ⟨y, hy, h⟩ := h
    obtain ⟨j, hj, rfl⟩ := om h
    obtain ⟨py, rfl⟩ := nameOf_some hy
    exact forU_ok hi hj hb
  | _ => exact nns h

theorem ret_sound (G : Gl fns base mg mb fa) (hΦ : FnsOk prog w base Φ fa k) {e : Expr} {pos : Pos} {st' : S} (h : cRet fns n sc e = some st') : XOK prog w base Φ k sc (.Return (some e) pos) st' := by
  unfold cRet at h
  by_cases hc : isComp e = true
  · rw [if_pos hc] at h
    obtain ⟨e', he, rfl⟩ := om h
    cases e <;> first | exact nnb hc | skip
    exact retC_ok G hΦ he
  · rw [if_neg hc] at h
    cases hd : dictVar sc e with
    | some j =>
      rw [hd] at h
      cases h
      obtain ⟨x, px, rfl, hx⟩ := dictVar_some hd
      exact retD_ok hx
    | none =>
      rw [hd] at h
      obtain ⟨e', he, rfl⟩ := om h
      exact ret_ok G hΦ he

theorem exp_sound (G : Gl fns base mg mb fa) (hΦ : FnsOk prog w base Φ fa k) {v : Expr} {pos : Pos} {st' : S} (h : cApp fns n sc v = some st') : XOK prog w base Φ k sc (.Expr v pos) st' := by
  obtain ⟨⟨fn, args, cp⟩, hc, h2⟩ := ob h
  replace h2 := ob h2
  obtain ⟨⟨o, m, ap⟩, hq, h3⟩ := h2
  replace h3 := oi' h3
  obtain ⟨⟨hm, hl⟩, h4⟩ := h3
  replace h4 := ob h4
  obtain ⟨x, hx, h5⟩ := h4
  replace h5 := ob h5
  obtain ⟨i, hi, h6⟩ := h5
  replace h6 := ob h6
  obtain ⟨a, ha, h7⟩ := h6
  replace h7 := om h7
  obtain ⟨e, he, rfl⟩ := h7
  have := callOf_some hc; subst this
  have hq' : fn = .Attribute o m ap := attrOf_some hq
  subst hq'
  have hm : m = _ := hm
  subst hm
  obtain ⟨px, hx'⟩ := nameOf_some hx
  have hx' : o = _ := hx'
  subst hx'
  have ha' : args = [a] := one_some ha
  subst ha'
  exact app_ok G hΦ hi he hl

mutual
theorem x_sound (G : Gl fns base mg mb fa) (hΦ : FnsOk prog w base Φ fa k) : (st : Stmt) → (st' : S) → cS fns excs n sc st = some st' → XOK prog w base Φ k sc st st'
  | .Return v pos, st', h => by
    replace h := ob h
    obtain ⟨e, rfl, h⟩ := h
    exact ret_sound G hΦ h
  | .Continue pos, st', h => by cases h; exact cont_ok
  | .If t a b pos, st', h => by
    replace h := ob h
    obtain ⟨c, hc, h⟩ := h
    replace h := ob h
    obtain ⟨x, hx, h⟩ := h
    obtain ⟨y, hy, rfl⟩ := om h
    exact iff_ok G hΦ hc (xs_sound G hΦ a x hx) (xs_sound G hΦ b y hy)
  | .Assign ts v pos, st', h => by
    replace h := ob h
    obtain ⟨t, ht, h⟩ := h
    have := one_some ht; subst this
    exact tgt_sound G hΦ h
  | .For t it body orelse pos, st', h => by
    obtain ⟨ho, h1⟩ := oi' (show (if orelse.isEmpty = true then (cSs fns excs n sc body).bind _ else none) = some st' from h)
    replace h1 := ob h1
    obtain ⟨b, hb, h2⟩ := h1
    cases orelse with
    | cons => cases ho
    | nil => exact for_sound G hΦ (xs_sound G hΦ body b hb) h2
  | .While t body orelse pos, st', h => by
    obtain ⟨ho, h1⟩ := oi' (show (if orelse.isEmpty = true then (cE fns n sc t).bind _ else none) = some st' from h)
    replace h1 := ob h1
    obtain ⟨c, hc, h2⟩ := h1
    obtain ⟨b, hb, rfl⟩ := om h2
    cases orelse with
    | cons => cases ho
    | nil => exact whl_ok G hΦ hc (xs_sound G hΦ body b hb)
  | .Expr v pos, st', h => exp_sound G hΦ h
  | .Raise e c pos, st', h => by
    cases h
    intro h₀ env T ρ A s r Q E I hE hex hQ
    cases hex
  | .FunctionDef .., st', h => by cases h
  | .AsyncFunctionDef .., st', h => by cases h
  | .ClassDef .., st', h => by cases h
  | .Delete .., st', h => by cases h
  | .TypeAlias .., st', h => by cases h
  | .AugAssign .., st', h => by cases h
  | .AnnAssign .., st', h => by cases h
  | .AsyncFor .., st', h => by cases h
  | .With .., st', h => by cases h
  | .AsyncWith .., st', h => by cases h
  | .Match .., st', h => by cases h
  | .Try .., st', h => by cases h
  | .TryStar .., st', h => by cases h
  | .Assert .., st', h => by cases h
  | .Import .., st', h => by cases h
  | .ImportFrom .., st', h => by cases h
  | .Global .., st', h => by cases h
  | .Nonlocal .., st', h => by cases h
  | .Pass .., st', h => by cases h
  | .Break .., st', h => by cases h
theorem xs_sound (G : Gl fns base mg mb fa) (hΦ : FnsOk prog w base Φ fa k) : (b : List Stmt) → (b' : Ss) → cSs fns excs n sc b = some b' → XsOK prog w base Φ k sc b b'
  | [], b', h => by cases h; exact seq_nil
  | st :: r, b', h => by
    replace h := ob h
    obtain ⟨a, ha, h⟩ := h
    obtain ⟨b, hb, rfl⟩ := om h
    exact seq_cons (x_sound G hΦ st a ha) (xs_sound G hΦ r b hb)
end
end
end Mine

namespace Mine
open PySem PySem.Calls PyProof.Rows PySem.SeqAt

theorem zip_lookup_some : ∀ {ns : List Str} {vs : List Value}, vs.length = ns.length → ∀ n ∈ ns, ((ns.zip vs).lookup n).isSome = true
  | [], _, _, n, h => by cases h
  | m :: ns, [], hl, n, h => by cases hl
  | m :: ns, v :: vs, hl, n, h => by
    rw [List.zip_cons_cons, List.lookup_cons]
    by_cases e : n = m
    · subst e; simp
    · rw [beq_eq_false_iff_ne.mpr e]
      rcases List.mem_cons.mp h with q | q
      · exact absurd q e
      · exact zip_lookup_some (by simpa using hl) n q
theorem zip_filterMap : ∀ {ns : List Str} {vs : List Value}, vs.length = ns.length → ns.Nodup → (ns.filterMap fun n => ((ns.zip vs).lookup n).map (n, ·)) = ns.zip vs
  | [], _, _, _ => rfl
  | m :: ns, [], hl, _ => by cases hl
  | m :: ns, v :: vs, hl, hn => by
    rw [List.nodup_cons] at hn
    rw [List.zip_cons_cons, List.filterMap_cons, List.lookup_cons, beq_self_eq_true]
    simp only [Option.map_some]
    congr 1
    have ih := zip_filterMap (ns := ns) (vs := vs) (by simpa using hl) hn.2
    refine Eq.trans ?_ ih
    have key : ∀ l : List Str, m ∉ l → (l.filterMap fun n => (((m, v) :: ns.zip vs).lookup n).map (n, ·)) = l.filterMap fun n => ((ns.zip vs).lookup n).map (n, ·) := by
      intro l hm
      induction l with
      | nil => rfl
      | cons y l ihl =>
        simp only [List.mem_cons, not_or] at hm
        rw [List.filterMap_cons, List.filterMap_cons, ihl hm.2, List.lookup_cons, beq_eq_false_iff_ne.mpr (Ne.symm hm.1)]
    exact key ns hn.1

theorem binds_plain {fd : FuncData} {vals : List Value} (h1 : fd.params.posonlyargs = []) (h2 : fd.params.kwonlyargs = []) (h3 : fd.params.vararg = none) (h4 : fd.params.kwarg = none) (h5 : fd.defaults = .none)
    (hl : vals.length = (fd.params.args.map (·.arg)).length) (hn : (fd.params.args.map (·.arg)).Nodup) : bindArgs fd ⟨vals, []⟩ = pure ((fd.params.args.map (·.arg)).zip vals) := by
  unfold bindArgs
  have e : seqItems? Value.none = (pure none : Sem (Option (Array Value))) := rfl
  simp only [h1, h2, h3, h4, h5, e, List.map_nil, List.nil_append, List.forIn_nil, pure_bind, bind_pure, Option.getD_none, List.drop_nil, List.length_nil, Nat.sub_zero, Option.isNone_none, Option.isSome_none]
  have hmiss : (List.filter (fun n => (List.lookup n ((fd.params.args.map (·.arg)).zip vals)).isNone) ((fd.params.args.map (·.arg)).take (fd.params.args.map (·.arg)).length)) = [] := by
    rw [List.filter_eq_nil_iff]
    intro n hnm
    have := zip_lookup_some hl n (List.mem_of_mem_take hnm)
    simp only [Option.isNone_iff_eq_none]
    intro q; rw [q] at this; cases this
  generalize hN : fd.params.args.map (·.arg) = N at *
  have hz := zip_filterMap hl hn
  rw [if_neg (by simp [hl]), hmiss]
  simp only [List.isEmpty_nil, Bool.not_true, Bool.false_eq_true, if_false, List.zip_nil_right, List.forIn_nil, pure_bind, List.append_nil, hz]
end Mine

namespace Mine
open PySem PySem.Calls PyProof.Rows PySem.SeqAt

theorem ix_get : ∀ {names : List (Str × NameKind)} {n i : Nat} {x : Str}, ((names.zipIdx n).map fun p => (p.1.1, p.2)).lookup x = some i → n ≤ i ∧ ∃ kd, names[i - n]? = some (x, kd)
  | [], _, _, _, h => by simp at h
  | (y, kd) :: r, n, i, x, h => by
    rw [List.zipIdx_cons, List.map_cons, List.lookup_cons] at h
    by_cases e : x = y
    · subst e
      simp only [beq_self_eq_true, Option.some.injEq] at h
      subst h
      exact ⟨Nat.le_refl _, kd, by simp⟩
    · simp only [beq_eq_false_iff_ne.mpr e] at h
      obtain ⟨h1, kd', h2⟩ := ix_get h
      refine ⟨by (first | lia | omega), kd', ?_⟩
      rw [show i - n = (i - (n + 1)) + 1 by (first | lia | omega)]
      simpa using h2

theorem rhoL_get {names : List (Str × NameKind)} {ps : List Str} {los : List Lo} {i : Nat} {x : Str} {kd : NameKind} {lo : Lo} (h : names[i]? = some (x, kd)) (hl : Rho.get (rhoL names ps los) i = some lo) : (ps.zip los).lookup x = some lo := by
  unfold Rho.get rhoL at hl
  rw [List.getElem?_map, h] at hl
  exact hl

/-- what a call hands over -/
inductive Pas (h : Heap) : List Value → List Lo → Prop
  | nil : Pas h [] []
  | arg {v : Value} {d : D} {vs : List Value} {los : List Lo} : V h v d → Pas h vs los → Pas h (v :: vs) (.arg d :: los)
theorem Vs.pas {h : Heap} {vs : List Value} {ds : List D} (x : Vs h vs ds) : Pas h vs (ds.map Lo.arg) := by
  induction vs generalizing ds with
  | nil => cases x; exact .nil
  | cons v vs ih => cases x with | cons a b => exact .arg a (ih b)
theorem Pas.length {h : Heap} {vs : List Value} {los : List Lo} (x : Pas h vs los) : vs.length = los.length := by
  induction x with
  | nil => rfl
  | arg _ _ ih => rw [List.length_cons, List.length_cons, ih]
theorem zip_P {prog : Program} {w : World} {h h' : Heap} {a : Addr} {x : Str} {lo : Lo} : ∀ {ps : List Str} {vs : List Value} {los : List Lo}, Pas h vs los → (ps.zip los).lookup x = some lo → ∃ v, (ps.zip vs).lookup x = some v ∧ LoV prog w h h' a v lo
  | [], _, _, _, e => by simp at e
  | p :: ps, _, _, .nil, e => by simp at e
  | p :: ps, v :: vs, _ :: los, .arg a b, e => by
    rw [List.zip_cons_cons, List.lookup_cons] at e ⊢
    by_cases q : x = p
    · subst q
      simp only [beq_self_eq_true, Option.some.injEq] at e ⊢
      subst e
      exact ⟨v, rfl, a⟩
    · simp only [beq_eq_false_iff_ne.mpr q] at e ⊢
      exact zip_P b e
theorem Pas.mine {h : Heap} {vs : List Value} {los : List Lo} (x : Pas h vs los) : ∀ lo ∈ los, lo.mine = false := by
  induction x with
  | nil => intro lo h; cases h
  | arg _ _ ih => intro lo h; rcases List.mem_cons.mp h with rfl | h; rfl; exact ih lo h
theorem rhoL_mine {names : List (Str × NameKind)} {ps : List Str} {los : List Lo} {i : Nat} {lo : Lo} (hm : ∀ lo ∈ los, lo.mine = false) (hl : Rho.get (rhoL names ps los) i = some lo) : lo.mine = false := by
  unfold Rho.get rhoL at hl
  rw [List.getElem?_map] at hl
  cases q : names[i]? with
  | none => rw [q] at hl; cases hl
  | some p =>
    rw [q] at hl
    have hl : (ps.zip los).lookup p.1 = some lo := hl
    exact hm lo (List.of_mem_zip (PySem.mem_of_lookup hl)).2

theorem bindL_other {kf : Str → Option NameKind} {x : Str} : ∀ {binds : List (Str × Value)} {m : Str → Option Value}, x ∉ binds.map (·.1) → bindL kf binds m x = m x
  | [], m, _ => rfl
  | (n, v) :: r, m, h => by
    simp only [List.map_cons, List.mem_cons, not_or] at h
    unfold bindL
    rw [bindL_other h.2]
    split
    · exact if_neg h.1
    · rfl
theorem bindC_other {kf : Str → Option NameKind} {x : Str} : ∀ {binds : List (Str × Value)} {m : Str → Option Value}, x ∉ binds.map (·.1) → bindC kf binds m x = m x
  | [], m, _ => rfl
  | (n, v) :: r, m, h => by
    simp only [List.map_cons, List.mem_cons, not_or] at h
    unfold bindC
    rw [bindC_other h.2]
    split
    · rfl
    · exact if_neg h.1
theorem bindL_get {kf : Str → Option NameKind} {x : Str} {v : Value} (hk : kf x = some .local) : ∀ {binds : List (Str × Value)} {m : Str → Option Value}, (binds.map (·.1)).Nodup → binds.lookup x = some v → bindL kf binds m x = some v
  | [], m, _, h => by simp at h
  | (n, u) :: r, m, hn, h => by
    rw [List.map_cons, List.nodup_cons] at hn
    unfold bindL
    rw [List.lookup_cons] at h
    by_cases q : x = n
    · subst q
      simp only [beq_self_eq_true, Option.some.injEq] at h
      subst h
      rw [bindL_other hn.1, if_pos hk, if_pos rfl]
    · simp only [beq_eq_false_iff_ne.mpr q] at h
      exact bindL_get hk hn.2 h
theorem bindC_get {kf : Str → Option NameKind} {x : Str} {v : Value} (hk : kf x = some .cell) : ∀ {binds : List (Str × Value)} {m : Str → Option Value}, (binds.map (·.1)).Nodup → binds.lookup x = some v → bindC kf binds m x = some v
  | [], m, _, h => by simp at h
  | (n, u) :: r, m, hn, h => by
    rw [List.map_cons, List.nodup_cons] at hn
    unfold bindC
    rw [List.lookup_cons] at h
    by_cases q : x = n
    · subst q
      simp only [beq_self_eq_true, Option.some.injEq] at h
      subst h
      rw [bindC_other hn.1, if_neg (by rw [hk]; decide), if_pos rfl]
    · simp only [beq_eq_false_iff_ne.mpr q] at h
      exact bindC_get hk hn.2 h

theorem cells_some {x : Str} : ∀ (names : List (Str × NameKind)) (n : Nat) (acc : List (Str × Addr)), names.lookup x = some .cell ∨ (acc.lookup x).isSome = true → ((cellsFrom n names acc).lookup x).isSome = true
  | [], n, acc, h => by
    rcases h with h | h
    · simp at h
    · exact h
  | (y, kd) :: r, n, acc, h => by
    unfold cellsFrom
    rw [List.lookup_cons] at h
    by_cases q : x = y
    · subst q
      simp only [beq_self_eq_true, Option.some.injEq] at h
      by_cases hk : (kd == NameKind.cell) = true
      · rw [if_pos hk]
        exact cells_some r _ _ (.inr (by simp))
      · rw [if_neg hk]
        refine cells_some r _ _ (.inr ?_)
        rcases h with h | h
        · rw [h] at hk; exact absurd rfl hk
        · exact h
    · simp only [beq_eq_false_iff_ne.mpr q] at h
      by_cases hk : (kd == NameKind.cell) = true
      · rw [if_pos hk]
        refine cells_some r _ _ ?_
        rcases h with h | h
        · exact .inl h
        · exact .inr (by rw [List.lookup_cons, beq_eq_false_iff_ne.mpr q]; exact h)
      · rw [if_neg hk]
        exact cells_some r _ _ h

/-- a def stands at a -/
structure FnAt (base : Heap) (a : Addr) (ps : List Str) (body : List Stmt) (scope : Scope) (o : Obj) (fd : FuncData) : Prop where
  at' : base.get? a = some o
  data : o.data = .func fd
  code : base.CodeRec fd.code fd.qualname
  body' : fd.body = .stmts body
  scope' : fd.scope = scope
  glob : fd.globals = mainGlobals
  blt : fd.builtins = builtinsNs
  clo : fd.closure = []
  bind : ∀ vals : List Value, vals.length = ps.length → bindArgs fd ⟨vals, []⟩ = pure (ps.zip vals)
  co : scope.isCoroutine = false
  gen : scope.isGenerator = false
  kind : scope.kind = .function
  nodup : ps.Nodup
  kinds : ∀ x ∈ ps, scope.names.lookup x = some .local ∨ scope.names.lookup x = some .cell

theorem zip_keys {ps : List Str} {vs : List Value} (h : vs.length = ps.length) : (ps.zip vs).map (·.1) = ps := by
  rw [List.map_fst_zip]; (first | lia | omega)

section
variable {prog : Program} {w : World} {base : Heap} {Φ : Fns} {k : Nat} {A : Around} {s : Shared}

theorem inv0L {a : Addr} {ps : List Str} {body : List Stmt} {scope : Scope} {o : Obj} {fd : FuncData} (F : FnAt base a ps body scope o fd) {vs : List Value} {los : List Lo} (O : Ok base (k + 1) A s.heap) (hv : Pas s.heap vs los) (hl : los.length = ps.length) {s₁ : Shared}
    (X : InCallC s (callEnvC fd s.heap.objs.size a).locals (bindL (callEnvC fd s.heap.objs.size a).kindOf (ps.zip vs) fun _ => none) (callEnvC fd s.heap.objs.size a).cells (bindC (callEnvC fd s.heap.objs.size a).kindOf (ps.zip vs) fun _ => none) s₁) :
    Inv prog w base s.heap k (scOf scope) (callEnvC fd s.heap.objs.size a) [] (rhoL scope.names ps los) (A.deeper (callEnvC fd s.heap.objs.size a)) s₁.heap := by
  have hsc := F.scope'
  subst hsc
  have hvl := hv.length
  have hlv : vs.length = ps.length := by (first | lia | omega)
  have hk : (ps.zip vs).map (·.1) = ps := zip_keys hlv
  have hnd : ((ps.zip vs).map (·.1)).Nodup := by rw [hk]; exact F.nodup
  have fr0 : s.heap.get? s.heap.objs.size = none := size_none _
  refine ⟨rfl, F.kind, F.glob, F.blt, fun x hx => cells_some _ _ _ (.inl hx), by simp [rhoL, scOf], fun x y i hx hy => ?_, fun x i hx => ?_, X.toInCall.keep, fr0, ⟨_, X.toInCall.ns⟩, fun x c hc => ⟨?_, ?_, ⟨_, X.cell x c hc⟩, fun y hy => ?_⟩, ⟨fun _ => 0, fun x i lo h1 h2 h3 => ?_, fun i lo h hm => ?_, fun i j lo lo' h _ hm _ _ => ?_⟩, fun p hp => (by cases hp), ?_, rfl, ?_, Nat.le_refl _, O.stays⟩
  · obtain ⟨_, k1, e1⟩ := ix_get hx
    obtain ⟨_, k2, e2⟩ := ix_get hy
    rw [e1] at e2; cases e2; rfl
  · obtain ⟨_, k1, e1⟩ := ix_get hx
    have := (List.getElem?_eq_some_iff.mp e1).1
    simpa [scOf] using this
  · have hlt := X.above x c (PySem.mem_of_lookup hc)
    cases q : s.heap.get? c with
    | none => rfl
    | some o' => exact absurd (Nat.lt_trans (Heap.lt_size q) hlt) (Nat.lt_irrefl _)
  · exact Nat.ne_of_gt (X.above x c (PySem.mem_of_lookup hc))
  · exact name_of_addr X.apart (PySem.mem_of_lookup hy) (PySem.mem_of_lookup hc)
  · obtain ⟨_, kd, e1⟩ := ix_get h2
    have hd := rhoL_get e1 h3
    obtain ⟨v, hv1, hv2⟩ := zip_P (prog := prog) (w := w) (h' := s₁.heap) (a := 0) hv hd
    refine ⟨v, ?_, hv2⟩
    have hkx : (callEnvC fd s.heap.objs.size a).kindOf x = fd.scope.names.lookup x := rfl
    have hin : x ∈ ps := by
      have := PySem.mem_of_lookup hv1
      exact (List.of_mem_zip this).1
    rcases F.kinds x hin with hk1 | hk1
    · exact .loc _ (hkx.trans hk1) X.toInCall.ns (bindL_get (hkx.trans hk1) hnd hv1)
    · obtain ⟨c, hc⟩ := Option.isSome_iff_exists.mp (cells_some (x := x) fd.scope.names (s.heap.objs.size + 1) [] (.inl hk1))
      have hcc : (callEnvC fd s.heap.objs.size a).cells.lookup x = some c := hc
      have := X.cell x c hcc
      rw [bindC_get (hkx.trans hk1) hnd hv1] at this
      exact .cell c (hkx.trans hk1) hcc this
  · rw [rhoL_mine hv.mine h] at hm; cases hm
  · rw [rhoL_mine hv.mine h] at hm; cases hm
  · obtain ⟨o1, o2, o3, l, L⟩ := O
    refine ⟨o1, ?_, ?_, callEnvC fd s.heap.objs.size a :: l, Around.frames_deeper L.stack, fun b o q => X.toInCall.keep b o (L.stays b o q), ?_⟩
    · show A.depth + 1 + k < _; (first | lia | omega)
    · show A.units + 3 + 10 * k + 100 < _; (first | lia | omega)
    · refine .cons (by show fd.scope.kind ≠ .module; rw [F.kind]; decide) rfl X.toInCall.ns ?_ (L.frames.of_keeps fun b o e _ => ⟨o, X.toInCall.keep b o e, rfl⟩)
      cases q : base.get? s.heap.objs.size with
      | none => rfl
      | some o' => have := L.stays _ _ q; rw [fr0] at this; cases this
  · obtain ⟨_, _, _, l, L⟩ := O
    exact ⟨l, Around.frames_deeper L.stack⟩

/-- a call enters a body -/
theorem enterL {a : Addr} {ps : List Str} {body : List Stmt} {scope : Scope} {o : Obj} {fd : FuncData} {E : Value → Shared → Prop} (F : FnAt base a ps body scope o fd) (hlim : base.NoLimit) {vs : List Value} {los : List Lo} {Q : Value → Shared → Prop}
    (O : Ok base (k + 1) A s.heap) (hv : Pas s.heap vs los) (hl : los.length = ps.length)
    (h : ∀ s₁ env, Same s s₁ → Inv prog w base s.heap k (scOf scope) env [] (rhoL scope.names ps los) (A.deeper env) s₁.heap → wpAny (model prog w) (A.deeper env) (execs body env) (fun fl s' => Q (match fl with | .ret v => v | _ => .none) s') (fun _ _ => False) s₁) :
    wpAny (model prog w) A (call (.ref a) vs) Q E s := by
  have hvl := hv.length
  have hsc := F.scope'
  refine wpAny_call (codeAny_call_cells (by have := O.room; (first | lia | omega)) (O.stays _ _ F.at') F.data (hlim.keeps O.stays) (F.code.keeps O.stays) F.body' (F.bind vs (by (first | lia | omega))) F.clo (fun x hx => ?_) (fun s₁ X => ?_) (by rw [hsc]; exact F.co) (by rw [hsc]; exact F.gen) (by rw [hsc]; exact F.kind))
  · have hm : x.1 ∈ ps := (List.of_mem_zip hx).1
    rw [hsc]
    rcases F.kinds x.1 hm with q | q
    · exact .inl q
    · exact .inr ⟨q, cells_some _ _ _ (.inl q)⟩
  · exact wpAny_noRaise (h s₁ _ X.toInCall.same (inv0L (prog := prog) (w := w) F O hv hl X))

theorem enter_ok {a : Addr} {ps : List Str} {body : List Stmt} {scope : Scope} {o : Obj} {fd : FuncData} {b : Ss} {E : Value → Shared → Prop} (F : FnAt base a ps body scope o fd) (hlim : base.NoLimit) (hX : XsOK prog w base Φ k (scOf scope) body b) {vs : List Value} {ds : List D} {r : R} {d : D}
    (hrun : exs Φ (rho0 scope.names ps ds) b = some r) (hr : r = .ret d ∨ ((∃ ρ, r = .next ρ) ∧ d = .none)) (hl : ds.length = ps.length) (O : Ok base (k + 1) A s.heap) (hv : Vs s.heap vs ds) :
    wpAny (model prog w) A (call (.ref a) vs) (Post s d) E s := by
  refine enterL F hlim O hv.pas (by rw [List.length_map]; exact hl) fun s₁ env sm I => ?_
  refine hX s.heap _ [] _ _ _ r _ _ I PassesOwn.never hrun (fun fl s' f => ?_)
  · obtain ⟨f1, f2, f3⟩ := f
    obtain ⟨h2, t2, rfl⟩ := sm.trans f1
    rcases hr with rfl | ⟨⟨ρ, rfl⟩, rfl⟩
    · obtain ⟨v, ρ', rfl, hV, I'⟩ := f3
      exact ⟨⟨h2, t2, rfl, I'.keep⟩, hV⟩
    · obtain ⟨rfl, I'⟩ := f3
      exact ⟨⟨h2, t2, rfl, I'.keep⟩, .none⟩

theorem enter_own {a : Addr} {ps : List Str} {body : List Stmt} {scope : Scope} {o : Obj} {fd : FuncData} {b : Ss} {E : Value → Shared → Prop} (F : FnAt base a ps body scope o fd) (hlim : base.NoLimit) (hX : XsOK prog w base Φ k (scOf scope) body b) {vs : List Value} {ds : List D} {lo : Lo}
    (hrun : exs Φ (rho0 scope.names ps ds) b = some (.own lo)) (hl : ds.length = ps.length) (O : Ok base (k + 1) A s.heap) (hv : Vs s.heap vs ds) :
    wpAny (model prog w) A (call (.ref a) vs) (fun v s' => Keeps s s' ∧ ∃ a, v = .ref a ∧ s.heap.get? a = none ∧ NewAt prog w s'.heap a lo) E s := by
  refine enterL F hlim O hv.pas (by rw [List.length_map]; exact hl) fun s₁ env sm I => ?_
  refine hX s.heap _ [] _ _ _ _ _ _ I PassesOwn.never hrun (fun fl s' f => ?_)
  obtain ⟨f1, f2, a', ρ', rfl, hn, hN, I'⟩ := f
  obtain ⟨h2, t2, rfl⟩ := sm.trans f1
  exact ⟨⟨h2, t2, rfl, I'.keep⟩, a', rfl, hn, hN⟩
end
end Mine

namespace Mine
open PySem PySem.Calls PyProof.Rows PySem.SeqAt

noncomputable def fnCheck (d : DefRec) : Bool :=
  d.params.posonlyargs.isEmpty && d.params.kwonlyargs.isEmpty && d.params.vararg.isNone && d.params.kwarg.isNone && !d.scope.isCoroutine && !d.scope.isGenerator && d.scope.kind == .function &&
  decide ((d.params.args.map (·.arg)).Nodup) && (d.params.args.map (·.arg)).all (fun x => d.scope.names.lookup x == some .local || d.scope.names.lookup x == some .cell)

noncomputable def prep1 (fns excs : List Str) (N : Nat) (rs : List DefRec) (n : Str) : Option Fn :=
  (rs.find? (fun d => d.name == n)).bind fun d => if fnCheck d = true then (cSs fns excs N (scOf d.scope) d.body).map fun b => ⟨d.params.args.map (·.arg), d.scope.names, b⟩ else none
noncomputable def prepAll (fns excs : List Str) (N : Nat) (rs : List DefRec) : List Str → Option Prg
  | [] => some []
  | n :: r => (prep1 fns excs N rs n).bind fun f => (prepAll fns excs N rs r).map fun fs => f :: fs

theorem prepAll_cons {fns excs : List Str} {N : Nat} {rs : List DefRec} {n : Str} {r : List Str} {P : Prg} (h : prepAll fns excs N rs (n :: r) = some P) : ∃ f fs, prep1 fns excs N rs n = some f ∧ prepAll fns excs N rs r = some fs ∧ P = f :: fs := by
  replace h := ob h
  obtain ⟨f, hf, h⟩ := h
  replace h := om h
  obtain ⟨fs, hfs, rfl⟩ := h
  exact ⟨f, fs, hf, hfs, rfl⟩
theorem prepAll_get {fns excs : List Str} {N : Nat} {rs : List DefRec} : ∀ {l : List Str} {P : Prg}, prepAll fns excs N rs l = some P → ∀ {i : Nat} {g : Fn}, P[i]? = some g → ∃ n, l[i]? = some n ∧ prep1 fns excs N rs n = some g
  | [], P, h, i, g, hg => by cases h; cases hg
  | n :: r, P, h, i, g, hg => by
    obtain ⟨f, fs, hf, hfs, rfl⟩ := prepAll_cons h
    cases i with
    | zero => cases hg; exact ⟨n, rfl, hf⟩
    | succ i => exact prepAll_get hfs hg
theorem prepAll_fn {fns excs : List Str} {N : Nat} {rs : List DefRec} : ∀ {l : List Str} {P : Prg}, prepAll fns excs N rs l = some P → ∀ {i : Nat} {n : Str}, l[i]? = some n → ∃ g, P[i]? = some g ∧ prep1 fns excs N rs n = some g
  | [], P, h, i, g, hg => by cases hg
  | n :: r, P, h, i, g, hg => by
    obtain ⟨f, fs, hf, hfs, rfl⟩ := prepAll_cons h
    cases i with
    | zero => cases hg; exact ⟨f, rfl, hf⟩
    | succ i => exact prepAll_fn hfs hg

noncomputable def addrOf : Value → Addr
  | .ref a => a
  | _ => 0
noncomputable def faOf (fns : List Str) (mg : Str → Option Value) (i : Nat) : Addr := (((fns[i]?).bind mg).map addrOf).getD 0

theorem faOf_eq {fns : List Str} {mg : Str → Option Value} {i : Nat} {n : Str} {a : Addr} (h : fns[i]? = some n) (hm : mg n = some (.ref a)) : faOf fns mg i = a := by
  unfold faOf; rw [h]; show ((mg n).map addrOf).getD 0 = a; rw [hm]; rfl

noncomputable def freeIn (q : Program) (loose : List Str) (x : Str) : Bool := !startupNames.contains x && !loose.contains x && !((recsOf q).map (·.name)).contains x && !((litsOf q).map (·.1)).contains x && !((clssOf q loose).map (·.name)).contains x && x != "__name__"

section
variable {q : Program} {loose : List Str} {mean : ExcName → Option Value} {mg mb : Str → Option Value} {base : Heap} {fns excs : List Str} {N : Nat} {P : Prg}

theorem fnAt_of (T : Top q loose mean mg mb base) (hp : prepAll fns excs N (recsOf q) fns = some P) {i : Nat} {g : Fn} (hg : P[i]? = some g) :
    ∃ (d : DefRec) (o : Obj) (fd : FuncData), mg d.name = some (.ref (faOf fns mg i)) ∧ fns[i]? = some d.name ∧ FnAt base (faOf fns mg i) g.ps d.body d.scope o fd ∧ g.names = d.scope.names ∧ cSs fns excs N (scOf d.scope) d.body = some g.body := by
  obtain ⟨n, hn, h1⟩ := prepAll_get hp hg
  replace h1 := ob h1
  obtain ⟨d, hd, h2⟩ := h1
  replace h2 := oi' h2
  obtain ⟨hc, h3⟩ := h2
  have hmem := List.mem_of_find?_eq_some hd
  have hname : d.name = n := by
    have h4 := List.find?_some hd
    exact beq_iff_eq.mp h4
  subst hname
  obtain ⟨a, o, pm, code, doc, e1, e2, e3, e4⟩ := T.fn d hmem
  have hfa := faOf_eq hn e1
  replace h3 := om h3
  obtain ⟨b, hb, rfl⟩ := h3
  refine ⟨d, o, docDef d.name d.params d.body d.scope pm code doc, by rw [hfa]; exact e1, hn, ?_, rfl, hb⟩
  simp only [fnCheck, Bool.and_eq_true, decide_eq_true_eq, Bool.not_eq_true', beq_iff_eq, List.isEmpty_iff, Option.isNone_iff_eq_none, List.all_eq_true, Bool.or_eq_true] at hc
  obtain ⟨⟨⟨⟨⟨⟨⟨⟨c1, c2⟩, c3⟩, c4⟩, c5⟩, c6⟩, c7⟩, c8⟩, c9⟩ := hc
  rw [hfa]
  exact ⟨e2, e3, e4, rfl, rfl, rfl, rfl, rfl, fun vals hl => binds_plain c1 c2 c3 c4 rfl (by simpa [docDef] using hl) c8, c5, c6, c7, c8, c9⟩

theorem gl_of (T : Top q loose mean mg mb base) (hp : prepAll fns excs N (recsOf q) fns = some P) (hb : blNames.all (freeIn q loose) = true) : Gl fns base mg mb (faOf fns mg) := by
  refine ⟨T.g, T.b, T.nolimit, fun i n hn => ?_, fun x hx => ?_⟩
  · obtain ⟨g, hg, _⟩ := prepAll_fn hp hn
    obtain ⟨d, o, fd, e1, e2, e3, _⟩ := fnAt_of T hp hg
    rw [hn] at e2; cases e2
    exact ⟨o, fd, e1, e3.at', e3.data⟩
  · have := List.all_eq_true.mp hb x hx
    simp only [freeIn, Bool.and_eq_true, Bool.not_eq_true', List.contains_eq_mem, decide_eq_false_iff_not, bne_iff_ne, ne_eq] at this
    obtain ⟨⟨⟨⟨⟨a1, a2⟩, a3⟩, a4⟩, a5⟩, a6⟩ := this
    exact ⟨T.free x a1 a2 a3 a4 a5, T.builtins x a6⟩

theorem retR_ok {r : R} {o : Out} (h : retR false r = some o) : (∃ d, o = .ok d ∧ (r = .ret d ∨ ((∃ ρ, r = .next ρ) ∧ d = .none))) ∨ ∃ lo, o = .own lo ∧ r = .own lo := by
  cases r with
  | ret d => cases h; exact .inl ⟨d, rfl, .inl rfl⟩
  | next ρ => cases h; exact .inl ⟨_, rfl, .inr ⟨⟨ρ, rfl⟩, rfl⟩⟩
  | cont ρ => cases h
  | own lo => cases h; exact .inr ⟨lo, rfl, rfl⟩

theorem run_parts {n f : Nat} {ds : List D} {o : Out} (h : run false P (n + 1) f ds = some o) : ∃ g r, P[f]? = some g ∧ ds.length = g.ps.length ∧ exs (run false P n) (rho0 g.names g.ps ds) g.body = some r ∧ retR false r = some o := by
  obtain ⟨g, hg, h⟩ := ob h
  replace h := oi' h
  obtain ⟨hl, h⟩ := h
  replace h := ob h
  obtain ⟨r, hr, h⟩ := h
  exact ⟨g, r, hg, hl, hr, h⟩

theorem run_ok {prog : Program} {w : World} (T : Top q loose mean mg mb base) (hp : prepAll fns [] N (recsOf q) fns = some P) (hb : blNames.all (freeIn q loose) = true) : ∀ n, FnsOk prog w base (run false P n) (faOf fns mg) n
  | 0 => ⟨(fun f ds d A s vs E h _ _ => by cases h), (fun f ds d A s vs E h _ _ => by cases h)⟩
  | n + 1 => by
    have ih := run_ok (prog := prog) (w := w) T hp hb n
    refine ⟨fun f ds d A s vs E h O hv => ?_, fun f ds lo A s vs E h O hv => ?_⟩
    · obtain ⟨g, r, hg, hl, hr, h⟩ := run_parts h
      obtain ⟨dd, o, fd, e1, e2, e3, e4, e5⟩ := fnAt_of T hp hg
      rw [e4] at hr
      rcases retR_ok h with ⟨d', e, hd⟩ | ⟨lo, e, _⟩
      · cases e
        exact enter_ok e3 T.nolimit (xs_sound (n := N) (sc := scOf dd.scope) (gl_of T hp hb) ih dd.body g.body e5) hr hd hl O hv
      · cases e
    · obtain ⟨g, r, hg, hl, hr, h⟩ := run_parts h
      obtain ⟨dd, o, fd, e1, e2, e3, e4, e5⟩ := fnAt_of T hp hg
      rw [e4] at hr
      rcases retR_ok h with ⟨d', e, hd⟩ | ⟨lo', e, rfl⟩
      · cases e
      · cases e
        exact enter_own e3 T.nolimit (xs_sound (n := N) (sc := scOf dd.scope) (gl_of T hp hb) ih dd.body g.body e5) hr hl O hv
end
end Mine

namespace Mine
open PySem PySem.W PySem.Calls PyProof.Rows PySem.SeqAt

theorem wellAll_ints {Pp : Params} {h : Heap} : ∀ {vs : List Value} {xs : List Int}, WellAll Pp h vs (ofPys (xs.map .int)) → Vs h vs (xs.map .int)
  | vs, [], x => by
    simp only [List.map_nil, ofPys] at x
    cases x; exact .nil
  | vs, n :: xs, x => by
    simp only [List.map_cons, ofPys] at x
    cases x with
    | cons a b =>
      simp only [ofPy] at a
      cases a
      exact .cons (.int _ _) (wellAll_ints b)

theorem ok_caller (h : Heap) : Ok h 20 callerA h := by
  refine ⟨rfl, ?_, ?_, [], below_caller h⟩
  · show 301 + 20 < recursionLimit; decide
  · decide +kernel

theorem script_V {Pp : Params} {h : Heap} {a : Addr} {xs : List Int} (W : Well Pp h (.ref a) (ofPy (.list (xs.map .int)))) (hl : xs.length ≤ 63) : V h (.ref a) (.lst (xs.map .int)) := by
  simp only [ofPy] at W
  cases W with
  | list ho hv =>
    exact .lst ⟨_, ho⟩ (wellAll_ints hv) (by rw [List.length_map]; exact Nat.le_trans hl (by decide))

theorem law_runs {q : Program} {loose : List Str} {mean : ExcName → Option Value} {mg mb : Str → Option Value} {prog : Program} {w : World} {s₁ : Shared} {fns : List Str} {P : Prg} {N i : Nat} {fa a : Addr} {n : Str} {xs : List Int} {E : Value → Shared → Prop}
    (T : Top q loose mean mg mb s₁.heap) (hp : prepAll fns [] N (recsOf q) fns = some P) (hb : blNames.all (freeIn q loose) = true) (hmg : mg n = some (.ref fa)) (hi : fns[i]? = some n)
    (W : Well w.params s₁.heap (.ref a) (ofPy (.list (xs.map .int)))) (hl : xs.length ≤ 63) (hrun : run false P 20 i [.lst (xs.map .int)] = some (.ok (.bool true))) :
    wpAny (model prog w) callerA (call (.ref fa) [.ref a]) (fun v s' => v = .bool true ∧ Keeps s₁ s') E s₁ := by
  have h := (run_ok (prog := prog) (w := w) T hp hb 20).ok i _ _ callerA s₁ [.ref a] E hrun (ok_caller _) (.cons (script_V W hl) .nil)
  rw [faOf_eq hi hmg] at h
  refine wpAny_mono h (fun v s' q => ?_) fun _ _ x => x
  obtain ⟨K, hV⟩ := q
  cases hV
  exact ⟨rfl, K⟩

theorem good_true {c : ClaimW} {cl : Str → Option Addr} {mean : ExcName → Option Value} {args : List WData} {s₁ s' : Shared} {v : Value} (hv : v = .bool true ∧ Keeps s₁ s') (hg : s₁.gens = #[]) (hn : ∀ cls, c.raises args cls = false) (hp : c.post args (.bool true) args = true) :
    GoodWG c cl mean args s₁ (.ok (.ret v)) s' := by
  obtain ⟨rfl, h, tk, rfl, hk⟩ := hv
  exact GoodW.toG ⟨.inl ⟨.bool true, .bool true, [], rfl, hn, .bool true, hp, unshared_nil⟩, hk, rfl, hg⟩
end Mine

namespace Mine
open PySem

/-! evaluation, in a shape that simp can walk -/
noncomputable def ifB {α : Type} (o : Option D) (x y : Option α) : Option α := o.bind fun d => ifT d x y
/-- what is left to do, and is not looked into yet -/
noncomputable def K (Φ : Fns) (r : Ss) : Rho → Option R := fun ρ => exs Φ ρ r
noncomputable def ifS (o : Option D) (Φ : Fns) (ρ : Rho) (a b : Ss) : Option R := o.bind fun d => ifT d (exs Φ ρ a) (exs Φ ρ b)
noncomputable def andS (o : Option D) (Φ : Fns) (ρ : Rho) (b : E) : Option D := ifB o ((ev Φ ρ b).bind fun y => (isTrueD y).map .bool) (some (.bool false))
noncomputable def orS (o : Option D) (Φ : Fns) (ρ : Rho) (b : E) : Option D := ifB o (some (.bool true)) ((ev Φ ρ b).bind fun y => (isTrueD y).map .bool)
noncomputable def seqR (o : Option R) (f : Rho → Option R) : Option R := o.bind (thenR f)
noncomputable def outR (keep : Bool) (o : Option R) : Option Out := o.bind (retR keep)
noncomputable def asgR (ρ : Rho) (x : Nat) (o : Option D) : Option R := o.bind fun d => putD ρ x d
noncomputable def boolR (o : Option D) : Option D := o.bind fun y => (isTrueD y).map .bool
noncomputable def callR (ρ : Rho) (t : Tg) (o : Option Out) : Option R := o.bind fun x => outT ρ t x
noncomputable def okR (o : Option Out) : Option D := o.bind okOf

section
variable {Φ : Fns} {ρ : Rho} {keep : Bool}
@[simp] theorem ex_iff (c : E) (a b : Ss) : ex Φ ρ (.iff c a b) = ifS (ev Φ ρ c) Φ ρ a b := (rfl)
@[simp] theorem exs_cons (s : S) (r : Ss) : exs Φ ρ (.cons s r) = seqR (ex Φ ρ s) (K Φ r) := (rfl)
@[simp] theorem exs_nil : exs Φ ρ .nil = some (.next ρ) := (rfl)
@[simp] theorem ex_asg (x : Nat) (e : E) : ex Φ ρ (.asg x e) = asgR ρ x (ev Φ ρ e) := (rfl)
@[simp] theorem ex_ret (e : E) : ex Φ ρ (.ret e) = (ev Φ ρ e).map .ret := (rfl)
@[simp] theorem ex_callS (t : Tg) (f : Nat) (es : Es) : ex Φ ρ (.callS t f es) = (evs Φ ρ es).bind fun ds => callR ρ t (Φ f ds) := (rfl)
theorem fnRun_eq {f : Fn} {ds : List D} (h : ds.length = f.ps.length) : fnRun keep Φ f ds = outR keep (exs Φ (rho0 f.names f.ps ds) f.body) := if_pos h
@[simp] theorem ev_and (a b : E) : ev Φ ρ (.and a b) = andS (ev Φ ρ a) Φ ρ b := (rfl)
@[simp] theorem ev_or (a b : E) : ev Φ ρ (.or a b) = orS (ev Φ ρ a) Φ ρ b := (rfl)
@[simp] theorem ev_call (f : Nat) (es : Es) : ev Φ ρ (.call f es) = (evs Φ ρ es).bind fun ds => okR (Φ f ds) := (rfl)
@[simp] theorem ifB_bool {α : Type} (p : Bool) (x y : Option α) : ifB (some (.bool p)) x y = if p = true then x else y := by cases p <;> rfl
@[simp] theorem ifS_bool (p : Bool) (a b : Ss) : ifS (some (.bool p)) Φ ρ a b = if p = true then exs Φ ρ a else exs Φ ρ b := (rfl)
@[simp] theorem andS_bool (p : Bool) (b : E) : andS (some (.bool p)) Φ ρ b = if p = true then boolR (ev Φ ρ b) else some (.bool false) := (rfl)
@[simp] theorem orS_bool (p : Bool) (b : E) : orS (some (.bool p)) Φ ρ b = if p = true then some (.bool true) else boolR (ev Φ ρ b) := (rfl)
@[simp] theorem ifS_ite (p : Prop) [Decidable p] (x y : Option D) (a b : Ss) : ifS (if p then x else y) Φ ρ a b = if p then ifS x Φ ρ a b else ifS y Φ ρ a b := by split <;> rfl
@[simp] theorem andS_ite (p : Prop) [Decidable p] (x y : Option D) (b : E) : andS (if p then x else y) Φ ρ b = if p then andS x Φ ρ b else andS y Φ ρ b := by split <;> rfl
@[simp] theorem orS_ite (p : Prop) [Decidable p] (x y : Option D) (b : E) : orS (if p then x else y) Φ ρ b = if p then orS x Φ ρ b else orS y Φ ρ b := by split <;> rfl
@[simp] theorem boolR_bool (p : Bool) : boolR (some (.bool p)) = some (.bool p) := rfl
@[simp] theorem seqR_next (ρ' : Rho) (r : Ss) : seqR (some (.next ρ')) (K Φ r) = exs Φ ρ' r := (rfl)
@[simp] theorem seqR_ret (d : D) (f : Rho → Option R) : seqR (some (.ret d)) f = some (.ret d) := (rfl)
@[simp] theorem seqR_cont (ρ' : Rho) (f : Rho → Option R) : seqR (some (.cont ρ')) f = some (.cont ρ') := (rfl)
@[simp] theorem outR_ret (d : D) : outR keep (some (.ret d)) = some (.ok d) := (rfl)
@[simp] theorem outR_next (ρ' : Rho) : outR keep (some (.next ρ')) = some (.ok .none) := (rfl)
@[simp] theorem asgR_some (x : Nat) (d : D) : asgR ρ x (some d) = if d.pure = true then some (.next (ρ.set x (some (.dat d)))) else none := (rfl)
@[simp] theorem callR_ok (t : Tg) (d : D) : callR ρ t (some (.ok d)) = putT ρ d t := (rfl)
@[simp] theorem okR_ok (d : D) : okR (some (.ok d)) = some d := rfl
@[simp] theorem seqR_ite (p : Prop) [Decidable p] (x y : Option R) (f : Rho → Option R) : seqR (if p then x else y) f = if p then seqR x f else seqR y f := by split <;> rfl
@[simp] theorem outR_ite (p : Prop) [Decidable p] (x y : Option R) : outR keep (if p then x else y) = if p then outR keep x else outR keep y := by split <;> rfl
@[simp] theorem boolR_ite (p : Prop) [Decidable p] (x y : Option D) : boolR (if p then x else y) = if p then boolR x else boolR y := by split <;> rfl
@[simp] theorem ifB_ite {α : Type} (p : Prop) [Decidable p] (a b : Option D) (x y : Option α) : ifB (if p then a else b) x y = if p then ifB a x y else ifB b x y := by split <;> rfl
@[simp] theorem asgR_ite (p : Prop) [Decidable p] (x : Nat) (a b : Option D) : asgR ρ x (if p then a else b) = if p then asgR ρ x a else asgR ρ x b := by split <;> rfl
@[simp] theorem map_ite {α β : Type} (p : Prop) [Decidable p] (a b : Option α) (f : α → β) : Option.map f (if p then a else b) = if p then Option.map f a else Option.map f b := by split <;> rfl
@[simp] theorem pure_int (i : Int) : D.pure (.int i) = true := rfl
end

theorem run_at {keep : Bool} {P : Prg} {n f : Nat} {g : Fn} {ds : List D} (h : P[f]? = some g) : run keep P (n + 1) f ds = fnRun keep (run keep P n) g ds := by
  show (P[f]?).bind _ = _
  rw [h, Option.bind_some]

/-! loops -/
theorem loop_inv {α : Type} {body : α → Rho → Option R} (J : Nat → Rho → Prop) : ∀ (ds : List α) (i : Nat) (ρ : Rho), J i ρ → (∀ j d ρ, ds[j]? = some d → J (i + j) ρ → ∃ ρ', (body d ρ = some (.next ρ') ∨ body d ρ = some (.cont ρ')) ∧ J (i + j + 1) ρ') →
    ∃ ρ', loopO body ds ρ = some (.next ρ') ∧ J (i + ds.length) ρ'
  | [], i, ρ, h, _ => ⟨ρ, rfl, h⟩
  | d :: ds, i, ρ, h, hb => by
    obtain ⟨ρ', h1, h2⟩ := hb 0 d ρ rfl h
    obtain ⟨ρ'', h3, h4⟩ := loop_inv J ds (i + 1) ρ' h2 fun j d' ρ₁ hd hj => by
      have := hb (j + 1) d' ρ₁ (by simpa using hd) (by rw [show i + (j + 1) = i + 1 + j by (first | lia | omega)]; exact hj)
      rwa [show i + (j + 1) + 1 = i + 1 + j + 1 by (first | lia | omega)] at this
    refine ⟨ρ'', ?_, by rw [List.length_cons, show i + (ds.length + 1) = i + 1 + ds.length by (first | lia | omega)]; exact h4⟩
    show (body d ρ).bind _ = _
    rcases h1 with h1 | h1 <;> rw [h1] <;> exact h3



/-- a loop over lists that may leave early: what it ends in is told by a fold -/
theorem comp_all {α β : Type} {c : α → Option Bool} {f : α → Option β} (Rel : α → β → Prop) : ∀ (ds : List α), (∀ d ∈ ds, c d = some true ∧ ∃ y, f d = some y ∧ Rel d y) → ∃ ys, compO c f ds = some ys ∧ ys.length = ds.length ∧ (∀ y ∈ ys, ∃ d ∈ ds, Rel d y)
  | [], _ => ⟨[], rfl, rfl, fun y hy => by cases hy⟩
  | d :: ds, h => by
    obtain ⟨h1, y, h2, h3⟩ := h d (.head _)
    obtain ⟨ys, h4, h5, h6⟩ := comp_all Rel ds fun d' hd => h d' (.tail _ hd)
    refine ⟨y :: ys, by show (c d).bind _ = _; rw [h1]; show (f d).bind _ = _; rw [h2]; show (compO c f ds).map _ = _; rw [h4]; rfl, by rw [List.length_cons, List.length_cons, h5], fun z hz => ?_⟩
    rcases List.mem_cons.mp hz with rfl | hz
    · exact ⟨d, .head _, h3⟩
    · obtain ⟨d', a, b⟩ := h6 z hz
      exact ⟨d', .tail _ a, b⟩
noncomputable def bin2 (o : Op) (x y : Option D) : Option D := x.bind fun a => y.bind fun b => evBin o a b
noncomputable def cmp2 (o : Cm) (x y : Option D) : Option D := x.bind fun a => y.bind fun b => (evCmp o a b).map .bool
noncomputable def idx2 (x y : Option D) : Option D := x.bind fun a => y.bind fun b => evIdx a b
noncomputable def len1 (x : Option D) : Option D := x.bind fun x => (items x).map fun ds => .int ds.length
noncomputable def neg1 (x : Option D) : Option D := x.bind negD
noncomputable def not1 (x : Option D) : Option D := x.bind notD
noncomputable def isi1 (t : Ty) (x : Option D) : Option D := x.map fun d => .bool (evIsi t d)
noncomputable def max2 (x y : Option D) : Option D := x.bind fun a => y.bind fun b => maxD a b
noncomputable def toInt1 (x : Option D) : Option D := x.bind toIntD
noncomputable def toTup1 (x : Option D) : Option D := x.bind fun x => (items x).map .tup
noncomputable def slFrom2 (x y : Option D) : Option D := x.bind fun a => y.bind fun b => cutFrom a b
noncomputable def cons2 (x : Option D) (y : Option (List D)) : Option (List D) := x.bind fun d => y.map fun ds => d :: ds
noncomputable def chain3 (o₁ o₂ : Cm) (x y z : Option D) : Option D := ifB (cmp2 o₁ x y) (cmp2 o₂ y z) (some (.bool false))
noncomputable def appR (ρ : Rho) (x : Nat) (o : Option D) : Option R := (ρ.own? x).bind fun ds => o.bind fun d => if d.pure = true ∧ ds.length < lim then some (.next (ρ.set x (some (.own (ds ++ [d]))))) else none
noncomputable def setR (ρ : Rho) (x : Nat) (i o : Option D) : Option R := (ρ.own? x).bind fun ds => i.bind fun y => o.bind fun d => (intOf y).bind fun j => if 0 ≤ j ∧ j < ds.length ∧ d.pure = true then some (.next (ρ.set x (some (.own (ds.set j.toNat d))))) else none
noncomputable def ownR (ρ : Rho) (x : Nat) (o : Option (List D)) : Option R := o.bind fun ds => putO ρ x ds
noncomputable def unpR (ρ : Rho) (xs : List Nat) (o : Option D) : Option R := o.bind fun d => putU ρ xs d

section
variable {Φ : Fns} {ρ : Rho} {keep : Bool}
@[simp] theorem ev_k (d : D) : ev Φ ρ (.k d) = some d := (rfl)
@[simp] theorem ev_v (i : Nat) : ev Φ ρ (.v i) = (ρ.get i).bind Lo.val? := (rfl)
@[simp] theorem ev_bin (o : Op) (a b : E) : ev Φ ρ (.bin o a b) = bin2 o (ev Φ ρ a) (ev Φ ρ b) := (rfl)
@[simp] theorem ev_cmp (o : Cm) (a b : E) : ev Φ ρ (.cmp o a b) = cmp2 o (ev Φ ρ a) (ev Φ ρ b) := (rfl)
@[simp] theorem ev_idx (a b : E) : ev Φ ρ (.idx a b) = idx2 (ev Φ ρ a) (ev Φ ρ b) := (rfl)
@[simp] theorem ev_len (a : E) : ev Φ ρ (.len a) = len1 (ev Φ ρ a) := (rfl)
@[simp] theorem ev_neg (a : E) : ev Φ ρ (.neg a) = neg1 (ev Φ ρ a) := (rfl)
@[simp] theorem ev_not (a : E) : ev Φ ρ (.not a) = not1 (ev Φ ρ a) := (rfl)
@[simp] theorem ev_isi (a : E) (t : Ty) : ev Φ ρ (.isi a t) = isi1 t (ev Φ ρ a) := (rfl)
@[simp] theorem ev_max (a b : E) : ev Φ ρ (.max a b) = max2 (ev Φ ρ a) (ev Φ ρ b) := (rfl)
@[simp] theorem ev_toInt (a : E) : ev Φ ρ (.toInt a) = toInt1 (ev Φ ρ a) := (rfl)
@[simp] theorem ev_toTup (a : E) : ev Φ ρ (.toTup a) = toTup1 (ev Φ ρ a) := (rfl)
@[simp] theorem ev_slFrom (a b : E) : ev Φ ρ (.slFrom a b) = slFrom2 (ev Φ ρ a) (ev Φ ρ b) := (rfl)
@[simp] theorem ev_tup (es : Es) : ev Φ ρ (.tup es) = (evs Φ ρ es).map .tup := (rfl)
@[simp] theorem ev_lst (es : Es) : ev Φ ρ (.lst es) = (evs Φ ρ es).map .lst := (rfl)
@[simp] theorem evs_nil : evs Φ ρ .nil = some [] := (rfl)
@[simp] theorem evs_cons (e : E) (es : Es) : evs Φ ρ (.cons e es) = cons2 (ev Φ ρ e) (evs Φ ρ es) := (rfl)
@[simp] theorem ev_chain (o₁ o₂ : Cm) (a b c : E) : ev Φ ρ (.chain o₁ o₂ a b c) = chain3 o₁ o₂ (ev Φ ρ a) (ev Φ ρ b) (ev Φ ρ c) := by
  show ((ev Φ ρ a).bind fun x => (ev Φ ρ b).bind fun y => (evCmp o₁ x y).bind fun p => if p = true then (ev Φ ρ c).bind fun z => (evCmp o₂ y z).map D.bool else some (D.bool false)) = _
  cases ev Φ ρ a with
  | none => rfl
  | some x =>
    cases ev Φ ρ b with
    | none => rfl
    | some y =>
      show ((evCmp o₁ x y).bind fun p => if p = true then (ev Φ ρ c).bind fun z => (evCmp o₂ y z).map D.bool else some (D.bool false)) = ifB ((evCmp o₁ x y).map D.bool) _ _
      cases evCmp o₁ x y <;> rfl
@[simp] theorem ex_app (x : Nat) (e : E) : ex Φ ρ (.app x e) = appR ρ x (ev Φ ρ e) := (rfl)
@[simp] theorem ex_seti (x : Nat) (i e : E) : ex Φ ρ (.seti x i e) = setR ρ x (ev Φ ρ i) (ev Φ ρ e) := (rfl)
@[simp] theorem ex_ownD (x : Nat) (es : Es) : ex Φ ρ (.ownD x es) = ownR ρ x (evs Φ ρ es) := (rfl)
@[simp] theorem ex_ownL (x : Nat) (e : E) : ex Φ ρ (.ownL x e) = ownR ρ x ((ev Φ ρ e).bind items) := by
  show (ev Φ ρ e).bind _ = ((ev Φ ρ e).bind items).bind _
  cases ev Φ ρ e <;> rfl
@[simp] theorem ex_unp (xs : List Nat) (e : E) : ex Φ ρ (.unp xs e) = unpR ρ xs (ev Φ ρ e) := (rfl)
@[simp] theorem ex_cont : ex Φ ρ .cont = some (.cont ρ) := (rfl)
end

section
variable {a b c : Int} {x y : List D} {s t : Str} {p q : Bool} {d e : D} {ρ : Rho}
@[simp] theorem b_add : bin2 .add (some (.int a)) (some (.int b)) = some (.int (a + b)) := (rfl)
@[simp] theorem b_sub : bin2 .sub (some (.int a)) (some (.int b)) = some (.int (a - b)) := (rfl)
@[simp] theorem b_mul : bin2 .mul (some (.int a)) (some (.int b)) = if a.natAbs < 1000000000 ∨ b.natAbs < 1000000000 then some (.int (a * b)) else none := (rfl)
@[simp] theorem b_div : bin2 .div (some (.int a)) (some (.int b)) = if 0 < b ∧ b < 1000000000 then some (.int (a / b)) else none := (rfl)
@[simp] theorem b_mod : bin2 .mod (some (.int a)) (some (.int b)) = if 0 < b then some (.int (a % b)) else none := (rfl)
@[simp] theorem b_pow : bin2 .pow (some (.int 10)) (some (.int 60)) = some (.int (10 ^ 60)) := (rfl)
@[simp] theorem b_addT : bin2 .add (some (.tup x)) (some (.tup y)) = if x.length + y.length ≤ lim then some (.tup (x ++ y)) else none := (rfl)
@[simp] theorem b_addL : bin2 .add (some (.lst x)) (some (.lst y)) = if x.length + y.length ≤ lim then some (.lst (x ++ y)) else none := (rfl)
@[simp] theorem c_eqI : cmp2 .eq (some (.int a)) (some (.int b)) = some (.bool (a == b)) := (rfl)
@[simp] theorem c_eqS : cmp2 .eq (some (.str s)) (some (.str t)) = some (.bool (s == t)) := (rfl)
@[simp] theorem c_neI : cmp2 .ne (some (.int a)) (some (.int b)) = some (.bool (!(a == b))) := (rfl)
@[simp] theorem c_neS : cmp2 .ne (some (.str s)) (some (.str t)) = some (.bool (!(s == t))) := (rfl)
@[simp] theorem c_lt : cmp2 .lt (some (.int a)) (some (.int b)) = some (.bool (decide (a < b))) := (rfl)
@[simp] theorem c_le : cmp2 .le (some (.int a)) (some (.int b)) = some (.bool (decide (a ≤ b))) := (rfl)
@[simp] theorem c_gt : cmp2 .gt (some (.int a)) (some (.int b)) = some (.bool (decide (a > b))) := (rfl)
@[simp] theorem c_ge : cmp2 .ge (some (.int a)) (some (.int b)) = some (.bool (decide (a ≥ b))) := (rfl)
@[simp] theorem i_tup : idx2 (some (.tup x)) (some (.int a)) = if 0 ≤ a then x[a.toNat]? else none := (rfl)
@[simp] theorem i_lst : idx2 (some (.lst x)) (some (.int a)) = if 0 ≤ a then x[a.toNat]? else none := (rfl)
@[simp] theorem l_tup : len1 (some (.tup x)) = some (.int x.length) := rfl
@[simp] theorem l_lst : len1 (some (.lst x)) = some (.int x.length) := rfl
@[simp] theorem n_int : neg1 (some (.int a)) = some (.int (-a)) := rfl
@[simp] theorem n_bool : not1 (some (.bool p)) = some (.bool (!p)) := rfl
@[simp] theorem s_isi {t : Ty} : isi1 t (some d) = some (.bool (evIsi t d)) := rfl
@[simp] theorem m_int : max2 (some (.int a)) (some (.int b)) = some (.int (if b > a then b else a)) := (rfl)
@[simp] theorem t_int : toInt1 (some (.bool p)) = some (.int (if p then 1 else 0)) := rfl
@[simp] theorem t_lst : toTup1 (some (.lst x)) = some (.tup x) := rfl
@[simp] theorem t_tup : toTup1 (some (.tup x)) = some (.tup x) := rfl
@[simp] theorem sl_from : slFrom2 (some (.tup x)) (some (.int a)) = if 0 ≤ a then some (.tup (x.drop a.toNat)) else none := (rfl)
@[simp] theorem k_some : cons2 (some d) (some x) = some (d :: x) := rfl
@[simp] theorem ch_some (o₁ o₂ : Cm) (u v w : Option D) : chain3 o₁ o₂ u v w = ifB (cmp2 o₁ u v) (cmp2 o₂ v w) (some (.bool false)) := rfl
@[simp] theorem isi_tt : evIsi .tuple (.tup x) = true := rfl
@[simp] theorem isi_ti : evIsi .tuple (.int a) = false := rfl
@[simp] theorem isi_tn : evIsi .tuple .none = false := rfl
@[simp] theorem isi_tb : evIsi .tuple (.bool p) = false := rfl
@[simp] theorem isi_ii : evIsi .int (.int a) = true := rfl
@[simp] theorem isi_it : evIsi .int (.tup x) = false := rfl
@[simp] theorem isi_in : evIsi .int .none = false := rfl
@[simp] theorem isi_ib : evIsi .int (.bool p) = true := rfl
@[simp] theorem isi_bb : evIsi .bool (.bool p) = true := rfl
@[simp] theorem isi_bi : evIsi .bool (.int a) = false := rfl
@[simp] theorem isi_bt : evIsi .bool (.tup x) = false := rfl
@[simp] theorem isi_bn : evIsi .bool .none = false := rfl
@[simp] theorem get_0 (o : Option Lo) (r : Rho) : Rho.get (o :: r) 0 = o := rfl
@[simp] theorem get_s (o : Option Lo) (r : Rho) (i : Nat) : Rho.get (o :: r) (i + 1) = Rho.get r i := rfl
@[simp] theorem intOf_int : intOf (.int a) = some a := rfl
@[simp] theorem tupOf_tup : tupOf (.tup x) = some x := rfl
@[simp] theorem lstOf_lst : lstOf (.lst x) = some x := rfl
@[simp] theorem isTrueD_bool : isTrueD (.bool p) = some p := rfl
@[simp] theorem items_tup : items (.tup x) = some x := rfl
@[simp] theorem items_lst : items (.lst x) = some x := rfl
@[simp] theorem own_0 (r : Rho) : Rho.own? (some (.own x) :: r) 0 = some x := rfl
@[simp] theorem own_s (o : Option Lo) (r : Rho) (i : Nat) : Rho.own? (o :: r) (i + 1) = Rho.own? r i := rfl
@[simp] theorem putO_eq (i : Nat) : putO ρ i x = if D.pures x = true then some (.next (ρ.set i (some (.own x)))) else none := (rfl)
@[simp] theorem putD_eq (i : Nat) : putD ρ i d = if d.pure = true then some (.next (ρ.set i (some (.dat d)))) else none := (rfl)
@[simp] theorem valq_d : Lo.val? (.dat d) = some d := rfl
@[simp] theorem valq_a : Lo.val? (.arg d) = some d := rfl
@[simp] theorem valq_o : Lo.val? (.own x) = some (.lst x) := rfl
@[simp] theorem val_d : Lo.val (.dat d) = d := rfl
@[simp] theorem val_a : Lo.val (.arg d) = d := rfl
@[simp] theorem val_o : Lo.val (.own x) = .lst x := rfl
@[simp] theorem put_var (i : Nat) : putT ρ d (.var i) = if d.pure = true then some (.next (ρ.set i (some (.dat d)))) else none := (rfl)
@[simp] theorem ownR_some (i : Nat) : ownR ρ i (some x) = if D.pures x = true then some (.next (ρ.set i (some (.own x)))) else none := (rfl)
@[simp] theorem unpR_tup (xs : List Nat) : unpR ρ xs (some (.tup x)) = if x.length = xs.length ∧ D.pures x = true then some (.next (setAll ρ xs x)) else none := (rfl)
end
end Mine

namespace Mine
open PySem
noncomputable def F_l_cell_at : Fn := ⟨[(Str.ofString "_law_script"), (Str.ofString "_law_k")], [((Str.ofString "_law_script"), .local), ((Str.ofString "_law_k"), .local), ((Str.ofString "len"), .globalImplicit)],
 (.cons (.iff (.cmp .lt (.v 1) (.len (.v 0)))
 (.cons (.ret (.idx (.v 0) (.v 1)))
 .nil)
 .nil)
 (.cons (.ret (.k (.int (0))))
 .nil))⟩

noncomputable def F_l_mixed : Fn := ⟨[(Str.ofString "_law_script"), (Str.ofString "_law_k")], [((Str.ofString "_law_script"), .local), ((Str.ofString "_law_k"), .local), ((Str.ofString "_law_cell"), .local), ((Str.ofString "len"), .globalImplicit)],
 (.cons (.asg 2 (.k (.int (0))))
 (.cons (.iff (.cmp .gt (.len (.v 0)) (.k (.int (0))))
 (.cons (.asg 2 (.idx (.v 0) (.bin .mod (.v 1) (.len (.v 0)))))
 .nil)
 .nil)
 (.cons (.ret (.bin .mod (.bin .mul (.bin .add (.v 2) (.bin .mul (.k (.int (7919))) (.v 1))) (.k (.int (48271)))) (.k (.int (2147483647)))))
 .nil)))⟩

noncomputable def F_l_value_by : Fn := ⟨[(Str.ofString "_law_script"), (Str.ofString "_law_k"), (Str.ofString "_law_sizes")], [((Str.ofString "_law_script"), .local), ((Str.ofString "_law_k"), .local), ((Str.ofString "_law_sizes"), .local), ((Str.ofString "_law_number"), .local), ((Str.ofString "_law_rest"), .local), ((Str.ofString "_law_mixed"), .globalImplicit), ((Str.ofString "_law_cell_at"), .globalImplicit), ((Str.ofString "max"), .globalImplicit), ((Str.ofString "len"), .globalImplicit)],
 (.cons (.callS (.var 3) 1 (.cons (.v 0) (.cons (.v 1) .nil)))
 (.cons (.asg 4 (.bin .div (.v 3) (.k (.int (8)))))
 (.cons (.iff (.cmp .eq (.bin .mod (.v 3) (.k (.int (8)))) (.k (.int (0))))
 (.cons (.ret (.k .none))
 .nil)
 .nil)
 (.cons (.iff (.cmp .eq (.bin .mod (.v 3) (.k (.int (8)))) (.k (.int (1))))
 (.cons (.ret (.bin .mul (.bin .mod (.call 0 (.cons (.v 0) (.cons (.bin .mod (.v 1) (.max (.k (.int (1))) (.len (.v 0)))) .nil))) (.bin .pow (.k (.int (10))) (.k (.int (60))))) (.idx (.lst (.cons (.k (.int (1))) (.cons (.neg (.k (.int (1)))) .nil))) (.bin .mod (.v 4) (.k (.int (2)))))))
 .nil)
 .nil)
 (.cons (.iff (.and (.cmp .lt (.bin .mod (.v 3) (.k (.int (8)))) (.k (.int (6)))) (.cmp .gt (.idx (.v 2) (.k (.int (0)))) (.k (.int (0)))))
 (.cons (.ret (.tup (.cons (.k (.str (Str.ofString "young"))) (.cons (.bin .mod (.v 4) (.idx (.v 2) (.k (.int (0))))) .nil))))
 .nil)
 .nil)
 (.cons (.iff (.and (.cmp .gt (.bin .mod (.v 3) (.k (.int (8)))) (.k (.int (4)))) (.cmp .gt (.idx (.v 2) (.k (.int (1)))) (.k (.int (0)))))
 (.cons (.ret (.tup (.cons (.k (.str (Str.ofString "old"))) (.cons (.bin .mod (.v 4) (.idx (.v 2) (.k (.int (1))))) .nil))))
 .nil)
 .nil)
 (.cons (.ret (.bin .sub (.bin .mod (.v 4) (.k (.int (7)))) (.k (.int (3)))))
 .nil)))))))⟩

noncomputable def C_l_thing_by_1 : E :=
 (.call 2 (.cons (.v 0) (.cons (.bin .add (.bin .add (.v 1) (.k (.int (1)))) (.v 12)) (.cons (.v 2) .nil))))
noncomputable def F_l_thing_by : Fn := ⟨[(Str.ofString "_law_script"), (Str.ofString "_law_k"), (Str.ofString "_law_sizes")], [((Str.ofString "_law_script"), .cell), ((Str.ofString "_law_k"), .cell), ((Str.ofString "_law_sizes"), .cell), ((Str.ofString "_law_number"), .local), ((Str.ofString "_law_many"), .local), ((Str.ofString "_law_age"), .local), ((Str.ofString "_law_mixed"), .globalImplicit), ((Str.ofString "_law_cell_at"), .globalImplicit), ((Str.ofString "max"), .globalImplicit), ((Str.ofString "len"), .globalImplicit), ((Str.ofString "tuple"), .globalImplicit), ((Str.ofString "range"), .globalImplicit)],
 (.cons (.callS (.var 3) 1 (.cons (.v 0) (.cons (.v 1) .nil)))
 (.cons (.asg 4 (.bin .mod (.v 3) (.k (.int (4)))))
 (.cons (.iff (.cmp .eq (.bin .mod (.bin .div (.v 3) (.k (.int (4)))) (.k (.int (32)))) (.k (.int (3))))
 (.cons (.asg 4 (.bin .mod (.bin .div (.v 3) (.k (.int (128)))) (.k (.int (100)))))
 .nil)
 .nil)
 (.cons (.asg 5 (.bin .mod (.bin .div (.v 3) (.k (.int (12800)))) (.k (.int (4)))))
 (.cons (.iff (.cmp .eq (.bin .mod (.bin .div (.v 3) (.k (.int (51200)))) (.k (.int (8)))) (.k (.int (1))))
 (.cons (.asg 5 (.bin .mod (.call 0 (.cons (.v 0) (.cons (.bin .mod (.v 1) (.max (.k (.int (1))) (.len (.v 0)))) .nil))) (.bin .pow (.k (.int (10))) (.k (.int (60))))))
 .nil)
 .nil)
 (.cons (.ret (.tup (.cons (.v 5) (.cons (.toTup (.comp C_l_thing_by_1 (.range (.v 4)) (.k (.bool true)))) .nil))))
 .nil))))))⟩

noncomputable def B_l_book_of_1 : Ss :=
 (.cons (.asg 4 (.idx (.idx (.idx (.v 0) (.v 2)) (.k (.int (1)))) (.v 3)))
 (.cons (.iff (.and (.isi (.v 4) .tuple) (.cmp .eq (.idx (.v 4) (.k (.int (0)))) (.k (.str (Str.ofString "young")))))
 (.cons (.app 1 (.tup (.cons (.v 2) (.cons (.v 3) .nil))))
 .nil)
 .nil)
 .nil))
noncomputable def B_l_book_of_2 : Ss :=
 (.cons (.for1 3 (.range (.len (.idx (.idx (.v 0) (.v 2)) (.k (.int (1)))))) B_l_book_of_1)
 .nil)
noncomputable def F_l_book_of : Fn := ⟨[(Str.ofString "_law_old")], [((Str.ofString "_law_old"), .local), ((Str.ofString "_law_found"), .local), ((Str.ofString "_law_place"), .local), ((Str.ofString "_law_k"), .local), ((Str.ofString "_law_value"), .local), ((Str.ofString "range"), .globalImplicit), ((Str.ofString "len"), .globalImplicit), ((Str.ofString "isinstance"), .globalImplicit), ((Str.ofString "tuple"), .globalImplicit)],
 (.cons (.ownD 1 .nil)
 (.cons (.for1 2 (.range (.len (.v 0))) B_l_book_of_2)
 (.cons (.ret (.toTup (.v 1)))
 .nil)))⟩

noncomputable def F_l_next : Fn := ⟨[(Str.ofString "_law_word"), (Str.ofString "_law_k"), (Str.ofString "_law_sizes")], [((Str.ofString "_law_word"), .local), ((Str.ofString "_law_k"), .local), ((Str.ofString "_law_sizes"), .local), ((Str.ofString "_law_other"), .local), ((Str.ofString "_law_at"), .local), ((Str.ofString "int"), .globalImplicit)],
 (.cons (.asg 3 (.idx (.lst (.cons (.k (.str (Str.ofString "young"))) (.cons (.k (.str (Str.ofString "old"))) .nil))) (.toInt (.cmp .eq (.v 0) (.k (.str (Str.ofString "young")))))))
 (.cons (.asg 4 (.idx (.lst (.cons (.v 1) (.cons (.bin .add (.v 1) (.k (.int (1)))) .nil))) (.toInt (.cmp .eq (.v 0) (.k (.str (Str.ofString "old")))))))
 (.cons (.iff (.cmp .lt (.v 4) (.idx (.v 2) (.toInt (.cmp .eq (.v 3) (.k (.str (Str.ofString "old")))))))
 (.cons (.ret (.tup (.cons (.v 3) (.cons (.v 4) .nil))))
 .nil)
 .nil)
 (.cons (.iff (.cmp .lt (.bin .add (.v 1) (.k (.int (1)))) (.idx (.v 2) (.toInt (.cmp .eq (.v 0) (.k (.str (Str.ofString "old")))))))
 (.cons (.ret (.tup (.cons (.v 0) (.cons (.bin .add (.v 1) (.k (.int (1)))) .nil))))
 .nil)
 .nil)
 (.cons (.ret (.k (.int (7))))
 .nil)))))⟩

noncomputable def B_l_chained_1 : Ss :=
 (.cons (.app 3 (.tup (.cons (.idx (.idx (.v 0) (.v 4)) (.k (.int (0)))) (.cons (.bin .add (.idx (.idx (.v 0) (.v 4)) (.k (.int (1)))) (.tup (.cons (.call 5 (.cons (.v 1) (.cons (.v 4) (.cons (.v 2) .nil)))) .nil))) .nil))))
 .nil)
noncomputable def F_l_chained : Fn := ⟨[(Str.ofString "_law_half"), (Str.ofString "_law_word"), (Str.ofString "_law_sizes")], [((Str.ofString "_law_half"), .local), ((Str.ofString "_law_word"), .local), ((Str.ofString "_law_sizes"), .local), ((Str.ofString "_law_rows"), .local), ((Str.ofString "_law_k"), .local), ((Str.ofString "range"), .globalImplicit), ((Str.ofString "len"), .globalImplicit), ((Str.ofString "_law_next"), .globalImplicit), ((Str.ofString "tuple"), .globalImplicit)],
 (.cons (.ownD 3 .nil)
 (.cons (.for1 4 (.range (.len (.v 0))) B_l_chained_1)
 (.cons (.ret (.toTup (.v 3)))
 .nil)))⟩

noncomputable def B_l_heap_by_1 : Ss :=
 (.cons (.iff (.cmp .eq (.bin .mod (.bin .div (.call 0 (.cons (.v 0) (.cons (.v 2) .nil))) (.k (.int (6)))) (.k (.int (6)))) (.k (.int (1))))
 (.cons (.seti 1 (.v 2) (.bin .mod (.bin .mod (.bin .mul (.call 0 (.cons (.v 0) (.cons (.v 2) .nil))) (.k (.int (48271)))) (.k (.int (2147483647)))) (.k (.int (71)))))
 .nil)
 .nil)
 .nil)
noncomputable def C_l_heap_by_2 : E :=
 (.call 3 (.cons (.v 0) (.cons (.bin .mul (.k (.int (100))) (.v 11)) (.cons (.v 1) .nil))))
noncomputable def C_l_heap_by_3 : E :=
 (.call 3 (.cons (.v 0) (.cons (.bin .add (.k (.int (10000))) (.bin .mul (.k (.int (100))) (.v 11))) (.cons (.v 1) .nil))))
noncomputable def C_l_heap_by_4 : E :=
 (.call 2 (.cons (.v 0) (.cons (.bin .add (.k (.int (20000))) (.v 11)) (.cons (.v 1) .nil))))
noncomputable def F_l_heap_by : Fn := ⟨[(Str.ofString "_law_script")], [((Str.ofString "_law_script"), .cell), ((Str.ofString "_law_sizes"), .cell), ((Str.ofString "_law_k"), .local), ((Str.ofString "_law_young"), .local), ((Str.ofString "_law_old"), .local), ((Str.ofString "_law_roots"), .local), ((Str.ofString "_law_cell_at"), .globalImplicit), ((Str.ofString "range"), .globalImplicit), ((Str.ofString "tuple"), .globalImplicit), ((Str.ofString "_law_chained"), .globalImplicit), ((Str.ofString "_law_book_of"), .globalImplicit)],
 (.cons (.ownD 1 (.cons (.bin .mod (.call 0 (.cons (.v 0) (.cons (.k (.int (0))) .nil))) (.k (.int (6)))) (.cons (.bin .mod (.call 0 (.cons (.v 0) (.cons (.k (.int (1))) .nil))) (.k (.int (6)))) (.cons (.bin .mod (.call 0 (.cons (.v 0) (.cons (.k (.int (2))) .nil))) (.k (.int (5)))) .nil))))
 (.cons (.for1 2 (.range (.k (.int (3)))) B_l_heap_by_1)
 (.cons (.asg 3 (.toTup (.comp C_l_heap_by_2 (.range (.idx (.v 1) (.k (.int (0))))) (.k (.bool true)))))
 (.cons (.asg 4 (.toTup (.comp C_l_heap_by_3 (.range (.idx (.v 1) (.k (.int (1))))) (.k (.bool true)))))
 (.cons (.asg 5 (.toTup (.comp C_l_heap_by_4 (.range (.idx (.v 1) (.k (.int (2))))) (.k (.bool true)))))
 (.cons (.iff (.or (.cmp .eq (.bin .mod (.bin .div (.call 0 (.cons (.v 0) (.cons (.k (.int (2))) .nil))) (.k (.int (2556)))) (.k (.int (8)))) (.k (.int (1)))) (.cmp .eq (.bin .mod (.call 0 (.cons (.v 0) (.cons (.k (.int (2))) .nil))) (.k (.int (11)))) (.k (.int (3)))))
 (.cons (.callS (.var 3) 6 (.cons (.v 3) (.cons (.k (.str (Str.ofString "young"))) (.cons (.v 1) .nil))))
 (.cons (.callS (.var 4) 6 (.cons (.v 4) (.cons (.k (.str (Str.ofString "old"))) (.cons (.v 1) .nil))))
 (.cons (.iff (.cmp .gt (.idx (.v 1) (.k (.int (0)))) (.k (.int (0))))
 (.cons (.asg 5 (.bin .add (.tup (.cons (.tup (.cons (.k (.str (Str.ofString "young"))) (.cons (.k (.int (0))) .nil))) .nil)) (.slFrom (.v 5) (.k (.int (1))))))
 .nil)
 .nil)
 .nil)))
 .nil)
 (.cons (.ret (.tup (.cons (.v 3) (.cons (.v 4) (.cons (.v 5) (.cons (.call 4 (.cons (.v 4) .nil)) .nil))))))
 .nil)))))))⟩

noncomputable def F_is_pointer : Fn := ⟨[(Str.ofString "value")], [((Str.ofString "value"), .local), ((Str.ofString "isinstance"), .globalImplicit), ((Str.ofString "tuple"), .globalImplicit)],
 (.cons (.ret (.isi (.v 0) .tuple))
 .nil)⟩

noncomputable def F_half_of : Fn := ⟨[(Str.ofString "heap"), (Str.ofString "pointer")], [((Str.ofString "heap"), .local), ((Str.ofString "pointer"), .local)],
 (.cons (.iff (.cmp .eq (.idx (.v 1) (.k (.int (0)))) (.k (.str (Str.ofString "young"))))
 (.cons (.ret (.idx (.v 0) (.k (.int (0)))))
 .nil)
 .nil)
 (.cons (.ret (.idx (.v 0) (.k (.int (1)))))
 .nil))⟩

noncomputable def F_leads : Fn := ⟨[(Str.ofString "heap"), (Str.ofString "pointer")], [((Str.ofString "heap"), .local), ((Str.ofString "pointer"), .local), ((Str.ofString "len"), .globalImplicit), ((Str.ofString "half_of"), .globalImplicit)],
 (.cons (.ret (.chain .le .lt (.k (.int (0))) (.idx (.v 1) (.k (.int (1)))) (.len (.call 9 (.cons (.v 0) (.cons (.v 1) .nil))))))
 .nil)⟩

structure Common (P : Prg) : Prop where
  c0 : P[0]? = some F_l_cell_at
  c1 : P[1]? = some F_l_mixed
  c2 : P[2]? = some F_l_value_by
  c3 : P[3]? = some F_l_thing_by
  c4 : P[4]? = some F_l_book_of
  c5 : P[5]? = some F_l_next
  c6 : P[6]? = some F_l_chained
  c7 : P[7]? = some F_l_heap_by
  c8 : P[8]? = some F_is_pointer
  c9 : P[9]? = some F_half_of
  c10 : P[10]? = some F_leads
end Mine


namespace Mine
open PySem

abbrev wY : Str := Str.ofString "young"
abbrev wO : Str := Str.ofString "old"
theorem YO : (wY == wO) = false := by decide +kernel
theorem OY : (wO == wY) = false := by decide +kernel
theorem YY : (wY == wY) = true := by decide +kernel
theorem OO : (wO == wO) = true := by decide +kernel
theorem YneO : ¬ wY = wO := by decide +kernel
theorem OneY : ¬ wO = wY := by decide +kernel

theorem lim_n : lim = 1000000 := rfl

section
variable {Φ : Fns} {ρ : Rho}
theorem evIt_range {a : E} {m : Int} (h : ev Φ ρ a = some (.int m)) (h0 : -1000000 ≤ m) (h1 : m ≤ 1000000) : evIt Φ ρ (.range a) = some (rangeD 0 m) := by
  show (ev Φ ρ a).bind _ = _
  rw [h]; exact if_pos ⟨h0, h1⟩
theorem evIt_seq {a : E} {d : D} {ds : List D} (h : ev Φ ρ a = some d) (hi : items d = some ds) (hp : D.pures ds = true) : evIt Φ ρ (.seq a) = some ds := by
  show (ev Φ ρ a).bind _ = _
  rw [h]; show (items d).bind _ = _
  rw [hi]; exact if_pos hp
theorem ex_for {x : Nat} {it : It} {b : Ss} {ds : List D} (h : evIt Φ ρ it = some ds) (ho : itOk Φ ρ it = true) : ex Φ ρ (.for1 x it b) = loopO (fun d ρ => exs Φ (ρ.set x (some (.dat d))) b) ds ρ := by
  show (evIt Φ ρ it).bind _ = _
  rw [h]; exact if_pos ho
theorem ex_for_range {x : Nat} {a : E} {b : Ss} {m : Int} (h : ev Φ ρ a = some (.int m)) (h0 : -1000000 ≤ m) (h1 : m ≤ 1000000) :
    ex Φ ρ (.for1 x (.range a) b) = loopO (fun d ρ => exs Φ (ρ.set x (some (.dat d))) b) (rangeD 0 m) ρ := ex_for (evIt_range h h0 h1) rfl
theorem ex_for_tup {x : Nat} {a : E} {b : Ss} {ds : List D} (h : ev Φ ρ a = some (.tup ds)) (hp : D.pures ds = true) :
    ex Φ ρ (.for1 x (.seq a) b) = loopO (fun d ρ => exs Φ (ρ.set x (some (.dat d))) b) ds ρ :=
  ex_for (evIt_seq h rfl hp) (by show (ρ.noOwn || ((ev Φ ρ a).bind tupOf).isSome) = true; rw [h]; exact Bool.or_true _)
theorem ex_forV {x y : Nat} {b : Ss} {lo : Lo} {ds : List D} (h : ρ.get y = some lo) (hi : items lo.val = some ds) (ho : lo.own?.isNone = true) (hp : D.pures ds = true) :
    ex Φ ρ (.forV x y b) = loopO (fun d ρ => exs Φ (ρ.set x (some (.dat d))) b) ds ρ := by
  show (ρ.get y).bind _ = _
  rw [h]; show (items lo.val).bind _ = _
  rw [hi]; exact if_pos ⟨ho, hp⟩
theorem ev_comp {el cd : E} {it : It} {ds res : List D} (h : evIt Φ ρ it = some ds) (hc : compO (fun d => (ev Φ (ρ ++ [some (.dat d)]) cd).bind isTrueD) (fun d => ev Φ (ρ ++ [some (.dat d)]) el) ds = some res) (hp : D.pures res = true) :
    ev Φ ρ (.comp el it cd) = some (.lst res) := by
  show (evIt Φ ρ it).bind _ = _
  rw [h]; show (compO _ _ ds).bind _ = _
  rw [hc]; exact if_pos hp
end
theorem rangeD_len (m : Int) : (rangeD 0 m).length = m.toNat := by simp [rangeD]
theorem rangeD_some {m : Int} {j : Nat} {d : D} (h : (rangeD 0 m)[j]? = some d) : d = .int j ∧ (j : Int) < m := by
  have hl := (List.getElem?_eq_some_iff.mp h).1
  rw [rangeD_get hl] at h
  rw [rangeD_len] at hl
  exact ⟨by simpa using h.symm, by (first | lia | omega)⟩
theorem rangeD_mem {m : Int} {d : D} (h : d ∈ rangeD 0 m) : ∃ j : Nat, d = .int j ∧ (j : Int) < m := by
  obtain ⟨j, hj⟩ := List.getElem?_of_mem h
  exact ⟨j, rangeD_some hj⟩

noncomputable def scr (xs : List Int) : D := .lst (xs.map .int)
noncomputable def cellAt (xs : List Int) (k : Int) : Int := (xs[k.toNat]?).getD 0
noncomputable def mixed (xs : List Int) (k : Int) : Int := ((if 0 < xs.length then cellAt xs (k % xs.length) else 0) + 7919 * k) * 48271 % 2147483647
theorem mixed_range (xs : List Int) (k : Int) : 0 ≤ mixed xs k ∧ mixed xs k < 2147483647 := by unfold mixed; (first | lia | omega)

/-! shapes -/
abbrev Bd := Str → Int → Prop
noncomputable def okV (b : Bd) (v : D) : Prop := v = .none ∨ (∃ i, v = .int i) ∨ ∃ s i, (s = wY ∨ s = wO) ∧ b s i ∧ v = .tup [.str s, .int i]
noncomputable def okTm (m : Nat) (b : Bd) (t : D) : Prop := ∃ a vs, t = .tup [.int a, .tup vs] ∧ vs.length ≤ m ∧ ∀ v ∈ vs, okV b v
abbrev okT (b : Bd) (t : D) : Prop := okTm 101 b t
noncomputable def inB (s0 s1 : Int) : Bd := fun s i => 0 ≤ i ∧ i < if s = wY then s0 else s1

theorem okV.okN {b : Bd} {v : D} (h : okV b v) : v.okN 1 = true := by
  rcases h with rfl | ⟨i, rfl⟩ | ⟨s, i, _, _, rfl⟩ <;> rfl
theorem okTm.okN {m : Nat} {b : Bd} {t : D} (h : okTm m b t) : t.okN 3 = true := by
  obtain ⟨a, vs, rfl, _, hv⟩ := h
  have : vs.all (D.okN 1) = true := List.all_eq_true.mpr fun v hv' => (hv v hv').okN
  rw [D.okN_tup, List.all_cons, List.all_cons, D.okN_int, D.okN_tup, this]; rfl
theorem okV.pure {b : Bd} {v : D} (h : okV b v) : v.pure = true := D.okN_le (by decide) h.okN
theorem okTm.pure {m : Nat} {b : Bd} {t : D} (h : okTm m b t) : t.pure = true := D.okN_le (by decide) h.okN
theorem okVs.pures {b : Bd} {vs : List D} (h : ∀ v ∈ vs, okV b v) : D.pures vs = true := List.all_eq_true.mpr fun v hv => (h v hv).pure
theorem okTs.pures {m : Nat} {b : Bd} {vs : List D} (h : ∀ v ∈ vs, okTm m b v) : D.pures vs = true := List.all_eq_true.mpr fun v hv => (h v hv).pure
theorem okTs.tup {m : Nat} {b : Bd} {vs : List D} (h : ∀ v ∈ vs, okTm m b v) : D.pure (.tup vs) = true :=
  D.okN_le (n := 4) (by decide) (by rw [D.okN_tup]; exact List.all_eq_true.mpr fun v hv => (h v hv).okN)
theorem okVs.tup {b : Bd} {vs : List D} (h : ∀ v ∈ vs, okV b v) : D.pure (.tup vs) = true :=
  D.okN_le (n := 2) (by decide) (by rw [D.okN_tup]; exact List.all_eq_true.mpr fun v hv => (h v hv).okN)

section
variable {keep : Bool} {P : Prg} (C : Common P) {n : Nat} {xs : List Int} {k : Int}

theorem rho_cell_at (a b : D) : rho0 F_l_cell_at.names F_l_cell_at.ps [a, b] = [some (.arg a), some (.arg b), none] := by kernel_rfl
include C in
theorem r_cell_at (hk : 0 ≤ k) : run keep P (n + 1) 0 [scr xs, .int k] = some (.ok (.int (cellAt xs k))) := by
  rw [run_at C.c0, fnRun_eq rfl, rho_cell_at]
  simp [F_l_cell_at, scr, hk, cellAt]
  by_cases h : k < xs.length
  · have h' : k.toNat < xs.length := by (first | lia | omega)
    simp [h, h', List.getElem?_eq_getElem h']
  · have h' : ¬ k.toNat < xs.length := by (first | lia | omega)
    simp [h, List.getElem?_eq_none (Nat.le_of_not_lt h')]

theorem rho_mixed (a b : D) : rho0 F_l_mixed.names F_l_mixed.ps [a, b] = [some (.arg a), some (.arg b), none, none] := by kernel_rfl
include C in
theorem r_mixed (hk : 0 ≤ k) : run keep P (n + 1) 1 [scr xs, .int k] = some (.ok (.int (mixed xs k))) := by
  rw [run_at C.c1, fnRun_eq rfl, rho_mixed]
  by_cases h : 0 < xs.length
  · have h1 : 0 ≤ k % (xs.length : Int) := Int.emod_nonneg _ (by (first | lia | omega))
    have h2 : k % (xs.length : Int) < xs.length := Int.emod_lt_of_pos _ (by (first | lia | omega))
    have h' : (k % (xs.length : Int)).toNat < xs.length := by (first | lia | omega)
    simp [F_l_mixed, scr, mixed, h, h1, h', List.getElem?_eq_getElem h', cellAt]
  · simp [F_l_mixed, scr, mixed, h]

/-! the sizes -/
noncomputable def szs (s0 s1 s2 : Int) : D := .lst [.int s0, .int s1, .int s2]
structure Sz (s0 s1 s2 : Int) : Prop where
  a0 : 0 ≤ s0
  a1 : s0 ≤ 70
  b0 : 0 ≤ s1
  b1 : s1 ≤ 70
  c0 : 0 ≤ s2
  c1 : s2 ≤ 70

theorem rho_value_by (a b c : D) : rho0 F_l_value_by.names F_l_value_by.ps [a, b, c] = [some (.arg a), some (.arg b), some (.arg c), none, none, none, none, none, none] := by kernel_rfl
include C in
theorem r_value_byL {s0 s1 : Int} {tl : List D} (hk : 0 ≤ k) : ∃ v, run keep P (n + 2) 2 [scr xs, .int k, .lst (.int s0 :: .int s1 :: tl)] = some (.ok v) ∧ okV (inB s0 s1) v := by
  rw [run_at C.c2, fnRun_eq rfl, rho_value_by]
  have hm := r_mixed (keep := keep) C (n := n) (xs := xs) hk
  obtain ⟨m0, m1⟩ := mixed_range xs k
  have hmx : (0 : Int) < if ((xs.length : Nat) : Int) > 1 then ((xs.length : Nat) : Int) else 1 := by split <;> (first | lia | omega)
  have hc := r_cell_at (keep := keep) C (n := n) (xs := xs) (k := k % if ((xs.length : Nat) : Int) > 1 then ((xs.length : Nat) : Int) else 1) (Int.emod_nonneg _ (by (first | lia | omega)))
  simp only [scr] at hm hc
  by_cases h0 : mixed xs k % 8 = 0
  · simp [F_l_value_by, hm, scr, h0]
    exact .inl rfl
  by_cases h1 : mixed xs k % 8 = 1
  · have h2 : mixed xs k / 8 % 2 = 0 ∨ mixed xs k / 8 % 2 = 1 := by (first | lia | omega)
    rcases h2 with h2 | h2 <;> simp [F_l_value_by, hm, hc, scr, hmx, h0, h1, h2] <;> exact .inr (.inl ⟨_, rfl⟩)
  by_cases h2 : mixed xs k % 8 < 6 ∧ 0 < s0
  · simp [F_l_value_by, hm, scr, h0, h1, h2.1, h2.2]
    exact .inr (.inr ⟨wY, _, .inl rfl, ⟨Int.emod_nonneg _ (by (first | lia | omega)), by rw [if_pos rfl]; exact Int.emod_lt_of_pos _ h2.2⟩, rfl⟩)
  by_cases h3 : 4 < mixed xs k % 8 ∧ 0 < s1
  · have e : (∃ v, outR keep (exs (run keep P (n + 1)) [some (.arg (scr xs)), some (.arg (.int k)), some (.arg (.lst (.int s0 :: .int s1 :: tl))), none, none, none, none, none, none] F_l_value_by.body) = some (.ok v) ∧ v = .tup [.str wO, .int (mixed xs k / 8 % s1)]) := by
      by_cases h4 : mixed xs k % 8 < 6
      · have h5 : ¬ 0 < s0 := fun q => h2 ⟨h4, q⟩
        simp [F_l_value_by, hm, scr, h0, h1, h4, h5, h3.1, h3.2]
      · simp [F_l_value_by, hm, scr, h0, h1, h4, h3.1, h3.2]
    obtain ⟨v, e1, rfl⟩ := e
    exact ⟨_, e1, .inr (.inr ⟨wO, _, .inr rfl, ⟨Int.emod_nonneg _ (by (first | lia | omega)), by rw [if_neg OneY]; exact Int.emod_lt_of_pos _ h3.2⟩, rfl⟩)⟩
  · refine ⟨.int (mixed xs k / 8 % 7 - 3), ?_, .inr (.inl ⟨_, rfl⟩)⟩
    by_cases h4 : mixed xs k % 8 < 6 <;> by_cases h5 : 4 < mixed xs k % 8 <;> by_cases h6 : 0 < s0 <;> by_cases h7 : 0 < s1 <;> simp [h4, h5, h6, h7] at h2 h3 <;> simp [F_l_value_by, hm, scr, h0, h1, h4, h5, h6, h7]
include C in
theorem r_value_by {s0 s1 s2 : Int} (Z : Sz s0 s1 s2) (hk : 0 ≤ k) : ∃ v, run keep P (n + 2) 2 [scr xs, .int k, szs s0 s1 s2] = some (.ok v) ∧ okV (inB s0 s1) v := r_value_byL C hk

theorem rho_thing_by (a b c : D) : rho0 F_l_thing_by.names F_l_thing_by.ps [a, b, c] = [some (.arg a), some (.arg b), some (.arg c), none, none, none, none, none, none, none, none, none] := by kernel_rfl
include C in
theorem r_thing_by {s0 s1 s2 : Int} (Z : Sz s0 s1 s2) (hk : 0 ≤ k) : ∃ t, run keep P (n + 3) 3 [scr xs, .int k, szs s0 s1 s2] = some (.ok t) ∧ okTm 99 (inB s0 s1) t := by
  rw [run_at C.c3, fnRun_eq rfl, rho_thing_by]
  have hm := r_mixed (keep := keep) C (n := n + 1) (xs := xs) hk
  obtain ⟨m0, m1⟩ := mixed_range xs k
  have hmx : (0 : Int) < if ((xs.length : Nat) : Int) > 1 then ((xs.length : Nat) : Int) else 1 := by split <;> (first | lia | omega)
  have hc := r_cell_at (keep := keep) C (n := n + 1) (xs := xs) (k := k % if ((xs.length : Nat) : Int) > 1 then ((xs.length : Nat) : Int) else 1) (Int.emod_nonneg _ (by (first | lia | omega)))
  have hcomp : ∀ (num age : D) (many : Int), 0 ≤ many → many ≤ 99 → ∃ res, ev (run keep P (n + 2)) [some (.arg (scr xs)), some (.arg (.int k)), some (.arg (szs s0 s1 s2)), some (.dat num), some (.dat (.int many)), some (.dat age), none, none, none, none, none, none] (.comp C_l_thing_by_1 (.range (.v 4)) (.k (.bool true))) = some (.lst res) ∧ res.length = many.toNat ∧ ∀ v ∈ res, okV (inB s0 s1) v := by
    intro num age many h0 h1
    obtain ⟨res, e1, e2, e3⟩ := comp_all (c := fun d => (ev (run keep P (n + 2)) ([some (.arg (scr xs)), some (.arg (.int k)), some (.arg (szs s0 s1 s2)), some (.dat num), some (.dat (.int many)), some (.dat age), none, none, none, none, none, none] ++ [some (.dat d)]) (.k (.bool true))).bind isTrueD)
      (f := fun d => ev (run keep P (n + 2)) ([some (.arg (scr xs)), some (.arg (.int k)), some (.arg (szs s0 s1 s2)), some (.dat num), some (.dat (.int many)), some (.dat age), none, none, none, none, none, none] ++ [some (.dat d)]) C_l_thing_by_1) (fun _ v => okV (inB s0 s1) v) (rangeD 0 many) (fun d hd => by
        obtain ⟨j, rfl, hj⟩ := rangeD_mem hd
        refine ⟨by simp [isTrueD], ?_⟩
        obtain ⟨v, hv1, hv2⟩ := r_value_by (keep := keep) C (n := n) (xs := xs) (k := k + 1 + j) Z (by (first | lia | omega))
        exact ⟨v, by simp [C_l_thing_by_1, hv1], hv2⟩)
    have hok : ∀ v ∈ res, okV (inB s0 s1) v := fun v hv => (e3 v hv).elim fun _ q => q.2
    exact ⟨res, ev_comp (evIt_range (by simp) (by (first | lia | omega)) (by (first | lia | omega))) e1 (okVs.pures hok), by rw [e2, rangeD_len], hok⟩
  simp only [scr] at hm hc hcomp ⊢
  have big : (10 : Int) ^ 60 = 1000000000000000000000000000000000000000000000000000000000000 := by decide +kernel
  by_cases h1 : mixed xs k / 4 % 32 = 3 <;> by_cases h2 : mixed xs k / 51200 % 8 = 1
  · obtain ⟨res, e1, e2, e3⟩ := hcomp (.int (mixed xs k)) (.int (cellAt xs (k % if ((xs.length : Nat) : Int) > 1 then ((xs.length : Nat) : Int) else 1) % 10 ^ 60)) (mixed xs k / 128 % 100) (by (first | lia | omega)) (by (first | lia | omega))
    simp [F_l_thing_by, hm, hc, h1, h2, hmx] at e1 ⊢
    rw [e1]
    exact ⟨_, rfl, _, res, rfl, by (first | lia | omega), e3⟩
  · obtain ⟨res, e1, e2, e3⟩ := hcomp (.int (mixed xs k)) (.int (mixed xs k / 12800 % 4)) (mixed xs k / 128 % 100) (by (first | lia | omega)) (by (first | lia | omega))
    simp [F_l_thing_by, hm, hc, h1, h2, hmx] at e1 ⊢
    rw [e1]
    exact ⟨_, rfl, _, res, rfl, by (first | lia | omega), e3⟩
  · obtain ⟨res, e1, e2, e3⟩ := hcomp (.int (mixed xs k)) (.int (cellAt xs (k % if ((xs.length : Nat) : Int) > 1 then ((xs.length : Nat) : Int) else 1) % 10 ^ 60)) (mixed xs k % 4) (by (first | lia | omega)) (by (first | lia | omega))
    simp [F_l_thing_by, hm, hc, h1, h2, hmx] at e1 ⊢
    rw [e1]
    exact ⟨_, rfl, _, res, rfl, by (first | lia | omega), e3⟩
  · obtain ⟨res, e1, e2, e3⟩ := hcomp (.int (mixed xs k)) (.int (mixed xs k / 12800 % 4)) (mixed xs k % 4) (by (first | lia | omega)) (by (first | lia | omega))
    simp [F_l_thing_by, hm, hc, h1, h2, hmx] at e1 ⊢
    rw [e1]
    exact ⟨_, rfl, _, res, rfl, by (first | lia | omega), e3⟩

/-! the book -/
noncomputable def isYoung : D → Bool
  | .tup (.str s :: _) => s == wY
  | _ => false
noncomputable def fieldsOf : D → List D
  | .tup [_, .tup vs] => vs
  | _ => []
noncomputable def pairsAt (p : Nat) (vs : List D) : List D := (vs.zipIdx.filter fun q => isYoung q.1).map fun q => .tup [.int p, .int (q.2 : Nat)]
noncomputable def bookOf (o : List D) : List D := (o.zipIdx.map fun q => pairsAt q.2 (fieldsOf q.1)).flatten

theorem zipIdx_get {α : Type} {ds : List α} {j : Nat} {d : α} (h : ds[j]? = some d) : ds.zipIdx[j]? = some (d, j) := by
  rw [List.getElem?_zipIdx, h]; simp
theorem take_snoc {α : Type} {l : List α} {j : Nat} {a : α} (h : l[j]? = some a) : l.take (j + 1) = l.take j ++ [a] := by
  rw [List.take_add_one, h]; rfl
theorem pairsAt_len (p : Nat) (vs : List D) : (pairsAt p vs).length ≤ vs.length := by
  unfold pairsAt
  rw [List.length_map]
  exact Nat.le_trans (List.length_filter_le _ _) (by simp)
noncomputable def pairsTo (p : Nat) (vs : List D) (j : Nat) : List D := ((vs.zipIdx.take j).filter fun q => isYoung q.1).map fun q => .tup [.int p, .int (q.2 : Nat)]
noncomputable def bookTo (o : List D) (i : Nat) : List D := ((o.zipIdx.take i).map fun q => pairsAt q.2 (fieldsOf q.1)).flatten
theorem pairsTo_all (p : Nat) (vs : List D) : pairsTo p vs vs.length = pairsAt p vs := by
  unfold pairsTo pairsAt; rw [List.take_of_length_le (by simp)]
theorem bookTo_all (o : List D) : bookTo o o.length = bookOf o := by
  unfold bookTo bookOf; rw [List.take_of_length_le (by simp)]
theorem pairsTo_succ {p : Nat} {vs : List D} {j : Nat} {v : D} (h : vs[j]? = some v) : pairsTo p vs (j + 1) = pairsTo p vs j ++ (if isYoung v then [.tup [.int p, .int (j : Nat)]] else []) := by
  unfold pairsTo
  rw [take_snoc (zipIdx_get h), List.filter_append, List.map_append]
  congr 1
  by_cases q : isYoung v = true <;> simp [q]
theorem bookTo_succ {o : List D} {i : Nat} {t : D} (h : o[i]? = some t) : bookTo o (i + 1) = bookTo o i ++ pairsAt i (fieldsOf t) := by
  unfold bookTo
  rw [take_snoc (zipIdx_get h), List.map_append, List.flatten_append]
  simp
theorem pairsTo_len (p : Nat) (vs : List D) (j : Nat) : (pairsTo p vs j).length ≤ j := by
  unfold pairsTo
  rw [List.length_map]
  refine Nat.le_trans (List.length_filter_le _ _) ?_
  rw [List.length_take]; (first | lia | omega)
theorem pairsTo_pures (p : Nat) (vs : List D) (j : Nat) : D.pures (pairsTo p vs j) = true := by
  unfold pairsTo
  simp only [D.pures, List.all_map, List.all_eq_true]
  intro x _; rfl
theorem pairsAt_pures (p : Nat) (vs : List D) : D.pures (pairsAt p vs) = true := by rw [← pairsTo_all]; exact pairsTo_pures _ _ _
theorem bookTo_pures (o : List D) (i : Nat) : D.pures (bookTo o i) = true := by
  unfold bookTo
  simp only [D.pures, List.all_flatten, List.all_map, List.all_eq_true]
  intro x _
  exact pairsAt_pures _ _
theorem bookTo_len {m : Nat} {b : Bd} {o : List D} (h : ∀ t ∈ o, okTm m b t) : ∀ i, i ≤ o.length → (bookTo o i).length ≤ i * m
  | 0, _ => by simp [bookTo]
  | i + 1, hi => by
    have ht : o[i]? = some o[i] := List.getElem?_eq_getElem (by (first | lia | omega))
    rw [bookTo_succ ht, List.length_append]
    have := bookTo_len h i (by (first | lia | omega))
    have h2 := pairsAt_len i (fieldsOf o[i])
    obtain ⟨a, vs, e, hl, _⟩ := h o[i] (List.getElem_mem _)
    rw [e] at h2 ⊢
    have ef : fieldsOf (.tup [.int a, .tup vs]) = vs := rfl
    rw [ef] at h2 ⊢
    rw [Nat.add_mul]; (first | lia | omega)

theorem okV_young {b : Bd} {v : D} (h : okV b v) : (∃ i, v = .tup [.str wY, .int i]) ∧ isYoung v = true ∨ isYoung v = false := by
  rcases h with rfl | ⟨i, rfl⟩ | ⟨s, i, hs, _, rfl⟩
  · exact .inr rfl
  · exact .inr rfl
  · rcases hs with rfl | rfl
    · exact .inl ⟨⟨i, rfl⟩, YY⟩
    · exact .inr OY

theorem rho_lbook_of (a : D) : rho0 F_l_book_of.names F_l_book_of.ps [a] = [some (.arg a), none, none, none, none, none, none, none, none] := by kernel_rfl
include C in
theorem r_lbook_of {b : Bd} {o : List D} (ho : ∀ t ∈ o, okT b t) (hl : o.length ≤ 100) : run keep P (n + 1) 4 [.tup o] = some (.ok (.tup (bookOf o))) := by
  rw [run_at C.c4, fnRun_eq rfl, rho_lbook_of]
  have outer : ∃ ρ', loopO (fun d ρ => exs (run keep P n) (ρ.set 2 (some (.dat d))) B_l_book_of_2) (rangeD 0 (o.length : Int)) [some (.arg (.tup o)), some (.own []), none, none, none, none, none, none, none] = some (.next ρ') ∧
      ∃ c d e, ρ' = [some (.arg (.tup o)), some (.own (bookTo o (0 + (rangeD 0 (o.length : Int)).length))), c, d, e, none, none, none, none] := by
    refine loop_inv (fun i ρ => ∃ c d e, ρ = [some (.arg (.tup o)), some (.own (bookTo o i)), c, d, e, none, none, none, none]) _ 0 _ ⟨_, _, _, rfl⟩ ?_
    rintro i d ρ hd ⟨c, d', e, rfl⟩
    obtain ⟨rfl, hi⟩ := rangeD_some hd
    rw [Nat.zero_add]
    have hi' : i < o.length := by (first | lia | omega)
    have hoi : o[i]? = some o[i] := List.getElem?_eq_getElem hi'
    obtain ⟨a, vs, et, hvl, hvs⟩ := ho o[i] (List.getElem_mem _)
    have hb0 := bookTo_len ho i (by (first | lia | omega))
    have inner : ∃ ρ', loopO (fun d ρ => exs (run keep P n) (ρ.set 3 (some (.dat d))) B_l_book_of_1) (rangeD 0 (vs.length : Int)) [some (.arg (.tup o)), some (.own (bookTo o i)), some (.dat (.int i)), d', e, none, none, none, none] = some (.next ρ') ∧
        ∃ d e, ρ' = [some (.arg (.tup o)), some (.own (bookTo o i ++ pairsTo i vs (0 + (rangeD 0 (vs.length : Int)).length))), some (.dat (.int i)), d, e, none, none, none, none] := by
      refine loop_inv (fun j ρ => ∃ d e, ρ = [some (.arg (.tup o)), some (.own (bookTo o i ++ pairsTo i vs j)), some (.dat (.int i)), d, e, none, none, none, none]) _ 0 _ ⟨d', e, by simp [pairsTo]⟩ ?_
      rintro j d ρ hd ⟨d'', e'', rfl⟩
      obtain ⟨rfl, hj⟩ := rangeD_some hd
      rw [Nat.zero_add]
      have hj' : j < vs.length := by (first | lia | omega)
      have hvj : vs[j]? = some vs[j] := List.getElem?_eq_getElem hj'
      have hp := pairsTo_len i vs j
      have hv := hvs vs[j] (List.getElem_mem _)
      have hpu := hv.pure
      have hlen : (bookTo o i).length + (pairsTo i vs j).length < lim := by
        rw [lim_n]
        have : i * 101 ≤ 100 * 101 := Nat.mul_le_mul_right _ (by (first | lia | omega))
        (first | lia | omega)
      rw [pairsTo_succ hvj]
      rcases okV_young hv with ⟨⟨z, hz⟩, hy⟩ | hy
      · refine ⟨_, .inl ?_, some (.dat (.int j)), some (.dat vs[j]), rfl⟩
        rw [hz] at hvj hy
        simp [B_l_book_of_1, hoi, et, hvj, hz, hy, appR, hlen, YY, D.pure, D.okN]
      · refine ⟨_, .inl ?_, some (.dat (.int j)), some (.dat vs[j]), rfl⟩
        rcases hv with hz | ⟨z, hz⟩ | ⟨w, z, hw, _, hz⟩
        · rw [hz] at hvj hy; simp [B_l_book_of_1, hoi, et, hvj, hz, hy]
        · rw [hz] at hvj hy; simp [B_l_book_of_1, hoi, et, hvj, hz, hy]
        · have hw' : (w == wY) = false := by rw [hz] at hy; exact hy
          rw [hz] at hvj hy
          simp [B_l_book_of_1, hoi, et, hvj, hz, hy, hw', D.pure, D.okN]
    obtain ⟨ρ1, l1, d1, e1, hρ⟩ := inner
    refine ⟨ρ1, .inl ?_, some (.dat (.int i)), d1, e1, ?_⟩
    · unfold B_l_book_of_2
      rw [exs_cons, ex_for_range (m := (vs.length : Int)) (by simp [hoi, et]) (by (first | lia | omega)) (by (first | lia | omega))]
      simp only [List.set_cons_succ, List.set_cons_zero]
      rw [l1]; simp
    · rw [hρ, rangeD_len, Int.toNat_natCast, Nat.zero_add, pairsTo_all, bookTo_succ hoi, et]; rfl
  obtain ⟨ρ1, l1, c1, d1, e1, hρ⟩ := outer
  unfold F_l_book_of
  simp only [exs_cons, ex_ownD, evs_nil, ownR_some]
  rw [if_pos (show D.pures [] = true from rfl), seqR_next]
  simp only [List.set_cons_succ, List.set_cons_zero]
  rw [exs_cons, ex_for_range (m := (o.length : Int)) (by simp) (by (first | lia | omega)) (by (first | lia | omega))]
  rw [l1, hρ, rangeD_len, Int.toNat_natCast, Nat.zero_add, bookTo_all]
  simp
end
end Mine

namespace Mine
open PySem

section
variable {keep : Bool} {P : Prg} (C : Common P) {n : Nat} {xs : List Int} {k : Int}

theorem rho_next (a b c : D) : rho0 F_l_next.names F_l_next.ps [a, b, c] = [some (.arg a), some (.arg b), some (.arg c), none, none, none] := by kernel_rfl
include C in
theorem r_next {s0 s1 s2 : Int} {w : Str} (hw : w = wY ∨ w = wO) (hk : 0 ≤ k) : ∃ v, run keep P (n + 1) 5 [.str w, .int k, szs s0 s1 s2] = some (.ok v) ∧ okV (inB s0 s1) v := by
  rw [run_at C.c5, fnRun_eq rfl, rho_next]
  have e1 : Int.toNat 1 = 1 := rfl
  rcases hw with rfl | rfl
  · by_cases h1 : k < s1
    · refine ⟨.tup [.str wO, .int k], ?_, .inr (.inr ⟨wO, k, .inr rfl, ⟨hk, by rw [if_neg OneY]; exact h1⟩, rfl⟩)⟩
      simp [F_l_next, szs, YY, YO, OO, h1]
    · by_cases h2 : k + 1 < s0
      · refine ⟨.tup [.str wY, .int (k + 1)], ?_, .inr (.inr ⟨wY, k + 1, .inl rfl, ⟨by (first | lia | omega), by rw [if_pos rfl]; exact h2⟩, rfl⟩)⟩
        simp [F_l_next, szs, YY, YO, OO, h1, h2]
      · refine ⟨.int 7, ?_, .inr (.inl ⟨_, rfl⟩)⟩
        simp [F_l_next, szs, YY, YO, OO, h1, h2]
  · by_cases h1 : k + 1 < s0
    · refine ⟨.tup [.str wY, .int (k + 1)], ?_, .inr (.inr ⟨wY, k + 1, .inl rfl, ⟨by (first | lia | omega), by rw [if_pos rfl]; exact h1⟩, rfl⟩)⟩
      simp [F_l_next, szs, OY, OO, YO, h1]
    · by_cases h2 : k + 1 < s1
      · refine ⟨.tup [.str wO, .int (k + 1)], ?_, .inr (.inr ⟨wO, k + 1, .inr rfl, ⟨by (first | lia | omega), by rw [if_neg OneY]; exact h2⟩, rfl⟩)⟩
        simp [F_l_next, szs, OY, OO, YO, h1, h2]
      · refine ⟨.int 7, ?_, .inr (.inl ⟨_, rfl⟩)⟩
        simp [F_l_next, szs, OY, OO, YO, h1, h2]

theorem rho_chained (a b c : D) : rho0 F_l_chained.names F_l_chained.ps [a, b, c] = [some (.arg a), some (.arg b), some (.arg c), none, none, none, none, none, none] := by kernel_rfl
include C in
theorem r_chained {s0 s1 s2 : Int} {w : Str} (hw : w = wY ∨ w = wO) {h : List D} (hh : ∀ t ∈ h, okTm 99 (inB s0 s1) t) (hl : h.length ≤ 70) :
    ∃ h', run keep P (n + 2) 6 [.tup h, .str w, szs s0 s1 s2] = some (.ok (.tup h')) ∧ h'.length = h.length ∧ ∀ t ∈ h', okTm 100 (inB s0 s1) t := by
  rw [run_at C.c6, fnRun_eq rfl, rho_chained]
  have lp : ∃ ρ', loopO (fun d ρ => exs (run keep P (n + 1)) (ρ.set 4 (some (.dat d))) B_l_chained_1) (rangeD 0 (h.length : Int)) [some (.arg (.tup h)), some (.arg (.str w)), some (.arg (szs s0 s1 s2)), some (.own []), none, none, none, none, none] = some (.next ρ') ∧
      ∃ rows e, ρ' = [some (.arg (.tup h)), some (.arg (.str w)), some (.arg (szs s0 s1 s2)), some (.own rows), e, none, none, none, none] ∧ rows.length = 0 + (rangeD 0 (h.length : Int)).length ∧ ∀ t ∈ rows, okTm 100 (inB s0 s1) t := by
    refine loop_inv (fun j ρ => ∃ rows e, ρ = [some (.arg (.tup h)), some (.arg (.str w)), some (.arg (szs s0 s1 s2)), some (.own rows), e, none, none, none, none] ∧ rows.length = j ∧ ∀ t ∈ rows, okTm 100 (inB s0 s1) t) _ 0 _ ⟨[], none, rfl, rfl, fun t ht => by cases ht⟩ ?_
    rintro j d ρ hd ⟨rows, e, rfl, hrl, hrows⟩
    obtain ⟨rfl, hj⟩ := rangeD_some hd
    have hj' : j < h.length := by (first | lia | omega)
    have hhj : h[j]? = some h[j] := List.getElem?_eq_getElem hj'
    obtain ⟨a, vs, et, hvl, hvs⟩ := hh h[j] (List.getElem_mem _)
    obtain ⟨v, hv1, hv2⟩ := r_next (keep := keep) C (n := n) (s0 := s0) (s1 := s1) (s2 := s2) hw (k := (j : Int)) (by (first | lia | omega))
    have okn : okTm 100 (inB s0 s1) (.tup [.int a, .tup (vs ++ [v])]) := ⟨a, vs ++ [v], rfl, by simp; (first | lia | omega), fun x hx => by
      rcases List.mem_append.mp hx with q | q
      · exact hvs x q
      · rw [List.mem_singleton.mp q]; exact hv2⟩
    have hlim : vs.length + 1 ≤ lim := by rw [lim_n]; (first | lia | omega)
    have hlim2 : rows.length < lim := by rw [lim_n]; (first | lia | omega)
    refine ⟨_, .inl ?_, rows ++ [.tup [.int a, .tup (vs ++ [v])]], some (.dat (.int j)), rfl, by simp [hrl], fun t ht => ?_⟩
    · simp [B_l_chained_1, hhj, et, hv1, appR, hlim, hlim2, okn.pure]
    · rcases List.mem_append.mp ht with q | q
      · exact hrows t q
      · rw [List.mem_singleton.mp q]; exact okn
  obtain ⟨ρ1, l1, rows, e, hρ, hrl, hrows⟩ := lp
  refine ⟨rows, ?_, by rw [hrl, rangeD_len]; simp, hrows⟩
  unfold F_l_chained
  simp only [exs_cons, ex_ownD, evs_nil, ownR_some]
  rw [if_pos (show D.pures [] = true from rfl), seqR_next]
  simp only [List.set_cons_succ, List.set_cons_zero]
  rw [exs_cons, ex_for_range (m := (h.length : Int)) (by simp) (by (first | lia | omega)) (by (first | lia | omega))]
  rw [l1, hρ]
  simp
end

structure HeapOk (b : Bd) (y o r : List D) : Prop where
  yl : y.length ≤ 70
  ol : o.length ≤ 70
  rl : r.length ≤ 71
  ty : ∀ t ∈ y, okTm 100 b t
  to : ∀ t ∈ o, okTm 100 b t
  vr : ∀ v ∈ r, okV b v
theorem okTm.le {m m' : Nat} {b : Bd} {t : D} (h : okTm m b t) (hm : m ≤ m') : okTm m' b t := by
  obtain ⟨a, vs, e, l, v⟩ := h; exact ⟨a, vs, e, by (first | lia | omega), v⟩
theorem okV.le {b b' : Bd} {v : D} (h : okV b v) (hb : ∀ s i, b s i → b' s i) : okV b' v := by
  rcases h with h | h | ⟨s, i, h1, h2, h3⟩
  · exact .inl h
  · exact .inr (.inl h)
  · exact .inr (.inr ⟨s, i, h1, hb _ _ h2, h3⟩)
section
variable {keep : Bool} {P : Prg} (C : Common P) {n : Nat} {xs : List Int} {k : Int}
theorem rho_heap_by (a : D) : rho0 F_l_heap_by.names F_l_heap_by.ps [a] = [some (.arg a), none, none, none, none, none, none, none, none, none, none] := by kernel_rfl

include C in
theorem comp_things {s0 s1 s2 : Int} (Z : Sz s0 s1 s2) {el : E} {ρ : Rho} {m off : Int} {it : E} (hm : 0 ≤ m ∧ m ≤ 70) (hoff : 0 ≤ off) (hit : ev (run keep P (n + 3)) ρ it = some (.int m))
    (hel : ∀ j : Nat, ev (run keep P (n + 3)) (ρ ++ [some (.dat (.int j))]) el = okR (run keep P (n + 3) 3 [scr xs, .int (off + 100 * j), szs s0 s1 s2])) :
    ∃ res, ev (run keep P (n + 3)) ρ (.comp el (.range it) (.k (.bool true))) = some (.lst res) ∧ res.length = m.toNat ∧ ∀ t ∈ res, okTm 99 (inB s0 s1) t := by
  obtain ⟨res, e1, e2, e3⟩ := comp_all (c := fun d => (ev (run keep P (n + 3)) (ρ ++ [some (.dat d)]) (.k (.bool true))).bind isTrueD) (f := fun d => ev (run keep P (n + 3)) (ρ ++ [some (.dat d)]) el) (fun _ v => okTm 99 (inB s0 s1) v) (rangeD 0 m) (fun d hd => by
    obtain ⟨j, rfl, hj⟩ := rangeD_mem hd
    refine ⟨by simp [isTrueD], ?_⟩
    obtain ⟨v, hv1, hv2⟩ := r_thing_by (keep := keep) C (n := n) (xs := xs) (k := off + 100 * j) Z (by (first | lia | omega))
    exact ⟨v, by rw [hel, hv1]; rfl, hv2⟩)
  have hok : ∀ v ∈ res, okTm 99 (inB s0 s1) v := fun v hv => (e3 v hv).elim fun _ q => q.2
  exact ⟨res, ev_comp (evIt_range hit (by (first | lia | omega)) (by (first | lia | omega))) e1 (okTs.pures hok), by rw [e2, rangeD_len], hok⟩
include C in
theorem comp_values {s0 s1 s2 : Int} (Z : Sz s0 s1 s2) {el : E} {ρ : Rho} {m off : Int} {it : E} (hm : 0 ≤ m ∧ m ≤ 70) (hoff : 0 ≤ off) (hit : ev (run keep P (n + 2)) ρ it = some (.int m))
    (hel : ∀ j : Nat, ev (run keep P (n + 2)) (ρ ++ [some (.dat (.int j))]) el = okR (run keep P (n + 2) 2 [scr xs, .int (off + j), szs s0 s1 s2])) :
    ∃ res, ev (run keep P (n + 2)) ρ (.comp el (.range it) (.k (.bool true))) = some (.lst res) ∧ res.length = m.toNat ∧ ∀ t ∈ res, okV (inB s0 s1) t := by
  obtain ⟨res, e1, e2, e3⟩ := comp_all (c := fun d => (ev (run keep P (n + 2)) (ρ ++ [some (.dat d)]) (.k (.bool true))).bind isTrueD) (f := fun d => ev (run keep P (n + 2)) (ρ ++ [some (.dat d)]) el) (fun _ v => okV (inB s0 s1) v) (rangeD 0 m) (fun d hd => by
    obtain ⟨j, rfl, hj⟩ := rangeD_mem hd
    refine ⟨by simp [isTrueD], ?_⟩
    obtain ⟨v, hv1, hv2⟩ := r_value_by (keep := keep) C (n := n) (xs := xs) (k := off + j) Z (by (first | lia | omega))
    exact ⟨v, by rw [hel, hv1]; rfl, hv2⟩)
  have hok : ∀ v ∈ res, okV (inB s0 s1) v := fun v hv => (e3 v hv).elim fun _ q => q.2
  exact ⟨res, ev_comp (evIt_range hit (by (first | lia | omega)) (by (first | lia | omega))) e1 (okVs.pures hok), by rw [e2, rangeD_len], hok⟩

include C in
theorem r_heap_by : ∃ y o r, run keep P (n + 4) 7 [scr xs] = some (.ok (.tup [.tup y, .tup o, .tup r, .tup (bookOf o)])) ∧ HeapOk (inB y.length o.length) y o r := by
  rw [run_at C.c7, fnRun_eq rfl, rho_heap_by]
  have c0 := r_cell_at (keep := keep) C (n := n + 2) (xs := xs) (k := 0) (by (first | lia | omega))
  have c1 := r_cell_at (keep := keep) C (n := n + 2) (xs := xs) (k := 1) (by (first | lia | omega))
  have c2 := r_cell_at (keep := keep) C (n := n + 2) (xs := xs) (k := 2) (by (first | lia | omega))
  have lp : ∃ ρ', loopO (fun d ρ => exs (run keep P (n + 3)) (ρ.set 2 (some (.dat d))) B_l_heap_by_1) (rangeD 0 3) [some (.arg (scr xs)), some (.own [.int (cellAt xs 0 % 6), .int (cellAt xs 1 % 6), .int (cellAt xs 2 % 5)]), none, none, none, none, none, none, none, none, none] = some (.next ρ') ∧
      ∃ s0 s1 s2 e, ρ' = [some (.arg (scr xs)), some (.own [.int s0, .int s1, .int s2]), e, none, none, none, none, none, none, none, none] ∧ Sz s0 s1 s2 := by
    refine loop_inv (fun j ρ => ∃ s0 s1 s2 e, ρ = [some (.arg (scr xs)), some (.own [.int s0, .int s1, .int s2]), e, none, none, none, none, none, none, none, none] ∧ Sz s0 s1 s2) _ 0 _ ⟨_, _, _, _, rfl, ⟨by (first | lia | omega), by (first | lia | omega), by (first | lia | omega), by (first | lia | omega), by (first | lia | omega), by (first | lia | omega)⟩⟩ ?_
    rintro j d ρ hd ⟨s0, s1, s2, e, rfl, Z⟩
    obtain ⟨rfl, hj⟩ := rangeD_some hd
    have cj := r_cell_at (keep := keep) C (n := n + 2) (xs := xs) (k := (j : Int)) (by (first | lia | omega))
    by_cases h : cellAt xs j / 6 % 6 = 1
    · have hr : 0 ≤ cellAt xs j * 48271 % 2147483647 % 71 ∧ cellAt xs j * 48271 % 2147483647 % 71 ≤ 70 := by (first | lia | omega)
      have hj3 : j = 0 ∨ j = 1 ∨ j = 2 := by (first | lia | omega)
      rcases hj3 with rfl | rfl | rfl
      · exact ⟨_, .inl (by simp [B_l_heap_by_1] at cj h ⊢; simp [cj, h, setR]; rfl), _, s1, s2, _, rfl, ⟨hr.1, hr.2, Z.b0, Z.b1, Z.c0, Z.c1⟩⟩
      · exact ⟨_, .inl (by simp [B_l_heap_by_1] at cj h ⊢; simp [cj, h, setR]; rfl), s0, _, s2, _, rfl, ⟨Z.a0, Z.a1, hr.1, hr.2, Z.c0, Z.c1⟩⟩
      · exact ⟨_, .inl (by simp [B_l_heap_by_1] at cj h ⊢; simp [cj, h, setR]; rfl), s0, s1, _, _, rfl, ⟨Z.a0, Z.a1, Z.b0, Z.b1, hr.1, hr.2⟩⟩
    · exact ⟨_, .inl (by simp [B_l_heap_by_1, cj, h]), s0, s1, s2, some (.dat (.int j)), rfl, Z⟩
  obtain ⟨ρ1, l1, s0, s1, s2, e, hρ, Z⟩ := lp
  subst hρ
  obtain ⟨y, y1, y2, y3⟩ := comp_things (keep := keep) C (n := n) (xs := xs) Z (el := C_l_heap_by_2) (ρ := [some (.arg (scr xs)), some (.own [.int s0, .int s1, .int s2]), e, none, none, none, none, none, none, none, none]) (m := s0) (off := 0) (it := .idx (.v 1) (.k (.int 0))) ⟨Z.a0, Z.a1⟩ (by (first | lia | omega)) (by simp) (by intro j; simp [C_l_heap_by_2, szs])
  obtain ⟨o, o1, o2, o3⟩ := comp_things (keep := keep) C (n := n) (xs := xs) Z (el := C_l_heap_by_3) (ρ := [some (.arg (scr xs)), some (.own [.int s0, .int s1, .int s2]), e, some (.dat (.tup y)), none, none, none, none, none, none, none]) (m := s1) (off := 10000) (it := .idx (.v 1) (.k (.int 1))) ⟨Z.b0, Z.b1⟩ (by (first | lia | omega)) (by simp) (by intro j; simp [C_l_heap_by_3, szs])
  obtain ⟨r, r1, r2, r3⟩ := comp_values (keep := keep) C (n := n + 1) (xs := xs) Z (el := C_l_heap_by_4) (ρ := [some (.arg (scr xs)), some (.own [.int s0, .int s1, .int s2]), e, some (.dat (.tup y)), some (.dat (.tup o)), none, none, none, none, none, none]) (m := s2) (off := 20000) (it := .idx (.v 1) (.k (.int 2))) ⟨Z.c0, Z.c1⟩ (by (first | lia | omega)) (by simp) (by intro j; simp [C_l_heap_by_4, szs])
  have yl : (y.length : Int) = s0 := by rw [y2]; exact Int.toNat_of_nonneg Z.a0
  have ol : (o.length : Int) = s1 := by rw [o2]; exact Int.toNat_of_nonneg Z.b0
  have rl : (r.length : Int) = s2 := by rw [r2]; exact Int.toNat_of_nonneg Z.c0
  have a0 := Z.a1; have b0 := Z.b1; have d0 := Z.c1
  have yp := okTs.tup y3
  have op := okTs.tup o3
  have rp := okVs.tup r3
  have start : ∀ b : Ss, exs (run keep P (n + 3)) [some (.arg (scr xs)), none, none, none, none, none, none, none, none, none, none] (.cons (.ownD 1 (.cons (.bin .mod (.call 0 (.cons (.v 0) (.cons (.k (.int (0))) .nil))) (.k (.int (6)))) (.cons (.bin .mod (.call 0 (.cons (.v 0) (.cons (.k (.int (1))) .nil))) (.k (.int (6)))) (.cons (.bin .mod (.call 0 (.cons (.v 0) (.cons (.k (.int (2))) .nil))) (.k (.int (5)))) .nil)))) (.cons (.for1 2 (.range (.k (.int 3))) B_l_heap_by_1) b)) =
      exs (run keep P (n + 3)) [some (.arg (scr xs)), some (.own [.int s0, .int s1, .int s2]), e, none, none, none, none, none, none, none, none] b := by
    intro b
    rw [exs_cons]
    simp only [ex_ownD, evs_cons, evs_nil, ev_bin, ev_call, ev_v, ev_k, get_0, Option.map_some, valq_a, k_some, Option.bind_some, c0, c1, c2, okR_ok, b_mod]
    simp only [Int.reduceLT, if_true, k_some, ownR_some]
    rw [if_pos (show D.pures [D.int _, D.int _, D.int _] = true from rfl), seqR_next]
    simp only [List.set_cons_succ, List.set_cons_zero]
    rw [exs_cons, ex_for_range (m := 3) (by simp) (by (first | lia | omega)) (by (first | lia | omega)), l1, seqR_next]
  have book : ∀ o' : List D, (∀ t ∈ o', okTm 100 (inB s0 s1) t) → o'.length ≤ 70 → run keep P (n + 3) 4 [.tup o'] = some (.ok (.tup (bookOf o'))) := fun o' h1 h2 => r_lbook_of (keep := keep) C (n := n + 2) (b := inB s0 s1) (fun t ht => (h1 t ht).le (by (first | lia | omega))) (by (first | lia | omega))
  have hcond : ev (run keep P (n + 3)) [some (.arg (scr xs)), some (.own [.int s0, .int s1, .int s2]), e, some (.dat (.tup y)), some (.dat (.tup o)), some (.dat (.tup r)), none, none, none, none, none] (.or (.cmp .eq (.bin .mod (.bin .div (.call 0 (.cons (.v 0) (.cons (.k (.int (2))) .nil))) (.k (.int (2556)))) (.k (.int (8)))) (.k (.int (1)))) (.cmp .eq (.bin .mod (.call 0 (.cons (.v 0) (.cons (.k (.int (2))) .nil))) (.k (.int (11)))) (.k (.int (3))))) =
      some (.bool (decide (cellAt xs 2 / 2556 % 8 = 1 ∨ cellAt xs 2 % 11 = 3))) := by
    by_cases h1 : cellAt xs 2 / 2556 % 8 = 1 <;> by_cases h2 : cellAt xs 2 % 11 = 3 <;> simp [c2, h1, h2]
  unfold F_l_heap_by
  rw [start]
  rw [exs_cons, ex_asg, ev_toTup, y1, t_lst, asgR_some, if_pos yp, seqR_next]
  simp only [List.set_cons_succ, List.set_cons_zero]
  rw [exs_cons, ex_asg, ev_toTup, o1, t_lst, asgR_some, if_pos op, seqR_next]
  simp only [List.set_cons_succ, List.set_cons_zero]
  rw [exs_cons, ex_asg, ev_toTup, r1, t_lst, asgR_some, if_pos rp, seqR_next]
  simp only [List.set_cons_succ, List.set_cons_zero]
  rw [exs_cons, ex_iff, hcond, ifS_bool]
  by_cases hc : cellAt xs 2 / 2556 % 8 = 1 ∨ cellAt xs 2 % 11 = 3
  · rw [if_pos (by simpa using hc)]
    obtain ⟨y', e1, e2, e3⟩ := r_chained (keep := keep) C (n := n + 1) (s0 := s0) (s1 := s1) (s2 := s2) (w := wY) (.inl rfl) y3 (by (first | lia | omega))
    obtain ⟨o', f1, f2, f3⟩ := r_chained (keep := keep) C (n := n + 1) (s0 := s0) (s1 := s1) (s2 := s2) (w := wO) (.inr rfl) o3 (by (first | lia | omega))
    have e1' : run keep P (n + 3) 6 [.tup y, .str (Str.ofString "young"), .lst [.int s0, .int s1, .int s2]] = some (.ok (.tup y')) := e1
    have f1' : run keep P (n + 3) 6 [.tup o, .str (Str.ofString "old"), .lst [.int s0, .int s1, .int s2]] = some (.ok (.tup o')) := f1
    have yp' := okTs.tup e3
    have op' := okTs.tup f3
    have bk := book o' f3 (by (first | lia | omega))
    by_cases hs : 0 < s0
    · have hr : ∀ v ∈ D.tup [.str wY, .int 0] :: r.drop 1, okV (inB s0 s1) v := fun v hv => by
        rcases List.mem_cons.mp hv with rfl | hv
        · exact .inr (.inr ⟨wY, 0, .inl rfl, ⟨by (first | lia | omega), by rw [if_pos rfl]; exact hs⟩, rfl⟩)
        · exact r3 v (List.mem_of_mem_drop hv)
      have hrp : D.pure (.tup (D.tup [.str (Str.ofString "young"), .int 0] :: r.drop 1)) = true := okVs.tup hr
      have hlim : 1 + (r.length - 1) ≤ lim := by rw [lim_n]; (first | lia | omega)
      refine ⟨y', o', D.tup [.str wY, .int 0] :: r.drop 1, ?_, ⟨by (first | lia | omega), by (first | lia | omega), by simp; (first | lia | omega), fun t ht => ?_, fun t ht => ?_, fun t ht => ?_⟩⟩
      · rw [List.drop_one] at hrp
        simp [e1', f1', yp', op', hs, bk, hrp, hlim]
      · rw [e2, f2, yl, ol]; exact e3 t ht
      · rw [e2, f2, yl, ol]; exact f3 t ht
      · rw [e2, f2, yl, ol]; exact hr t ht
    · refine ⟨y', o', r, ?_, ⟨by (first | lia | omega), by (first | lia | omega), by (first | lia | omega), fun t ht => ?_, fun t ht => ?_, fun t ht => ?_⟩⟩
      · simp [e1', f1', yp', op', hs, bk]
      · rw [e2, f2, yl, ol]; exact e3 t ht
      · rw [e2, f2, yl, ol]; exact f3 t ht
      · rw [e2, f2, yl, ol]; exact r3 t ht
  · rw [if_neg (by simpa using hc)]
    have bk := book o (fun t ht => (o3 t ht).le (by (first | lia | omega))) (by (first | lia | omega))
    refine ⟨y, o, r, ?_, ⟨by (first | lia | omega), by (first | lia | omega), by (first | lia | omega), fun t ht => ?_, fun t ht => ?_, fun t ht => ?_⟩⟩
    · simp [bk]
    · rw [yl, ol]; exact (y3 t ht).le (by (first | lia | omega))
    · rw [yl, ol]; exact (o3 t ht).le (by (first | lia | omega))
    · rw [yl, ol]; exact r3 t ht
end
end Mine

namespace Mine
open PySem

noncomputable def heapD (y o r bk : List D) : D := .tup [.tup y, .tup o, .tup r, .tup bk]
noncomputable def halfOf (y o : List D) (s : Str) : List D := if s == wY then y else o
/-- does a pointer lead -/
noncomputable def lead (y o : List D) : D → Bool
  | .tup [.str s, .int i] => decide (0 ≤ i) && decide (i < (halfOf y o s).length)
  | _ => true
theorem lead_pt (y o : List D) (s : Str) (i : Int) : lead y o (.tup [.str s, .int i]) = (decide (0 ≤ i) && decide (i < (halfOf y o s).length)) := (rfl)
section
variable {keep : Bool} {P : Prg} (C : Common P) {n : Nat}

theorem rho_is_pointer (a : D) : rho0 F_is_pointer.names F_is_pointer.ps [a] = [some (.arg a), none, none] := by kernel_rfl
include C in
theorem r_is_pointer (v : D) : run keep P (n + 1) 8 [v] = some (.ok (.bool (evIsi .tuple v))) := by
  rw [run_at C.c8, fnRun_eq rfl, rho_is_pointer]
  simp [F_is_pointer]
theorem rho_half_of (a b : D) : rho0 F_half_of.names F_half_of.ps [a, b] = [some (.arg a), some (.arg b)] := by kernel_rfl
include C in
theorem r_half_of {y o r bk : List D} {s : Str} {q : List D} : run keep P (n + 1) 9 [heapD y o r bk, .tup (.str s :: q)] = some (.ok (.tup (halfOf y o s))) := by
  rw [run_at C.c9, fnRun_eq rfl, rho_half_of]
  by_cases h : (s == wY) = true <;> simp [F_half_of, heapD, halfOf, h]

theorem rho_leads (a b : D) : rho0 F_leads.names F_leads.ps [a, b] = [some (.arg a), some (.arg b), none, none] := by kernel_rfl
include C in
theorem r_leads {y o r bk : List D} {s : Str} {i : Int} : run keep P (n + 2) 10 [heapD y o r bk, .tup [.str s, .int i]] = some (.ok (.bool (lead y o (.tup [.str s, .int i])))) := by
  rw [run_at C.c10, fnRun_eq rfl, rho_leads]
  have h := r_half_of (keep := keep) C (n := n) (y := y) (o := o) (r := r) (bk := bk) (s := s) (q := [.int i])
  by_cases h0 : 0 ≤ i <;> simp [F_leads, h, lead_pt, h0]

end
end Mine

namespace Mine
open PySem
noncomputable def F_thing_at : Fn := ⟨[(Str.ofString "heap"), (Str.ofString "pointer")], [((Str.ofString "heap"), .local), ((Str.ofString "pointer"), .local), ((Str.ofString "is_pointer"), .globalImplicit), ((Str.ofString "leads"), .globalImplicit), ((Str.ofString "NoThing"), .globalImplicit), ((Str.ofString "half_of"), .globalImplicit)],
 (.cons (.iff (.or (.not (.call 8 (.cons (.v 1) .nil))) (.not (.call 10 (.cons (.v 0) (.cons (.v 1) .nil)))))
 (.cons (.rais 0)
 .nil)
 .nil)
 (.cons (.ret (.idx (.call 9 (.cons (.v 0) (.cons (.v 1) .nil))) (.idx (.v 1) (.k (.int (1))))))
 .nil))⟩

noncomputable def F_l_whole : Fn := ⟨[(Str.ofString "_law_found")], [((Str.ofString "_law_found"), .local), ((Str.ofString "isinstance"), .globalImplicit), ((Str.ofString "int"), .globalImplicit), ((Str.ofString "bool"), .globalImplicit)],
 (.cons (.ret (.and (.isi (.v 0) .int) (.not (.isi (.v 0) .bool))))
 .nil)⟩

noncomputable def F_l_fields : Fn := ⟨[(Str.ofString "_law_heap"), (Str.ofString "_law_pointer")], [((Str.ofString "_law_heap"), .local), ((Str.ofString "_law_pointer"), .local)],
 (.cons (.iff (.cmp .eq (.idx (.v 1) (.k (.int (0)))) (.k (.str (Str.ofString "young"))))
 (.cons (.ret (.idx (.idx (.idx (.v 0) (.k (.int (0)))) (.idx (.v 1) (.k (.int (1))))) (.k (.int (1)))))
 .nil)
 .nil)
 (.cons (.ret (.idx (.idx (.idx (.v 0) (.k (.int (1)))) (.idx (.v 1) (.k (.int (1))))) (.k (.int (1)))))
 .nil))⟩

noncomputable def B_l_places_1 : Ss :=
 (.cons (.iff (.or (.not (.call 12 (.cons (.idx (.v 0) (.v 2)) .nil))) (.cmp .ne (.idx (.v 0) (.v 2)) (.idx (.v 1) (.v 2))))
 (.cons (.ret (.k (.bool false)))
 .nil)
 .nil)
 .nil)
noncomputable def F_l_places : Fn := ⟨[(Str.ofString "_law_found"), (Str.ofString "_law_due")], [((Str.ofString "_law_found"), .local), ((Str.ofString "_law_due"), .local), ((Str.ofString "_law_k"), .local), ((Str.ofString "isinstance"), .globalImplicit), ((Str.ofString "tuple"), .globalImplicit), ((Str.ofString "len"), .globalImplicit), ((Str.ofString "range"), .globalImplicit), ((Str.ofString "_law_whole"), .globalImplicit)],
 (.cons (.iff (.or (.not (.isi (.v 0) .tuple)) (.cmp .ne (.len (.v 0)) (.len (.v 1))))
 (.cons (.ret (.k (.bool false)))
 .nil)
 .nil)
 (.cons (.for1 2 (.range (.len (.v 1))) B_l_places_1)
 (.cons (.ret (.k (.bool true)))
 .nil)))⟩

noncomputable def B_l_met_1 : Ss :=
 (.cons (.iff (.and (.isi (.v 6) .tuple) (.and (.inD true (.v 6) 3) (.or (.not (.v 2)) (.cmp .eq (.idx (.v 6) (.k (.int (0)))) (.k (.str (Str.ofString "young")))))))
 (.cons (.setd 3 (.v 6) (.k (.bool true)))
 (.cons (.app 4 (.v 6))
 .nil))
 .nil)
 .nil)
noncomputable def B_l_met_2 : Ss :=
 (.cons (.iff (.cmp .ge (.v 5) (.k (.int (0))))
 (.cons (.callS (.var 1) 13 (.cons (.v 0) (.cons (.idx (.v 4) (.v 5)) .nil)))
 .nil)
 .nil)
 (.cons (.forV 6 1 B_l_met_1)
 (.cons (.asg 5 (.bin .add (.v 5) (.k (.int (1)))))
 .nil)))
noncomputable def F_l_met : Fn := ⟨[(Str.ofString "_law_heap"), (Str.ofString "_law_row"), (Str.ofString "_law_young")], [((Str.ofString "_law_heap"), .local), ((Str.ofString "_law_row"), .local), ((Str.ofString "_law_young"), .local), ((Str.ofString "_law_seen"), .local), ((Str.ofString "_law_todo"), .local), ((Str.ofString "_law_at"), .local), ((Str.ofString "_law_value"), .local), ((Str.ofString "len"), .globalImplicit), ((Str.ofString "_law_fields"), .globalImplicit), ((Str.ofString "isinstance"), .globalImplicit), ((Str.ofString "tuple"), .globalImplicit)],
 (.cons (.newD 3)
 (.cons (.ownD 4 .nil)
 (.cons (.asg 5 (.neg (.k (.int (1)))))
 (.cons (.whl (.cmp .lt (.v 5) (.len (.v 4))) B_l_met_2)
 (.cons (.retD 3)
 .nil)))))⟩

noncomputable def B_begun_1 : Ss :=
 (.cons (.app 5 (.idx (.idx (.idx (.v 2) (.v 6)) (.k (.int (1)))) (.v 7)))
 .nil)
noncomputable def C_begun_2 : E :=
 (.idx (.v 9) (.k (.int (1))))
noncomputable def F_begun : Fn := ⟨[(Str.ofString "heap")], [((Str.ofString "heap"), .local), ((Str.ofString "young"), .local), ((Str.ofString "old"), .local), ((Str.ofString "roots"), .local), ((Str.ofString "book"), .local), ((Str.ofString "some"), .local), ((Str.ofString "place"), .local), ((Str.ofString "k"), .local), ((Str.ofString "list"), .globalImplicit)],
 (.cons (.unp [1, 2, 3, 4] (.v 0))
 (.cons (.ownL 5 (.v 3))
 (.cons (.forU [6, 7] 4 B_begun_1)
 (.cons (.retC (.comp C_begun_2 (.seq (.v 5)) (.and (.call 8 (.cons (.v 9) .nil)) (.cmp .eq (.idx (.v 9) (.k (.int (0)))) (.k (.str (Str.ofString "young")))))))
 .nil))))⟩

noncomputable def B_come_young_1 : Ss :=
 (.cons (.iff (.and (.call 8 (.cons (.v 5) .nil)) (.and (.cmp .eq (.idx (.v 5) (.k (.int (0)))) (.k (.str (Str.ofString "young")))) (.inD true (.idx (.v 5) (.k (.int (1)))) 3)))
 (.cons (.app 2 (.idx (.v 5) (.k (.int (1)))))
 .nil)
 .nil)
 .nil)
noncomputable def B_come_young_2 : Ss :=
 (.cons (.pop 4 2)
 (.cons (.iff (.inD false (.v 4) 3)
 (.cons .cont
 .nil)
 .nil)
 (.cons (.setd 3 (.v 4) (.k (.bool true)))
 (.cons (.for1 5 (.seq (.idx (.idx (.v 1) (.v 4)) (.k (.int (1))))) B_come_young_1)
 .nil))))
noncomputable def F_come_young : Fn := ⟨[(Str.ofString "heap")], [((Str.ofString "heap"), .local), ((Str.ofString "young"), .local), ((Str.ofString "waiting"), .local), ((Str.ofString "come"), .local), ((Str.ofString "place"), .local), ((Str.ofString "value"), .local), ((Str.ofString "begun"), .globalImplicit), ((Str.ofString "len"), .globalImplicit), ((Str.ofString "is_pointer"), .globalImplicit), ((Str.ofString "tuple"), .globalImplicit), ((Str.ofString "sorted"), .globalImplicit)],
 (.cons (.asg 1 (.idx (.v 0) (.k (.int (0)))))
 (.cons (.callS (.var 2) 16 (.cons (.v 0) .nil))
 (.cons (.newD 3)
 (.cons (.whl (.cmp .gt (.len (.v 2)) (.k (.int (0)))) B_come_young_2)
 (.cons (.ret (.toTup (.srtK 3)))
 .nil)))))⟩

noncomputable def C_come_both_1 : E :=
 (.v 12)
noncomputable def B_come_both_2 : Ss :=
 (.cons (.iff (.and (.call 8 (.cons (.v 1) .nil)) (.inD true (.v 1) 3))
 (.cons (.app 2 (.v 1))
 .nil)
 .nil)
 .nil)
noncomputable def B_come_both_3 : Ss :=
 (.cons (.pop 4 2)
 (.cons (.iff (.inD false (.v 4) 3)
 (.cons .cont
 .nil)
 .nil)
 (.cons (.setd 3 (.v 4) (.k (.bool true)))
 (.cons (.for1 1 (.seq (.idx (.call 11 (.cons (.v 0) (.cons (.v 4) .nil))) (.k (.int (1))))) B_come_both_2)
 .nil))))
noncomputable def C_come_both_4 : E :=
 (.idx (.v 12) (.k (.int (1))))
noncomputable def C_come_both_5 : E :=
 (.idx (.v 12) (.k (.int (1))))
noncomputable def F_come_both : Fn := ⟨[(Str.ofString "heap")], [((Str.ofString "heap"), .local), ((Str.ofString "value"), .local), ((Str.ofString "waiting"), .local), ((Str.ofString "come"), .local), ((Str.ofString "pointer"), .local), ((Str.ofString "young"), .local), ((Str.ofString "old"), .local), ((Str.ofString "len"), .globalImplicit), ((Str.ofString "thing_at"), .globalImplicit), ((Str.ofString "is_pointer"), .globalImplicit), ((Str.ofString "sorted"), .globalImplicit), ((Str.ofString "tuple"), .globalImplicit)],
 (.cons (.ownC 2 (.comp C_come_both_1 (.seq (.idx (.v 0) (.k (.int (2))))) (.call 8 (.cons (.v 12) .nil))))
 (.cons (.newD 3)
 (.cons (.whl (.cmp .gt (.len (.v 2)) (.k (.int (0)))) B_come_both_3)
 (.cons (.ownS 5 (.srtL (.comp C_come_both_4 (.keys 3) (.cmp .eq (.idx (.v 12) (.k (.int (0)))) (.k (.str (Str.ofString "young")))))))
 (.cons (.ownS 6 (.srtL (.comp C_come_both_5 (.keys 3) (.cmp .eq (.idx (.v 12) (.k (.int (0)))) (.k (.str (Str.ofString "old")))))))
 (.cons (.ret (.tup (.cons (.toTup (.v 5)) (.cons (.toTup (.v 6)) .nil))))
 .nil))))))⟩

noncomputable def C_l_long_chain_1 : E :=
 (.tup (.cons (.k (.int (0))) (.cons (.tup (.cons (.tup (.cons (.k (.str (Str.ofString "young"))) (.cons (.bin .add (.v 13) (.k (.int (1)))) .nil))) .nil)) .nil)))
noncomputable def F_l_long_chain : Fn := ⟨[(Str.ofString "_law_many")], [((Str.ofString "_law_many"), .local), ((Str.ofString "_law_young"), .local), ((Str.ofString "_law_heap"), .local), ((Str.ofString "_law_due"), .local), ((Str.ofString "_law_found"), .local), ((Str.ofString "tuple"), .globalImplicit), ((Str.ofString "range"), .globalImplicit), ((Str.ofString "list"), .globalImplicit), ((Str.ofString "come_both"), .globalImplicit), ((Str.ofString "isinstance"), .globalImplicit), ((Str.ofString "len"), .globalImplicit), ((Str.ofString "_law_places"), .globalImplicit), ((Str.ofString "come_young"), .globalImplicit)],
 (.cons (.asg 1 (.toTup (.bin .add (.comp C_l_long_chain_1 (.range (.bin .sub (.v 0) (.k (.int (1))))) (.k (.bool true))) (.lst (.cons (.tup (.cons (.k (.int (0))) (.cons (.tup (.cons (.k .none) .nil)) .nil))) .nil)))))
 (.cons (.asg 2 (.tup (.cons (.v 1) (.cons (.tup .nil) (.cons (.tup (.cons (.k .none) (.cons (.tup (.cons (.k (.str (Str.ofString "young"))) (.cons (.k (.int (0))) .nil))) .nil))) (.cons (.tup .nil) .nil))))))
 (.cons (.ownR 3 (.v 0))
 (.cons (.callS (.var 4) 18 (.cons (.v 2) .nil))
 (.cons (.iff (.or (.not (.isi (.v 4) .tuple)) (.cmp .ne (.len (.v 4)) (.k (.int (2)))))
 (.cons (.ret (.k (.bool false)))
 .nil)
 .nil)
 (.cons (.iff (.or (.not (.call 14 (.cons (.idx (.v 4) (.k (.int (0)))) (.cons (.v 3) .nil)))) (.not (.call 14 (.cons (.idx (.v 4) (.k (.int (1)))) (.cons (.lst .nil) .nil)))))
 (.cons (.ret (.k (.bool false)))
 .nil)
 .nil)
 (.cons (.ret (.call 14 (.cons (.call 17 (.cons (.v 2) .nil)) (.cons (.v 3) .nil))))
 .nil)))))))⟩

noncomputable def B_law_1 : Ss :=
 (.cons (.app 2 (.idx (.idx (.idx (.idx (.v 1) (.k (.int (1)))) (.idx (.v 3) (.k (.int (0))))) (.k (.int (1)))) (.idx (.v 3) (.k (.int (1))))))
 .nil)
noncomputable def C_law_2 : E :=
 (.v 19)
noncomputable def C_law_3 : E :=
 (.v 19)
noncomputable def C_law_4 : E :=
 (.v 19)
noncomputable def F_law : Fn := ⟨[(Str.ofString "_law_script")], [((Str.ofString "_law_script"), .local), ((Str.ofString "_law_heap"), .local), ((Str.ofString "_law_firsts"), .local), ((Str.ofString "_law_pair"), .local), ((Str.ofString "_law_near"), .cell), ((Str.ofString "_law_all_met"), .cell), ((Str.ofString "_law_found"), .local), ((Str.ofString "_law_cell_at"), .globalImplicit), ((Str.ofString "_law_long_chain"), .globalImplicit), ((Str.ofString "_law_heap_by"), .globalImplicit), ((Str.ofString "list"), .globalImplicit), ((Str.ofString "_law_met"), .globalImplicit), ((Str.ofString "_law_places"), .globalImplicit), ((Str.ofString "come_young"), .globalImplicit), ((Str.ofString "range"), .globalImplicit), ((Str.ofString "len"), .globalImplicit), ((Str.ofString "come_both"), .globalImplicit), ((Str.ofString "isinstance"), .globalImplicit), ((Str.ofString "tuple"), .globalImplicit)],
 (.cons (.iff (.cmp .eq (.bin .mod (.call 0 (.cons (.v 0) (.cons (.k (.int (3))) .nil))) (.k (.int (32)))) (.k (.int (7))))
 (.cons (.ret (.call 19 (.cons (.bin .add (.k (.int (1000))) (.bin .mod (.call 0 (.cons (.v 0) (.cons (.k (.int (4))) .nil))) (.k (.int (200))))) .nil)))
 .nil)
 .nil)
 (.cons (.callS (.var 1) 7 (.cons (.v 0) .nil))
 (.cons (.ownL 2 (.idx (.v 1) (.k (.int (2)))))
 (.cons (.for1 3 (.seq (.idx (.v 1) (.k (.int (3))))) B_law_1)
 (.cons (.callS (.var 4) 15 (.cons (.v 1) (.cons (.v 2) (.cons (.k (.bool true)) .nil))))
 (.cons (.iff (.not (.call 14 (.cons (.call 17 (.cons (.v 1) .nil)) (.cons (.comp C_law_2 (.range (.len (.idx (.v 1) (.k (.int (0)))))) (.inD false (.tup (.cons (.k (.str (Str.ofString "young"))) (.cons (.v 19) .nil))) 4)) .nil))))
 (.cons (.ret (.k (.bool false)))
 .nil)
 .nil)
 (.cons (.callS (.var 5) 15 (.cons (.v 1) (.cons (.idx (.v 1) (.k (.int (2)))) (.cons (.k (.bool false)) .nil))))
 (.cons (.callS (.var 6) 18 (.cons (.v 1) .nil))
 (.cons (.iff (.or (.not (.isi (.v 6) .tuple)) (.cmp .ne (.len (.v 6)) (.k (.int (2)))))
 (.cons (.ret (.k (.bool false)))
 .nil)
 .nil)
 (.cons (.iff (.not (.call 14 (.cons (.idx (.v 6) (.k (.int (0)))) (.cons (.comp C_law_3 (.range (.len (.idx (.v 1) (.k (.int (0)))))) (.inD false (.tup (.cons (.k (.str (Str.ofString "young"))) (.cons (.v 19) .nil))) 5)) .nil))))
 (.cons (.ret (.k (.bool false)))
 .nil)
 .nil)
 (.cons (.ret (.call 14 (.cons (.idx (.v 6) (.k (.int (1)))) (.cons (.comp C_law_4 (.range (.len (.idx (.v 1) (.k (.int (1)))))) (.inD false (.tup (.cons (.k (.str (Str.ofString "old"))) (.cons (.v 19) .nil))) 5)) .nil))))
 .nil)))))))))))⟩

noncomputable def fns06 : List Str := ["_law_cell_at", "_law_mixed", "_law_value_by", "_law_thing_by", "_law_book_of", "_law_next", "_law_chained", "_law_heap_by", "is_pointer", "half_of", "leads", "thing_at", "_law_whole", "_law_fields", "_law_places", "_law_met", "begun", "come_young", "come_both", "_law_long_chain", "law"]
noncomputable def P06 : Prg := [F_l_cell_at, F_l_mixed, F_l_value_by, F_l_thing_by, F_l_book_of, F_l_next, F_l_chained, F_l_heap_by, F_is_pointer, F_half_of, F_leads, F_thing_at, F_l_whole, F_l_fields, F_l_places, F_l_met, F_begun, F_come_young, F_come_both, F_l_long_chain, F_law]
theorem com06 : Common P06 := ⟨rfl, rfl, rfl, rfl, rfl, rfl, rfl, rfl, rfl, rfl, rfl⟩
end Mine

namespace Mine

/-! going through a graph, in two ways -/
section
variable {α : Type} [DecidableEq α] (succ : α → List α)
/-- those that are not there yet -/
noncomputable def lessK (l K : List α) : List α := l.filter fun q => decide (q ∉ K)
noncomputable def dfs : Nat → List α → List α → Option (List α)
  | 0, _, _ => none
  | n + 1, W, K => (W.getLast?).elim (some K) fun p => if p ∈ K then dfs n W.dropLast K else dfs n (W.dropLast ++ lessK (succ p) (K ++ [p])) (K ++ [p])
noncomputable def addAll : List α → List α → List α
  | K, [] => K
  | K, q :: r => if q ∈ K then addAll K r else addAll (K ++ [q]) r
noncomputable def bfs : Nat → Nat → List α → Option (List α)
  | 0, _, _ => none
  | n + 1, i, K => (K[i]?).elim (some K) fun p => bfs n (i + 1) (addAll K (succ p))
theorem addAll_nil (K : List α) : addAll K [] = K := (rfl)
theorem addAll_cons (q : α) (r K : List α) : addAll K (q :: r) = if q ∈ K then addAll K r else addAll (K ++ [q]) r := (rfl)
theorem dfs_succ (n : Nat) (W K : List α) : dfs succ (n + 1) W K = (W.getLast?).elim (some K) fun p => if p ∈ K then dfs succ n W.dropLast K else dfs succ n (W.dropLast ++ lessK (succ p) (K ++ [p])) (K ++ [p]) := (rfl)
theorem bfs_succ (n i : Nat) (K : List α) : bfs succ (n + 1) i K = (K[i]?).elim (some K) fun p => bfs succ n (i + 1) (addAll K (succ p)) := (rfl)
structure Clo (S : List α) (C : α → Prop) : Prop where
  start : ∀ p ∈ S, C p
  step : ∀ p, C p → ∀ q ∈ succ p, C q
structure Least (S K : List α) : Prop where
  nodup : K.Nodup
  clo : Clo succ S (· ∈ K)
  least : ∀ C, Clo succ S C → ∀ p ∈ K, C p
variable {succ}
theorem Least.same {S K K' : List α} (a : Least succ S K) (b : Least succ S K') (p : α) : p ∈ K ↔ p ∈ K' := ⟨a.least _ b.clo p, b.least _ a.clo p⟩

theorem lessK_len (l K : List α) : (lessK l K).length ≤ l.length := List.length_filter_le _ _
theorem lessK_mem {l K : List α} {q : α} : q ∈ lessK l K ↔ q ∈ l ∧ q ∉ K := by unfold lessK; simp
theorem lessK_cons (k : α) (l K : List α) : lessK (k :: l) K = if k ∈ K then lessK l K else k :: lessK l K := by
  unfold lessK
  by_cases h : k ∈ K
  · rw [if_pos h, List.filter_cons_of_neg (by simpa using h)]
  · rw [if_neg h, List.filter_cons_of_pos (by simpa using h)]
theorem lessK_nil (K : List α) : lessK [] K = [] := rfl
theorem lessK_append (l m K : List α) : lessK (l ++ m) K = lessK l K ++ lessK m K := by unfold lessK; rw [List.filter_append]
theorem addAll_mem {q : α} : ∀ {r K : List α}, q ∈ addAll K r ↔ q ∈ K ∨ q ∈ r
  | [], K => by rw [addAll_nil]; simp
  | x :: r, K => by
    rw [addAll_cons]
    split
    · rename_i h
      rw [addAll_mem]
      simp only [List.mem_cons]
      constructor
      · rintro (h1 | h1)
        · exact .inl h1
        · exact .inr (.inr h1)
      · rintro (h1 | rfl | h1)
        · exact .inl h1
        · exact .inl h
        · exact .inr h1
    · rw [addAll_mem]
      simp only [List.mem_append, List.mem_cons, List.not_mem_nil, or_false]
      constructor
      · rintro ((h1 | h1) | h1)
        · exact .inl h1
        · exact .inr (.inl h1)
        · exact .inr (.inr h1)
      · rintro (h1 | h1 | h1)
        · exact .inl (.inl h1)
        · exact .inl (.inr h1)
        · exact .inr h1
theorem addAll_nodup : ∀ {r K : List α}, K.Nodup → (addAll K r).Nodup
  | [], K, h => h
  | x :: r, K, h => by
    rw [addAll_cons]
    split
    · exact addAll_nodup h
    · rename_i hx
      refine addAll_nodup (List.nodup_append.mpr ⟨h, by simp, ?_⟩)
      intro a ha b hb
      rw [List.mem_singleton.mp hb]
      rintro rfl; exact hx ha
theorem addAll_pre : ∀ (r K : List α), ∃ t, addAll K r = K ++ t
  | [], K => ⟨[], (List.append_nil K).symm⟩
  | x :: r, K => by
    rw [addAll_cons]
    split
    · exact addAll_pre r K
    · obtain ⟨t, e⟩ := addAll_pre r (K ++ [x])
      exact ⟨x :: t, by rw [e]; simp⟩

/-- all that is met is one of N things -/
structure Fin1 (succ : α → List α) (ok : α → Prop) (N b : Nat) : Prop where
  succ_ok : ∀ p, ok p → ∀ q ∈ succ p, ok q
  few : ∀ K : List α, K.Nodup → (∀ p ∈ K, ok p) → K.length ≤ N
  deg : ∀ p, ok p → (succ p).length ≤ b

theorem nodup_snoc {K : List α} {p : α} (h : K.Nodup) (hp : p ∉ K) : (K ++ [p]).Nodup := by
  refine List.nodup_append.mpr ⟨h, by simp, ?_⟩
  intro a ha b hb
  rw [List.mem_singleton.mp hb]
  rintro rfl; exact hp ha

theorem dfs_least {ok : α → Prop} {N b : Nat} (F : Fin1 succ ok N b) {S : List α} : ∀ (n : Nat) (W K : List α), W.length + (b + 1) * (N - K.length) < n → K.Nodup → (∀ p ∈ K, ok p) → (∀ p ∈ W, ok p) → (∀ p ∈ S, p ∈ K ∨ p ∈ W) → (∀ p ∈ K, ∀ q ∈ succ p, q ∈ K ∨ q ∈ W) → (∀ C, Clo succ S C → (∀ p ∈ K, C p) ∧ ∀ p ∈ W, C p) →
    ∃ K', dfs succ n W K = some K' ∧ Least succ S K' ∧ ∀ p ∈ K', ok p
  | 0, W, K, hn, _, _, _, _, _, _ => by (first | lia | omega)
  | n + 1, W, K, hn, hd, hK, hW, hS, hc, hl => by
    rw [dfs_succ]
    cases e : W.getLast? with
    | none =>
      have hw : W = [] := List.getLast?_eq_none_iff.mp e
      subst hw
      refine ⟨K, rfl, ⟨hd, ⟨fun p hp => (hS p hp).resolve_right (by simp), fun p hp q hq => (hc p hp q hq).resolve_right (by simp)⟩, fun C hC => (hl C hC).1⟩, hK⟩
    | some p =>
      have hmem : p ∈ W := List.mem_of_getLast? e
      have hsplit : W = W.dropLast ++ [p] := by
        obtain ⟨l, rfl⟩ := List.getLast?_eq_some_iff.mp e
        simp
      have hlen : W.length = W.dropLast.length + 1 := by
        have := congrArg List.length hsplit
        rw [List.length_append, List.length_singleton] at this
        exact this
      have hin : ∀ q, q ∈ W → q ∈ W.dropLast ∨ q = p := fun q hq => by
        rw [hsplit] at hq
        rcases List.mem_append.mp hq with hq | hq
        · exact .inl hq
        · exact .inr (List.mem_singleton.mp hq)
      have sub : ∀ q, q ∈ W.dropLast → q ∈ W := fun q hq => List.dropLast_subset _ hq
      rw [Option.elim_some]
      by_cases hp : p ∈ K
      · rw [if_pos hp]
        refine dfs_least F n W.dropLast K (by (first | lia | omega)) hd hK (fun q hq => hW q (sub q hq)) (fun q hq => ?_) (fun x hx q hq => ?_) fun C hC => ⟨(hl C hC).1, fun q hq => (hl C hC).2 q (sub q hq)⟩
        · rcases hS q hq with h | h
          · exact .inl h
          · rcases hin q h with h | rfl
            · exact .inr h
            · exact .inl hp
        · rcases hc x hx q hq with h | h
          · exact .inl h
          · rcases hin q h with h | rfl
            · exact .inr h
            · exact .inl hp
      · rw [if_neg hp]
        have hd' := nodup_snoc hd hp
        have hK' : ∀ q ∈ K ++ [p], ok q := fun q hq => by
          rcases List.mem_append.mp hq with hq | hq
          · exact hK q hq
          · rw [List.mem_singleton.mp hq]; exact hW p hmem
        have hf := F.few _ hd' hK'
        have hdg := F.deg p (hW p hmem)
        have hfl := lessK_len (succ p) (K ++ [p])
        rw [List.length_append, List.length_singleton] at hf
        refine dfs_least F n _ (K ++ [p]) ?_ hd' hK' (fun q hq => ?_) (fun q hq => ?_) (fun x hx q hq => ?_) fun C hC => ⟨fun q hq => ?_, fun q hq => ?_⟩
        · rw [List.length_append, List.length_append, List.length_singleton]
          have e1 : N - K.length = (N - (K.length + 1)) + 1 := by (first | lia | omega)
          rw [e1, Nat.mul_add] at hn
          (first | lia | omega)
        · rcases List.mem_append.mp hq with hq | hq
          · exact hW q (sub q hq)
          · exact F.succ_ok p (hW p hmem) q (lessK_mem.mp hq).1
        · rcases hS q hq with h | h
          · exact .inl (List.mem_append_left _ h)
          · rcases hin q h with h | rfl
            · exact .inr (List.mem_append_left _ h)
            · exact .inl (by simp)
        · have key : ∀ z, z ∈ succ p → z ∈ K ++ [p] ∨ z ∈ W.dropLast ++ lessK (succ p) (K ++ [p]) := fun z hz => by
            by_cases h : z ∈ K ++ [p]
            · exact .inl h
            · exact .inr (List.mem_append_right _ (lessK_mem.mpr ⟨hz, h⟩))
          rcases List.mem_append.mp hx with hx | hx
          · rcases hc x hx q hq with h | h
            · exact .inl (List.mem_append_left _ h)
            · rcases hin q h with h | rfl
              · exact .inr (List.mem_append_left _ h)
              · exact .inl (by simp)
          · rw [List.mem_singleton.mp hx] at hq
            exact key q hq
        · rcases List.mem_append.mp hq with hq | hq
          · exact (hl C hC).1 q hq
          · rw [List.mem_singleton.mp hq]; exact (hl C hC).2 p hmem
        · rcases List.mem_append.mp hq with hq | hq
          · exact (hl C hC).2 q (sub q hq)
          · exact hC.step p ((hl C hC).2 p hmem) q (lessK_mem.mp hq).1
theorem dfs_from {ok : α → Prop} {N b : Nat} (F : Fin1 succ ok N b) {S : List α} (hS : ∀ p ∈ S, ok p) {n : Nat} (hn : S.length + (b + 1) * N < n) : ∃ K, dfs succ n S [] = some K ∧ Least succ S K ∧ ∀ p ∈ K, ok p :=
  dfs_least F n S [] (by simpa using hn) .nil (by simp) hS (fun p hp => .inr hp) (by simp) fun C hC => ⟨by simp, hC.start⟩

theorem bfs_least {ok : α → Prop} {N b : Nat} (F : Fin1 succ ok N b) {S : List α} : ∀ (n i : Nat) (K : List α), N - i < n → i ≤ K.length → K.Nodup → (∀ p ∈ K, ok p) → (∀ p ∈ S, p ∈ K) → (∀ (j : Nat) p, j < i → K[j]? = some p → ∀ q ∈ succ p, q ∈ K) → (∀ C, Clo succ S C → ∀ p ∈ K, C p) →
    ∃ K', bfs succ n i K = some K' ∧ Least succ S K' ∧ ∀ p ∈ K', ok p
  | 0, i, K, hn, _, _, _, _, _, _ => by (first | lia | omega)
  | n + 1, i, K, hn, hi, hd, hK, hS, hc, hl => by
    rw [bfs_succ]
    have hf := F.few K hd hK
    cases e : K[i]? with
    | none =>
      have hi' : K.length ≤ i := List.getElem?_eq_none_iff.mp e
      refine ⟨K, rfl, ⟨hd, ⟨hS, fun p hp q hq => ?_⟩, hl⟩, hK⟩
      obtain ⟨j, hj⟩ := List.getElem?_of_mem hp
      exact hc j p (by have := (List.getElem?_eq_some_iff.mp hj).1; (first | lia | omega)) hj q hq
    | some p =>
      have hlt := (List.getElem?_eq_some_iff.mp e).1
      have hp : p ∈ K := List.mem_of_getElem? e
      obtain ⟨t, et⟩ := addAll_pre (succ p) K
      rw [Option.elim_some]
      refine bfs_least F n (i + 1) _ (by (first | lia | omega)) (by rw [et, List.length_append]; (first | lia | omega)) (addAll_nodup hd) (fun q hq => ?_) (fun q hq => addAll_mem.mpr (.inl (hS q hq))) (fun j x hj hx q hq => ?_) fun C hC q hq => ?_
      · rcases addAll_mem.mp hq with h | h
        · exact hK q h
        · exact F.succ_ok p (hK p hp) q h
      · rw [et, List.getElem?_append_left (by (first | lia | omega))] at hx
        by_cases h : j = i
        · subst h; rw [e] at hx; cases hx
          exact addAll_mem.mpr (.inr hq)
        · exact addAll_mem.mpr (.inl (hc j x (by (first | lia | omega)) hx q hq))
      · rcases addAll_mem.mp hq with h | h
        · exact hl C hC q h
        · exact hC.step p (hl C hC p hp) q h
theorem bfs_from {ok : α → Prop} {N b : Nat} (F : Fin1 succ ok N b) {S : List α} (hS : ∀ p ∈ S, ok p) {n : Nat} (hn : N < n) : ∃ K, bfs succ n 0 (addAll [] S) = some K ∧ Least succ S K ∧ ∀ p ∈ K, ok p :=
  bfs_least F n 0 _ (by (first | lia | omega)) (by (first | lia | omega)) (addAll_nodup .nil) (fun p hp => by
    rcases addAll_mem.mp hp with h | h
    · simp at h
    · exact hS p h) (fun p hp => addAll_mem.mpr (.inr hp)) (fun j p hj => by (first | lia | omega)) fun C hC p hp => by
    rcases addAll_mem.mp hp with h | h
    · simp at h
    · exact hC.start p h
end

/-- what is sorted is known by its members -/
theorem rise_unique : ∀ {a b : List Int}, a.Pairwise (· < ·) → b.Pairwise (· < ·) → (∀ x, x ∈ a ↔ x ∈ b) → a = b
  | [], [], _, _, _ => rfl
  | [], y :: b, _, _, h => by have := (h y).mpr (.head _); simp at this
  | x :: a, [], _, _, h => by have := (h x).mp (.head _); simp at this
  | x :: a, y :: b, ha, hb, h => by
    have ca := List.pairwise_cons.mp ha
    have cb := List.pairwise_cons.mp hb
    have e : x = y := by
      rcases List.mem_cons.mp ((h x).mp (.head _)) with h1 | h1
      · exact h1
      · rcases List.mem_cons.mp ((h y).mpr (.head _)) with h2 | h2
        · exact h2.symm
        · have := ca.1 y h2
          have := cb.1 x h1
          (first | lia | omega)
    subst e
    rw [rise_unique ca.2 cb.2 fun z => ?_]
    constructor
    · intro hz
      rcases List.mem_cons.mp ((h z).mp (.tail _ hz)) with rfl | h1
      · have := ca.1 z hz; (first | lia | omega)
      · exact h1
    · intro hz
      rcases List.mem_cons.mp ((h z).mpr (.tail _ hz)) with rfl | h1
      · have := cb.1 z hz; (first | lia | omega)
      · exact h1
end Mine

namespace Mine
open PySem

/-! the parts of the walk, as simp meets them -/
noncomputable def inD2 (neg : Bool) (o : Option D) (m : Option (List (Ky × D))) : Option D := o.bind fun d => (keyD d).bind fun k => m.bind fun kvs => if kindOk kvs k = true then some (.bool (if neg = true then !(lookK kvs k).isSome else (lookK kvs k).isSome)) else none
noncomputable def setd2 (ρ : Rho) (x : Nat) (e : Option D) (m : Option (List (Ky × D))) (i : Option D) : Option R := e.bind fun d => m.bind fun kvs => i.bind fun y => (keyD y).bind fun k => if kindOk kvs k = true ∧ flat d = true ∧ kvs.length < lim then some (.next (ρ.set x (some (.dic (putK kvs k d))))) else none
noncomputable def popR (ρ : Rho) (x y : Nat) (o : Option (List D)) : Option R := o.bind fun ds => ds.getLast?.map fun d => .next ((ρ.set y (some (.own ds.dropLast))).set x (some (.dat d)))
/-- the keys of a dict that is a set -/
noncomputable def kset (K : List Ky) : List (Ky × D) := K.map fun k => (k, D.bool true)
section
variable {Φ : Fns} {ρ : Rho}
@[simp] theorem ev_inD (neg : Bool) (a : E) (x : Nat) : ev Φ ρ (.inD neg a x) = inD2 neg (ev Φ ρ a) (ρ.dic? x) := (rfl)
@[simp] theorem ex_setd (x : Nat) (i e : E) : ex Φ ρ (.setd x i e) = setd2 ρ x (ev Φ ρ e) (ρ.dic? x) (ev Φ ρ i) := (rfl)
@[simp] theorem ex_newD (x : Nat) : ex Φ ρ (.newD x) = some (.next (ρ.set x (some (.dic [])))) := (rfl)
@[simp] theorem ex_pop (x y : Nat) : ex Φ ρ (.pop x y) = popR ρ x y (ρ.own? y) := (rfl)
theorem ex_whl (c : E) (b : Ss) : ex Φ ρ (.whl c b) = loopW (fun ρ => (ev Φ ρ c).bind isTrueD) (fun ρ => exs Φ ρ b) lim ρ := (rfl)
theorem loopW_turn {cond : Rho → Option Bool} {body : Rho → Option R} {f : Nat} {ρ ρ' : Rho} {r : Option R} (hc : cond ρ = some true) (hb : body ρ = some (.next ρ') ∨ body ρ = some (.cont ρ')) (h : loopW cond body f ρ' = r) : loopW cond body (f + 1) ρ = r := by
  show (cond ρ).bind _ = _
  rw [hc]
  show (body ρ).bind _ = _
  rcases hb with hb | hb <;> rw [hb] <;> exact h
theorem loopW_end {cond : Rho → Option Bool} {body : Rho → Option R} {f : Nat} {ρ : Rho} (hc : cond ρ = some false) : loopW cond body (f + 1) ρ = some (.next ρ) := by
  show (cond ρ).bind _ = _
  rw [hc]; rfl
@[simp] theorem dic_0 (kvs : List (Ky × D)) (r : Rho) : Rho.dic? (some (.dic kvs) :: r) 0 = some kvs := rfl
@[simp] theorem dic_s (o : Option Lo) (r : Rho) (i : Nat) : Rho.dic? (o :: r) (i + 1) = Rho.dic? r i := rfl

theorem look_set (k : Ky) : ∀ K : List Ky, (lookK (kset K) k).isSome = decide (k ∈ K)
  | [] => rfl
  | x :: K => by
    have ih := look_set k K
    unfold kset lookK at ih ⊢
    rw [List.map_cons, List.find?_cons]
    by_cases e : x = k
    · subst e; simp
    · rw [decide_eq_false e]
      rw [ih]
      simp [Ne.symm e, eq_comm]
theorem put_set {k : Ky} {K : List Ky} (h : k ∉ K) : putK (kset K) k (.bool true) = kset (K ++ [k]) := by
  unfold putK
  rw [look_set, if_neg (by simpa using h)]
  simp [kset]
theorem kset_len (K : List Ky) : (kset K).length = K.length := by simp [kset]
theorem kind_set {k : Ky} {K : List Ky} {b : Bool} (h : ∀ x ∈ K, x.1.isSome = b) (hk : k.1.isSome = b) : kindOk (kset K) k = true := by
  unfold kindOk kset
  rw [List.all_map, List.all_eq_true]
  intro x hx
  simp [h x hx, hk]
theorem in_set {neg : Bool} {d : D} {k : Ky} {K : List Ky} {b : Bool} (hd : keyD d = some k) (h : ∀ x ∈ K, x.1.isSome = b) (hk : k.1.isSome = b) : inD2 neg (some d) (some (kset K)) = some (.bool (if neg = true then !decide (k ∈ K) else decide (k ∈ K))) := by
  show (keyD d).bind _ = _
  rw [hd]
  show (if kindOk (kset K) k = true then some (D.bool (if neg = true then !(lookK (kset K) k).isSome else (lookK (kset K) k).isSome)) else none) = _
  rw [if_pos (kind_set h hk), look_set]
theorem setd_set {x : Nat} {d : D} {k : Ky} {K : List Ky} {b : Bool} (hd : keyD d = some k) (h : ∀ x ∈ K, x.1.isSome = b) (hk : k.1.isSome = b) (hn : k ∉ K) (hl : K.length < lim) : setd2 ρ x (some (.bool true)) (some (kset K)) (some d) = some (.next (ρ.set x (some (.dic (kset (K ++ [k])))))) := by
  show (keyD d).bind _ = _
  rw [hd]
  show (if kindOk (kset K) k = true ∧ flat (.bool true) = true ∧ (kset K).length < lim then some (R.next (ρ.set x (some (.dic (putK (kset K) k (.bool true)))))) else none) = _
  rw [if_pos ⟨kind_set h hk, rfl, by rw [kset_len]; exact hl⟩, put_set hn]
end

theorem kyD_key (k : Ky) : keyD (kyD k) = some k := by
  obtain ⟨a, i⟩ := k
  cases a <;> rfl
theorem kyD_pure (k : Ky) : (kyD k).pure = true := by
  obtain ⟨a, i⟩ := k
  cases a <;> rfl
theorem keys_pures (W : List Ky) : D.pures (W.map kyD) = true := by
  simp only [D.pures, List.all_map, List.all_eq_true]
  intro p _; exact kyD_pure p

/-! heaps -/
/-- a value as a node -/
noncomputable def ptK : D → Option Ky
  | .tup ds => match ds with
    | [.str x, .int i] => some (some x, i)
    | _ => none
  | _ => none
noncomputable def ptsK (vs : List D) : List Ky := vs.filterMap ptK
noncomputable def okK (y o : List D) (k : Ky) : Prop := ∃ s, k.1 = some s ∧ (s = wY ∨ s = wO) ∧ inB y.length o.length s k.2
noncomputable def halfK (y o : List D) (k : Ky) : List D := if k.1 = some wY then y else o
/-- a thing's fields -/
noncomputable def rowT : Option D → List D
  | some (.tup [_, .tup row]) => row
  | _ => []
theorem rowT_tup (a : D) (row : List D) : rowT (some (.tup [a, .tup row])) = row := (rfl)
noncomputable def rowK (y o : List D) (k : Ky) : List D := rowT (halfK y o k)[k.2.toNat]?

structure HG (y o r : List D) : Prop where
  yl : y.length ≤ 1200
  ol : o.length ≤ 1200
  rl : r.length ≤ 100
  ty : ∀ t ∈ y, okTm 100 (inB y.length o.length) t
  to : ∀ t ∈ o, okTm 100 (inB y.length o.length) t
  vr : ∀ v ∈ r, okV (inB y.length o.length) v

theorem okV.cases6 {y o : List D} {v : D} (h : okV (inB y.length o.length) v) : (ptK v = none ∧ evIsi .tuple v = false ∧ v.pure = true) ∨ ∃ s i, ptK v = some (some s, i) ∧ v = .tup [.str s, .int i] ∧ okK y o (some s, i) := by
  rcases h with rfl | ⟨i, rfl⟩ | ⟨s, i, h1, h2, rfl⟩
  · exact .inl ⟨rfl, rfl, rfl⟩
  · exact .inl ⟨rfl, rfl, rfl⟩
  · exact .inr ⟨s, i, rfl, rfl, s, rfl, h1, h2⟩
theorem ptsK_ok {y o vs : List D} (h : ∀ v ∈ vs, okV (inB y.length o.length) v) : ∀ k ∈ ptsK vs, okK y o k := by
  intro k hk
  obtain ⟨v, hv, e⟩ := List.mem_filterMap.mp hk
  rcases (h v hv).cases6 with ⟨q, _⟩ | ⟨s, i, q, _, w⟩
  · rw [q] at e; cases e
  · rw [q] at e; cases e; exact w
theorem HG.at {y o r : List D} (G : HG y o r) {k : Ky} (hp : okK y o k) : ∃ a row, (halfK y o k)[k.2.toNat]? = some (.tup [.int a, .tup row]) ∧ rowK y o k = row ∧ 0 ≤ k.2 ∧ k.2 < (halfK y o k).length ∧ row.length ≤ 100 ∧ ∀ v ∈ row, okV (inB y.length o.length) v := by
  obtain ⟨s, hs, hw, h0, h1⟩ := hp
  unfold rowK halfK
  rw [hs]
  by_cases e : s = wY
  · subst e
    rw [if_pos rfl] at h1 ⊢
    have hlt : k.2.toNat < y.length := by (first | lia | omega)
    obtain ⟨a, row, q1, q2, q3⟩ := G.ty y[k.2.toNat] (List.getElem_mem _)
    exact ⟨a, row, by rw [List.getElem?_eq_getElem hlt, q1], by rw [List.getElem?_eq_getElem hlt, q1]; rfl, h0, h1, q2, q3⟩
  · have e' : ¬ (some s = some wY) := fun q => e (Option.some.inj q)
    rw [if_neg e] at h1
    rw [if_neg e']
    have hlt : k.2.toNat < o.length := by (first | lia | omega)
    obtain ⟨a, row, q1, q2, q3⟩ := G.to o[k.2.toNat] (List.getElem_mem _)
    exact ⟨a, row, by rw [List.getElem?_eq_getElem hlt, q1], by rw [List.getElem?_eq_getElem hlt, q1]; rfl, h0, h1, q2, q3⟩

section
variable {keep : Bool} {P : Prg} (C : Common P) {n : Nat} {y o r bk : List D}
theorem rho_thing_at (a b : D) : rho0 F_thing_at.names F_thing_at.ps [a, b] = [some (.arg a), some (.arg b), none, none, none, none] := by kernel_rfl
include C in
theorem r_thing_at (ht : P[11]? = some F_thing_at) (G : HG y o r) {s : Str} {i : Int} (hp : okK y o (some s, i)) : ∃ a, run keep P (n + 3) 11 [heapD y o r bk, .tup [.str s, .int i]] = some (.ok (.tup [.int a, .tup (rowK y o (some s, i))])) := by
  obtain ⟨a, row, e, er, h0, h1, h2, h3⟩ := G.at hp
  refine ⟨a, ?_⟩
  rw [run_at ht, fnRun_eq rfl, rho_thing_at]
  have hh : halfOf y o s = halfK y o (some s, i) := by
    unfold halfOf halfK
    by_cases q : s = wY
    · subst q; simp
    · simp [q]
  have i1 := r_is_pointer (keep := keep) C (n := n + 1) (.tup [.str s, .int i])
  have i2 := r_leads (keep := keep) C (n := n) (y := y) (o := o) (r := r) (bk := bk) (s := s) (i := i)
  have i3 := r_half_of (keep := keep) C (n := n + 1) (y := y) (o := o) (r := r) (bk := bk) (s := s) (q := [.int i])
  have h0' : 0 ≤ i := h0
  have h1' : i < (halfK y o (some s, i)).length := h1
  have e' : (halfK y o (some s, i))[i.toNat]? = some (.tup [.int a, .tup row]) := e
  have il : lead y o (.tup [.str s, .int i]) = true := by
    simp [lead_pt, hh, h0', h1']
  rw [il] at i2
  rw [hh] at i3
  rw [er]
  simp [F_thing_at] at i1 ⊢
  simp [i1, i2, i3, h0', e']
theorem rho_fields (a b : D) : rho0 F_l_fields.names F_l_fields.ps [a, b] = [some (.arg a), some (.arg b)] := by kernel_rfl
theorem r_fields (hf : P[13]? = some F_l_fields) (G : HG y o r) {s : Str} {i : Int} (hp : okK y o (some s, i)) : run keep P (n + 1) 13 [heapD y o r bk, .tup [.str s, .int i]] = some (.ok (.tup (rowK y o (some s, i)))) := by
  obtain ⟨a, row, e, er, h0, h1, h2, h3⟩ := G.at hp
  rw [run_at hf, fnRun_eq rfl, rho_fields, er]
  have h0' : 0 ≤ i := h0
  unfold halfK at e
  by_cases q : s = wY
  · have e' : y[i.toNat]? = some (.tup [.int a, .tup row]) := by rw [if_pos (by rw [q])] at e; exact e
    simp [F_l_fields, heapD, q, e', h0']
  · have e' : o[i.toNat]? = some (.tup [.int a, .tup row]) := by rw [if_neg (fun w => q (Option.some.inj w))] at e; exact e
    simp [F_l_fields, heapD, q, e', h0']
theorem rho_whole (a : D) : rho0 F_l_whole.names F_l_whole.ps [a] = [some (.arg a), none, none, none] := by kernel_rfl
theorem r_whole (hw : P[12]? = some F_l_whole) (i : Int) : run keep P (n + 1) 12 [.int i] = some (.ok (.bool true)) := by
  rw [run_at hw, fnRun_eq rfl, rho_whole]
  simp [F_l_whole]
theorem rho_places (a b : D) : rho0 F_l_places.names F_l_places.ps [a, b] = [some (.arg a), some (.arg b), none, none, none, none, none, none] := by kernel_rfl
theorem r_places (hw : P[12]? = some F_l_whole) (hp : P[14]? = some F_l_places) {ns : List Int} (hl : ns.length ≤ 1200) : run keep P (n + 2) 14 [.tup (ns.map .int), .lst (ns.map .int)] = some (.ok (.bool true)) := by
  rw [run_at hp, fnRun_eq rfl, rho_places]
  obtain ⟨ρ', l, _, rfl⟩ := loop_inv (body := fun d ρ => exs (run keep P (n + 1)) (ρ.set 2 (some (.dat d))) B_l_places_1) (fun _ ρ => ∃ c, ρ = [some (.arg (.tup (ns.map .int))), some (.arg (.lst (ns.map .int))), c, none, none, none, none, none]) (rangeD 0 (ns.length : Int)) 0 _ ⟨none, rfl⟩ (by
    rintro j d ρ hd ⟨c, rfl⟩
    obtain ⟨rfl, hj⟩ := rangeD_some hd
    have hj' : j < ns.length := by (first | lia | omega)
    have e : ns[j]? = some ns[j] := List.getElem?_eq_getElem hj'
    have h1 := r_whole (keep := keep) (n := n) hw ns[j]
    exact ⟨_, .inl (by simp [B_l_places_1, e, h1]), some (.dat (.int j)), rfl⟩)
  unfold F_l_places
  rw [exs_cons, ex_iff]
  simp only [ev_or, ev_not, ev_isi, ev_v, get_0, get_s, Option.bind_some, valq_a, s_isi, isi_tt, n_bool, orS_bool, ev_cmp, ev_len, l_tup, l_lst, c_neI, boolR_bool, ifS_bool]
  simp only [Bool.not_true, Bool.false_eq_true, if_false, beq_self_eq_true, boolR_bool, ifS_bool, exs_nil]
  rw [seqR_next, exs_cons, ex_for_range (m := (ns.length : Int)) (by simp) (by (first | lia | omega)) (by (first | lia | omega)), l, seqR_next]
  simp
end
end Mine

namespace Mine
open PySem

theorem loopO_nil {α : Type} (body : α → Rho → Option R) (ρ : Rho) : loopO body [] ρ = some (.next ρ) := (rfl)
/-- a while loop that goes as dfs goes -/
theorem loop_dfs {succ : Ky → List Ky} {ok : Ky → Prop} {N b M : Nat} (F : Fin1 succ ok N b) {cond : Rho → Option Bool} {body : Rho → Option R} (St : List Ky → List Ky → Rho → Prop) (hcond : ∀ W K ρ, St W K ρ → cond ρ = some (decide (0 < W.length)))
    (hturn : ∀ W K ρ p, St W K ρ → W.getLast? = some p → ok p → (∀ q ∈ K, ok q) → K.length ≤ N → W.length ≤ M → (p ∈ K → ∃ ρ', (body ρ = some (.next ρ') ∨ body ρ = some (.cont ρ')) ∧ St W.dropLast K ρ') ∧
      (p ∉ K → ∃ ρ', (body ρ = some (.next ρ') ∨ body ρ = some (.cont ρ')) ∧ St (W.dropLast ++ lessK (succ p) (K ++ [p])) (K ++ [p]) ρ')) {K' : List Ky} :
    ∀ (n : Nat) (W K : List Ky) (ρ : Rho), St W K ρ → K.Nodup → (∀ q ∈ K, ok q) → (∀ q ∈ W, ok q) → W.length + (b + 1) * (N - K.length) ≤ M → dfs succ n W K = some K' → ∃ ρ', loopW cond body n ρ = some (.next ρ') ∧ St [] K' ρ'
  | 0, W, K, ρ, _, _, _, _, _, h => by cases h
  | n + 1, W, K, ρ, hs, hd, hK, hW, hM, h => by
    rw [dfs_succ] at h
    cases e : W.getLast? with
    | none =>
      rw [e] at h
      cases h
      have hw : W = [] := List.getLast?_eq_none_iff.mp e
      subst hw
      exact ⟨ρ, loopW_end (hcond _ _ _ hs), hs⟩
    | some p =>
      rw [e, Option.elim_some] at h
      have hmem : p ∈ W := List.mem_of_getLast? e
      have hpos : 0 < W.length := List.length_pos_of_mem hmem
      have hc := hcond _ _ _ hs
      rw [decide_eq_true hpos] at hc
      have hdl : W.dropLast.length = W.length - 1 := List.length_dropLast
      have sub : ∀ q, q ∈ W.dropLast → ok q := fun q hq => hW q (List.dropLast_subset _ hq)
      have hKN := F.few K hd hK
      obtain ⟨t1, t2⟩ := hturn W K ρ p hs e (hW p hmem) hK hKN (by (first | lia | omega))
      by_cases hp : p ∈ K
      · rw [if_pos hp] at h
        obtain ⟨ρ', hb, hs'⟩ := t1 hp
        obtain ⟨ρ'', hl, hs''⟩ := loop_dfs F St hcond hturn n _ _ ρ' hs' hd hK sub (by (first | lia | omega)) h
        exact ⟨ρ'', loopW_turn hc hb hl, hs''⟩
      · rw [if_neg hp] at h
        obtain ⟨ρ', hb, hs'⟩ := t2 hp
        have hd' := nodup_snoc hd hp
        have hK' : ∀ q ∈ K ++ [p], ok q := fun q hq => by
          rcases List.mem_append.mp hq with hq | hq
          · exact hK q hq
          · rw [List.mem_singleton.mp hq]; exact hW p hmem
        have hf := F.few _ hd' hK'
        have hdg := F.deg p (hW p hmem)
        have hfl := lessK_len (succ p) (K ++ [p])
        rw [List.length_append, List.length_singleton] at hf
        obtain ⟨ρ'', hl, hs''⟩ := loop_dfs F St hcond hturn n _ _ ρ' hs' hd' hK' (fun q hq => by
          rcases List.mem_append.mp hq with hq | hq
          · exact sub q hq
          · exact F.succ_ok p (hW p hmem) q (lessK_mem.mp hq).1) (by
          rw [List.length_append, List.length_append, List.length_singleton]
          have e1 : N - K.length = (N - (K.length + 1)) + 1 := by (first | lia | omega)
          rw [e1, Nat.mul_add] at hM
          (first | lia | omega)) h
        exact ⟨ρ'', loopW_turn hc hb hl, hs''⟩

/-! all nodes -/
theorem nodup_le {α : Type} [DecidableEq α] : ∀ {l m : List α}, l.Nodup → (∀ x ∈ l, x ∈ m) → l.length ≤ m.length
  | [], _, _, _ => Nat.zero_le _
  | a :: l, m, hn, hs => by
    obtain ⟨h1, h2⟩ := List.nodup_cons.mp hn
    have ha := hs a (.head _)
    have ih := nodup_le (l := l) (m := m.erase a) h2 fun x hx => (List.mem_erase_of_ne (by intro e; subst e; exact h1 hx)).mpr (hs x (.tail _ hx))
    rw [List.length_erase_of_mem ha] at ih
    have := List.length_pos_of_mem ha
    rw [List.length_cons]; (first | lia | omega)
noncomputable def allK (y o : List D) : List Ky := (List.range y.length).map (fun (i : Nat) => (some wY, (i : Int))) ++ (List.range o.length).map (fun (i : Nat) => (some wO, (i : Int)))
theorem okK_all {y o : List D} {k : Ky} (h : okK y o k) : k ∈ allK y o := by
  obtain ⟨a, i⟩ := k
  obtain ⟨s, hs, hw, h0, h1⟩ := h
  dsimp only at hs h0 h1
  subst hs
  unfold allK
  by_cases e : s = wY
  · rw [if_pos e] at h1
    refine List.mem_append_left _ (List.mem_map.mpr ⟨i.toNat, List.mem_range.mpr (by (first | lia | omega)), ?_⟩)
    rw [e]; simp; (first | lia | omega)
  · rw [if_neg e] at h1
    have e2 : s = wO := hw.resolve_left e
    refine List.mem_append_right _ (List.mem_map.mpr ⟨i.toNat, List.mem_range.mpr (by (first | lia | omega)), ?_⟩)
    rw [e2]; simp; (first | lia | omega)
/-- where a node leads -/
noncomputable def sucK (yg : Bool) (y o : List D) (k : Ky) : List Ky := (ptsK (rowK y o k)).filter fun q => !yg || q.1 == some wY
theorem fin_all {y o r : List D} (G : HG y o r) (yg : Bool) : Fin1 (sucK yg y o) (okK y o) (y.length + o.length) 100 := by
  refine ⟨fun p hp q hq => ?_, fun K hd hK => ?_, fun p hp => ?_⟩
  · obtain ⟨a, row, _, er, _, _, _, hv⟩ := G.at hp
    rw [← er] at hv
    exact ptsK_ok hv q (List.mem_filter.mp hq).1
  · have := nodup_le hd fun x hx => okK_all (hK x hx)
    simpa [allK] using this
  · obtain ⟨a, row, _, er, _, _, hl, _⟩ := G.at hp
    have h1 : (sucK yg y o p).length ≤ (ptsK (rowK y o p)).length := List.length_filter_le _ _
    have h2 : (ptsK (rowK y o p)).length ≤ (rowK y o p).length := List.length_filterMap_le _ _
    rw [er] at h1 h2
    (first | lia | omega)
theorem okK.isS {y o : List D} {k : Ky} (h : okK y o k) : k.1.isSome = true := by
  obtain ⟨s, hs, _⟩ := h; rw [hs]; rfl
theorem okK.eqn {y o : List D} {k : Ky} (h : okK y o k) : ∃ s, k = (some s, k.2) ∧ kyD k = .tup [.str s, .int k.2] := by
  obtain ⟨a, i⟩ := k
  obtain ⟨s, hs, _⟩ := h
  dsimp only at hs
  subst hs
  exact ⟨s, rfl, rfl⟩

section
variable {keep : Bool} {P : Prg} (C : Common P) {n : Nat} {y o r bk : List D}

/-! come_both -/
noncomputable def RB (H : D) (W K : List Ky) (val pt : Option Lo) : Rho := [some (.arg H), val, some (.own (W.map kyD)), some (.dic (kset K)), pt, none, none, none, none, none, none, none]
include C in
theorem push_both {H : D} {K : List Ky} (hK : ∀ q ∈ K, q.1.isSome = true) {pt : Option Lo} : ∀ (vs : List D) (W : List Ky) (val : Option Lo), (∀ v ∈ vs, okV (inB y.length o.length) v) → W.length + vs.length < lim →
    ∃ val', loopO (fun d ρ => exs (run keep P (n + 1)) (ρ.set 1 (some (.dat d))) B_come_both_2) vs (RB H W K val pt) = some (.next (RB H (W ++ lessK (ptsK vs) K) K val' pt))
  | [], W, val, _, _ => ⟨val, by simp [loopO_nil, ptsK, lessK_nil]⟩
  | v :: vs, W, val, hv, hl => by
    have i1 := r_is_pointer (keep := keep) C (n := n) v
    rw [List.length_cons] at hl
    have step : ∀ W', W'.length ≤ W.length + 1 → exs (run keep P (n + 1)) ((RB H W K val pt).set 1 (some (.dat v))) B_come_both_2 = some (.next (RB H W' K (some (.dat v)) pt)) → (∀ t, W' ++ t = W ++ lessK ((v :: []).filterMap ptK) K ++ t) →
        ∃ val', loopO (fun d ρ => exs (run keep P (n + 1)) (ρ.set 1 (some (.dat d))) B_come_both_2) (v :: vs) (RB H W K val pt) = some (.next (RB H (W ++ lessK (ptsK (v :: vs)) K) K val' pt)) := by
      intro W' hw hb ht
      obtain ⟨val', ih⟩ := push_both hK vs W' (some (.dat v)) (fun x hx => hv x (.tail _ hx)) (by (first | lia | omega))
      refine ⟨val', ?_⟩
      show (exs (run keep P (n + 1)) ((RB H W K val pt).set 1 (some (.dat v))) B_come_both_2).bind _ = _
      rw [hb]
      show loopO _ vs (RB H W' K (some (.dat v)) pt) = _
      rw [ih, ht]
      have e : ptsK (v :: vs) = (v :: []).filterMap ptK ++ ptsK vs := by
        unfold ptsK; rw [← List.filterMap_append]; rfl
      rw [e, lessK_append, List.append_assoc]
    rcases (hv v (.head _)).cases6 with ⟨q1, q2, _⟩ | ⟨s, i, q1, rfl, q3⟩
    · rw [q2] at i1
      exact step W (by (first | lia | omega)) (by simp [B_come_both_2, RB, i1]) fun t => by simp [q1, lessK_nil]
    · have hin := in_set (neg := true) (d := .tup [.str s, .int i]) (k := (some s, i)) (K := K) rfl hK rfl
      by_cases hk : ((some s, i) : Ky) ∈ K
      · refine step W (by (first | lia | omega)) ?_ fun t => by simp [q1, hk, lessK_cons, lessK_nil]
        simp [hk] at hin
        simp [B_come_both_2, RB, i1, hin]
      · refine step (W ++ [(some s, i)]) (by simp) ?_ fun t => by simp [q1, hk, lessK_cons, lessK_nil]
        simp [hk] at hin
        have hp : D.pure (.tup [.str s, .int i]) = true := rfl
        have hlim : W.length < lim := by (first | lia | omega)
        simp [B_come_both_2, RB, i1, hin, appR, hp, hlim, kyD]

theorem last_map {W : List Ky} {p : Ky} (h : W.getLast? = some p) : (W.map kyD).getLast? = some (kyD p) := by rw [List.getLast?_map, h]; rfl
theorem drop_map (W : List Ky) : (W.map kyD).dropLast = W.dropLast.map kyD := by rw [List.map_dropLast]

include C in
theorem turn_both (ht : P[11]? = some F_thing_at) (G : HG y o r) {W K : List Ky} {p : Ky} {val pt : Option Lo} (hW : W.getLast? = some p) (hp : okK y o p) (hK : ∀ q ∈ K, okK y o q) (hl : K.length ≤ 2400) (hw : W.length ≤ 300000) :
    (p ∈ K → ∃ val' pt', exs (run keep P (n + 3)) (RB (heapD y o r bk) W K val pt) B_come_both_3 = some (.cont (RB (heapD y o r bk) W.dropLast K val' pt'))) ∧
    (p ∉ K → ∃ val' pt', exs (run keep P (n + 3)) (RB (heapD y o r bk) W K val pt) B_come_both_3 = some (.next (RB (heapD y o r bk) (W.dropLast ++ lessK (sucK false y o p) (K ++ [p])) (K ++ [p]) val' pt'))) := by
  obtain ⟨s, ep, ed⟩ := hp.eqn
  have hKs : ∀ q ∈ K, q.1.isSome = true := fun q hq => (hK q hq).isS
  have h1 := last_map hW
  have hin := in_set (neg := false) (d := kyD p) (k := p) (K := K) (kyD_key p) hKs hp.isS
  have first : ∀ b : Ss, exs (run keep P (n + 3)) (RB (heapD y o r bk) W K val pt) (.cons (.pop 4 2) b) = exs (run keep P (n + 3)) (RB (heapD y o r bk) W.dropLast K val (some (.dat (kyD p)))) b := by
    intro b
    rw [exs_cons, ex_pop]
    show seqR (popR _ 4 2 (some (W.map kyD))) _ = _
    unfold popR
    rw [Option.bind_some, h1, Option.map_some, seqR_next, drop_map]
    rfl
  unfold B_come_both_3
  rw [first]
  constructor
  · intro hk
    refine ⟨val, some (.dat (kyD p)), ?_⟩
    simp [hk] at hin
    simp [RB, hin]
  · intro hk
    obtain ⟨a, row, _, er, _, _, hrl, hrv⟩ := G.at hp
    obtain ⟨a', hth⟩ := r_thing_at (keep := keep) C (n := n) ht G (bk := bk) (s := s) (i := p.2) (by rw [← ep]; exact hp)
    rw [← ed, ← ep] at hth
    have hset := fun (ρ : Rho) => setd_set (ρ := ρ) (x := 3) (d := kyD p) (k := p) (K := K) (kyD_key p) hKs hp.isS hk (by rw [lim_n]; (first | lia | omega))
    simp [hk] at hin
    have hK2 : ∀ q ∈ K ++ [p], q.1.isSome = true := fun q hq => by
      rcases List.mem_append.mp hq with hq | hq
      · exact hKs q hq
      · rw [List.mem_singleton.mp hq]; exact hp.isS
    obtain ⟨val', hpush⟩ := push_both (keep := keep) C (n := n + 2) (y := y) (o := o) (H := heapD y o r bk) hK2 (pt := some (.dat (kyD p))) (rowK y o p) W.dropLast val (by rw [er]; exact hrv) (by rw [er, List.length_dropLast, lim_n]; (first | lia | omega))
    refine ⟨val', some (.dat (kyD p)), ?_⟩
    have hsuc : sucK false y o p = ptsK (rowK y o p) := by unfold sucK; simp
    rw [hsuc, ← hpush]
    rw [exs_cons, ex_iff]
    have c1 : ev (run keep P (n + 3)) (RB (heapD y o r bk) W.dropLast K val (some (.dat (kyD p)))) (.inD false (.v 4) 3) = some (.bool false) := by simp [RB, hin]
    rw [c1, ifS_bool]
    simp only [Bool.false_eq_true, if_false, exs_nil, seqR_next]
    rw [exs_cons, ex_setd]
    have c2 : setd2 (RB (heapD y o r bk) W.dropLast K val (some (.dat (kyD p)))) 3 (ev (run keep P (n + 3)) (RB (heapD y o r bk) W.dropLast K val (some (.dat (kyD p)))) (.k (.bool true))) ((RB (heapD y o r bk) W.dropLast K val (some (.dat (kyD p)))).dic? 3) (ev (run keep P (n + 3)) (RB (heapD y o r bk) W.dropLast K val (some (.dat (kyD p)))) (.v 4)) = some (.next (RB (heapD y o r bk) W.dropLast (K ++ [p]) val (some (.dat (kyD p))))) := by
      have := hset (RB (heapD y o r bk) W.dropLast K val (some (.dat (kyD p))))
      simpa [RB] using this
    rw [c2, seqR_next, exs_cons]
    have c3 : ev (run keep P (n + 3)) (RB (heapD y o r bk) W.dropLast (K ++ [p]) val (some (.dat (kyD p)))) (.idx (.call 11 (.cons (.v 0) (.cons (.v 4) .nil))) (.k (.int 1))) = some (.tup (rowK y o p)) := by
      simp [RB, hth]
    rw [ex_for_tup c3 (by rw [er]; exact okVs.pures hrv), hpush]
    simp
end
end Mine

namespace Mine
open PySem

theorem comp_filter {α β : Type} {c : α → Option Bool} {f : α → Option β} (p : α → Bool) (g : α → β) : ∀ (ds : List α), (∀ d ∈ ds, c d = some (p d) ∧ (p d = true → f d = some (g d))) → compO c f ds = some ((ds.filter p).map g)
  | [], _ => rfl
  | d :: ds, h => by
    have ih := comp_filter p g ds fun x hx => h x (.tail _ hx)
    obtain ⟨h1, h2⟩ := h d (.head _)
    show (c d).bind _ = _
    rw [h1, Option.bind_some]
    cases hp : p d with
    | true =>
      rw [if_pos rfl, h2 hp, Option.bind_some, ih, List.filter_cons_of_pos hp]; rfl
    | false =>
      rw [if_neg (by decide), ih, List.filter_cons_of_neg (by rw [hp]; decide)]
noncomputable def ownCR (ρ : Rho) (x : Nat) (o : Option D) : Option R := o.bind fun d => (lstOf d).bind fun ds => putO ρ x ds
section
variable {Φ : Fns} {ρ : Rho}
@[simp] theorem ex_ownC (x : Nat) (e : E) : ex Φ ρ (.ownC x e) = ownCR ρ x (ev Φ ρ e) := (rfl)
@[simp] theorem ex_ownS (x : Nat) (e : E) : ex Φ ρ (.ownS x e) = ownCR ρ x (ev Φ ρ e) := (rfl)
@[simp] theorem ownCR_lst {x : Nat} {ds : List D} : ownCR ρ x (some (.lst ds)) = if D.pures ds = true then some (.next (ρ.set x (some (.own ds)))) else none := (rfl)
theorem evIt_keys {x : Nat} {K : List Ky} (h : ρ.dic? x = some (kset K)) (hl : K.length ≤ 1000000) : evIt Φ ρ (.keys x) = some (K.map kyD) := by
  show (ρ.dic? x).bind _ = _
  rw [h, Option.bind_some, if_pos (by rw [kset_len]; exact hl)]
  unfold kset
  rw [List.map_map]; rfl
theorem intsOf_ints : ∀ ns : List Int, intsOf (ns.map .int) = some ns
  | [] => rfl
  | n :: ns => by
    show (intOf (.int n)).bind _ = _
    rw [show intOf (.int n) = some n from rfl, Option.bind_some, intsOf_ints ns]; rfl
theorem sortD_ints {ns : List Int} (h : SortOk ns) : sortD (ns.map .int) = some (.lst ((isort ns).map .int)) := by
  unfold sortD
  rw [intsOf_ints, Option.bind_some, if_pos h]
theorem ev_srtL {a : E} {ns : List Int} (h : ev Φ ρ a = some (.lst (ns.map .int))) (hs : SortOk ns) : ev Φ ρ (.srtL a) = some (.lst ((isort ns).map .int)) := by
  show (ev Φ ρ a).bind _ = _
  rw [h]
  show (lstOf (.lst (ns.map .int))).bind sortD = _
  rw [show lstOf (.lst (ns.map D.int)) = some (ns.map .int) from rfl, Option.bind_some, sortD_ints hs]
theorem ev_srtK {x : Nat} {K : List Ky} {ns : List Int} (h : ρ.dic? x = some (kset K)) (hl : K.length ≤ 1000000) (hk : K.map kyD = ns.map .int) (hs : SortOk ns) : ev Φ ρ (.srtK x) = some (.lst ((isort ns).map .int)) := by
  show (ρ.dic? x).bind _ = _
  rw [h, Option.bind_some, if_pos (by rw [kset_len]; exact hl)]
  have e : (kset K).map (fun p => kyD p.1) = K.map kyD := by unfold kset; rw [List.map_map]; rfl
  rw [e, hk, sortD_ints hs]
end
theorem ints_pures6 (ns : List Int) : D.pures (ns.map D.int) = true := by
  simp only [D.pures, List.all_map, List.all_eq_true]
  intro x _; rfl
/-- the places in one half -/
noncomputable def pl (s : Str) (K : List Ky) : List Int := (K.filter fun k => k.1 == some s).map (·.2)

section
variable {keep : Bool} {P : Prg} (C : Common P) {n : Nat} {y o r bk : List D}
theorem rho_come_both (a : D) : rho0 F_come_both.names F_come_both.ps [a] = [some (.arg a), none, none, none, none, none, none, none, none, none, none, none] := by kernel_rfl

/-- the pointers among values -/
theorem filt_pts {vs : List D} (h : ∀ v ∈ vs, okV (inB y.length o.length) v) : (vs.filter fun v => evIsi .tuple v).map id = (ptsK vs).map kyD := by
  induction vs with
  | nil => rfl
  | cons v vs ih =>
    have ih := ih fun x hx => h x (.tail _ hx)
    rcases (h v (.head _)).cases6 with ⟨q1, q2, _⟩ | ⟨s, i, q1, rfl, q3⟩
    · rw [List.filter_cons_of_neg (by rw [q2]; decide), ih]
      unfold ptsK
      rw [List.filterMap_cons_none q1]
    · rw [List.filter_cons_of_pos rfl, List.map_cons, ih]
      unfold ptsK
      rw [List.filterMap_cons_some q1, List.map_cons]; rfl

include C in
theorem r_come_both (hb : P[18]? = some F_come_both) (ht : P[11]? = some F_thing_at) (G : HG y o r) {K : List Ky} (hd : dfs (sucK false y o) lim (ptsK r) [] = some K) (hok : ∀ k ∈ K, okK y o k) (hl : K.length ≤ 2400) (hsY : SortOk (pl wY K)) (hsO : SortOk (pl wO K)) :
    run keep P (n + 4) 18 [heapD y o r bk] = some (.ok (.tup [.tup ((isort (pl wY K)).map .int), .tup ((isort (pl wO K)).map .int)])) := by
  rw [run_at hb, fnRun_eq rfl, rho_come_both]
  have hlen : (ptsK r).length ≤ r.length := List.length_filterMap_le _ _
  have hrl := G.rl
  have hyl := G.yl
  have hol := G.ol
  -- the first pointers
  have e1 : ev (run keep P (n + 3)) [some (.arg (heapD y o r bk)), none, none, none, none, none, none, none, none, none, none, none] (.comp C_come_both_1 (.seq (.idx (.v 0) (.k (.int 2)))) (.call 8 (.cons (.v 12) .nil))) = some (.lst ((ptsK r).map kyD)) := by
    refine ev_comp (ds := r) (evIt_seq (d := .tup r) (by simp [heapD]) rfl (okVs.pures G.vr)) ?_ (keys_pures _)
    rw [← filt_pts G.vr]
    refine comp_filter (fun v => evIsi .tuple v) id r fun d hd => ?_
    have i1 := r_is_pointer (keep := keep) C (n := n + 2) d
    exact ⟨by simp [i1], fun _ => by simp [C_come_both_1]⟩
  -- the loop
  obtain ⟨ρ', hloop, val', pt', rfl⟩ := loop_dfs (M := 300000) (K' := K) (fin_all G false) (cond := fun ρ => (ev (run keep P (n + 3)) ρ (.cmp .gt (.len (.v 2)) (.k (.int 0)))).bind isTrueD) (body := fun ρ => exs (run keep P (n + 3)) ρ B_come_both_3)
    (fun W K ρ => ∃ val pt, ρ = RB (heapD y o r bk) W K val pt)
    (by rintro W K ρ ⟨val, pt, rfl⟩; simp [RB])
    (by
      rintro W K ρ p ⟨val, pt, rfl⟩ hW hp hK hKl hWl
      obtain ⟨t1, t2⟩ := turn_both (keep := keep) C (n := n) (bk := bk) (val := val) (pt := pt) ht G hW hp hK (by (first | lia | omega)) hWl
      refine ⟨fun h => ?_, fun h => ?_⟩
      · obtain ⟨v', p', e⟩ := t1 h
        exact ⟨_, .inr e, v', p', rfl⟩
      · obtain ⟨v', p', e⟩ := t2 h
        exact ⟨_, .inl e, v', p', rfl⟩)
    lim (ptsK r) [] (RB (heapD y o r bk) (ptsK r) [] none none) ⟨none, none, rfl⟩ .nil (by simp) (ptsK_ok G.vr) (by simp only [List.length_nil, Nat.sub_zero]; (first | lia | omega)) hd
  -- what is sorted
  have comp : ∀ (s : Str) (ρ : Rho) (el : E), ρ.length = 12 → ρ.dic? 3 = some (kset K) → el = .idx (.v 12) (.k (.int 1)) → ev (run keep P (n + 3)) ρ (.comp el (.keys 3) (.cmp .eq (.idx (.v 12) (.k (.int 0))) (.k (.str s)))) = some (.lst ((pl s K).map .int)) := by
    rintro s ρ el hρ hdi rfl
    refine ev_comp (ds := K.map kyD) (evIt_keys hdi (by (first | lia | omega))) ?_ (ints_pures6 _)
    have e : ((pl s K).map D.int) = ((K.map kyD).filter (fun d => match d with | .tup (.str t :: _) => t == s | _ => false)).map (fun d => match d with | .tup [_, v] => v | _ => .none) := by
      unfold pl
      have : ∀ L : List Ky, (∀ k ∈ L, okK y o k) → ((L.filter fun k => k.1 == some s).map (·.2)).map D.int = ((L.map kyD).filter (fun d => match d with | .tup (.str t :: _) => t == s | _ => false)).map (fun d => match d with | .tup [_, v] => v | _ => .none) := by
        intro L hL
        induction L with
        | nil => rfl
        | cons k L ih =>
          obtain ⟨t, ek, ed⟩ := (hL k (.head _)).eqn
          have ih := ih fun x hx => hL x (.tail _ hx)
          rw [List.map_cons, ed]
          have hk1 : k.1 = some t := by rw [ek]
          by_cases h : t = s
          · rw [List.filter_cons_of_pos (by rw [hk1, h]; simp), List.filter_cons_of_pos (by simp [h]), List.map_cons, List.map_cons, List.map_cons, ih]
          · rw [List.filter_cons_of_neg (by rw [hk1]; simp [h]), List.filter_cons_of_neg (by simp [h]), ih]
      exact this K hok
    rw [e]
    refine comp_filter _ _ _ fun d hd' => ?_
    obtain ⟨k, hk, rfl⟩ := List.mem_map.mp hd'
    obtain ⟨t, ek, ed⟩ := (hok k hk).eqn
    have hg : Rho.get (ρ ++ [some (.dat (kyD k))]) 12 = some (.dat (kyD k)) := by
      unfold Rho.get
      rw [List.getElem?_append_right (by (first | lia | omega)), hρ]; rfl
    rw [ed] at hg ⊢
    exact ⟨by simp [hg], fun _ => by simp [hg]⟩
  have s1 := ev_srtL (comp wY (RB (heapD y o r bk) [] K val' pt') C_come_both_4 rfl rfl rfl) hsY
  have s2 := ev_srtL (comp wO ((RB (heapD y o r bk) [] K val' pt').set 5 (some (.own ((isort (pl wY K)).map .int)))) C_come_both_5 rfl rfl rfl) hsO
  unfold F_come_both
  rw [exs_cons, ex_ownC, e1, ownCR_lst, if_pos (keys_pures _), seqR_next, exs_cons, ex_newD, seqR_next, exs_cons, ex_whl]
  rw [show (([some (Lo.arg (heapD y o r bk)), none, none, none, none, none, none, none, none, none, none, none].set 2 (some (Lo.own (List.map kyD (ptsK r))))).set 3 (some (Lo.dic []))) = RB (heapD y o r bk) (ptsK r) [] none none from rfl, hloop, seqR_next]
  rw [exs_cons, ex_ownS, s1, ownCR_lst, if_pos (ints_pures6 _), seqR_next, exs_cons, ex_ownS, s2, ownCR_lst, if_pos (ints_pures6 _), seqR_next]
  simp [RB]
end
end Mine

namespace Mine
open PySem

/-! come_young -/
noncomputable def yK (v : D) : Option Ky := match ptK v with
  | some (some s, i) => if s = wY then some (none, i) else none
  | _ => none
theorem yK_pt (s : Str) (i : Int) : yK (.tup [.str s, .int i]) = if s = wY then some (none, i) else none := (rfl)
theorem yK_none : yK .none = none := (rfl)
noncomputable def ysK (vs : List D) : List Ky := vs.filterMap yK
noncomputable def okY (y : List D) (k : Ky) : Prop := k.1 = none ∧ 0 ≤ k.2 ∧ k.2 < y.length
noncomputable def sucY (y o : List D) (k : Ky) : List Ky := ysK (rowK y o (some wY, k.2))
theorem okY.eqn {y : List D} {k : Ky} (h : okY y k) : k = (none, k.2) ∧ kyD k = .int k.2 := by
  obtain ⟨a, i⟩ := k
  obtain ⟨h, _⟩ := h
  dsimp only at h; subst h; exact ⟨rfl, rfl⟩
theorem okY.isN {y : List D} {k : Ky} (h : okY y k) : k.1.isSome = false := by rw [h.1]; rfl
theorem okY.toK {y o : List D} {k : Ky} (h : okY y k) : okK y o (some wY, k.2) := ⟨wY, rfl, .inl rfl, h.2.1, by rw [if_pos rfl]; exact h.2.2⟩
theorem okV.cases7 {y o : List D} {v : D} (h : okV (inB y.length o.length) v) : (yK v = none ∧ (evIsi .tuple v = false ∨ ∃ s i, v = .tup [.str s, .int i] ∧ (s == wY) = false)) ∨ ∃ i, yK v = some (none, i) ∧ v = .tup [.str wY, .int i] ∧ okY y (none, i) := by
  rcases h with rfl | ⟨i, rfl⟩ | ⟨s, i, h1, h2, rfl⟩
  · exact .inl ⟨rfl, .inl rfl⟩
  · exact .inl ⟨rfl, .inl rfl⟩
  · by_cases e : s = wY
    · subst e
      obtain ⟨q1, q2⟩ := h2
      rw [if_pos rfl] at q2
      exact .inr ⟨i, by simp [yK_pt], rfl, rfl, q1, q2⟩
    · exact .inl ⟨by simp [yK_pt, e], .inr ⟨s, i, rfl, by simpa using e⟩⟩
theorem ysK_ok {y o vs : List D} (h : ∀ v ∈ vs, okV (inB y.length o.length) v) : ∀ k ∈ ysK vs, okY y k := by
  intro k hk
  obtain ⟨v, hv, e⟩ := List.mem_filterMap.mp hk
  rcases (h v hv).cases7 with ⟨q, _⟩ | ⟨i, q, _, w⟩
  · rw [q] at e; cases e
  · rw [q] at e; cases e; exact w
theorem fin_young {y o r : List D} (G : HG y o r) : Fin1 (sucY y o) (okY y) y.length 100 := by
  refine ⟨fun p hp q hq => ?_, fun K hd hK => ?_, fun p hp => ?_⟩
  · obtain ⟨a, row, _, er, _, _, _, hv⟩ := G.at (hp.toK (o := o))
    rw [← er] at hv
    exact ysK_ok hv q hq
  · have := nodup_le (m := (List.range y.length).map fun (i : Nat) => ((none, (i : Int)) : Ky)) hd fun x hx => by
      obtain ⟨h1, h2, h3⟩ := hK x hx
      refine List.mem_map.mpr ⟨x.2.toNat, List.mem_range.mpr (by (first | lia | omega)), ?_⟩
      rw [((hK x hx).eqn).1]; simp; (first | lia | omega)
    simpa using this
  · obtain ⟨a, row, _, er, _, _, hl, _⟩ := G.at (hp.toK (o := o))
    have h2 : (sucY y o p).length ≤ (rowK y o (some wY, p.2)).length := List.length_filterMap_le _ _
    rw [er] at h2
    (first | lia | omega)

section
variable {keep : Bool} {P : Prg} (C : Common P) {n : Nat} {y o r bk : List D}
noncomputable def RY (H : D) (y : List D) (W K : List Ky) (pt val : Option Lo) : Rho := [some (.arg H), some (.dat (.tup y)), some (.own (W.map kyD)), some (.dic (kset K)), pt, val, none, none, none, none, none]
include C in
theorem push_young {H : D} {K : List Ky} (hK : ∀ q ∈ K, q.1.isSome = false) {pt : Option Lo} : ∀ (vs : List D) (W : List Ky) (val : Option Lo), (∀ v ∈ vs, okV (inB y.length o.length) v) → W.length + vs.length < lim →
    ∃ val', loopO (fun d ρ => exs (run keep P (n + 1)) (ρ.set 5 (some (.dat d))) B_come_young_1) vs (RY H y W K pt val) = some (.next (RY H y (W ++ lessK (ysK vs) K) K pt val'))
  | [], W, val, _, _ => ⟨val, by simp [loopO_nil, ysK, lessK_nil]⟩
  | v :: vs, W, val, hv, hl => by
    have i1 := r_is_pointer (keep := keep) C (n := n) v
    rw [List.length_cons] at hl
    have step : ∀ W', W'.length ≤ W.length + 1 → exs (run keep P (n + 1)) ((RY H y W K pt val).set 5 (some (.dat v))) B_come_young_1 = some (.next (RY H y W' K pt (some (.dat v)))) → (∀ t, W' ++ t = W ++ lessK ((v :: []).filterMap yK) K ++ t) →
        ∃ val', loopO (fun d ρ => exs (run keep P (n + 1)) (ρ.set 5 (some (.dat d))) B_come_young_1) (v :: vs) (RY H y W K pt val) = some (.next (RY H y (W ++ lessK (ysK (v :: vs)) K) K pt val')) := by
      intro W' hw hb ht
      obtain ⟨val', ih⟩ := push_young hK vs W' (some (.dat v)) (fun x hx => hv x (.tail _ hx)) (by (first | lia | omega))
      refine ⟨val', ?_⟩
      show (exs (run keep P (n + 1)) ((RY H y W K pt val).set 5 (some (.dat v))) B_come_young_1).bind _ = _
      rw [hb]
      show loopO _ vs (RY H y W' K pt (some (.dat v))) = _
      rw [ih, ht]
      have e : ysK (v :: vs) = (v :: []).filterMap yK ++ ysK vs := by
        unfold ysK; rw [← List.filterMap_append]; rfl
      rw [e, lessK_append, List.append_assoc]
    rcases (hv v (.head _)).cases7 with ⟨q1, q2 | ⟨s, i, rfl, q2⟩⟩ | ⟨i, q1, rfl, q3⟩
    · rw [q2] at i1
      exact step W (by (first | lia | omega)) (by simp [B_come_young_1, RY, i1]) fun t => by simp [q1, lessK_nil]
    · have q2' : ¬ s = wY := by simpa using q2
      exact step W (by (first | lia | omega)) (by simp [B_come_young_1, RY, i1, q2']) fun t => by simp [q1, lessK_nil]
    · have hin := in_set (neg := true) (d := .int i) (k := (none, i)) (K := K) rfl hK rfl
      by_cases hk : ((none, i) : Ky) ∈ K
      · refine step W (by (first | lia | omega)) ?_ fun t => by simp [q1, hk, lessK_cons, lessK_nil]
        simp [hk] at hin
        simp [B_come_young_1, RY, i1, hin]
      · refine step (W ++ [(none, i)]) (by simp) ?_ fun t => by simp [q1, hk, lessK_cons, lessK_nil]
        simp [hk] at hin
        have hlim : W.length < lim := by (first | lia | omega)
        simp [B_come_young_1, RY, i1, hin, appR, hlim, kyD]

include C in
theorem turn_young (G : HG y o r) {W K : List Ky} {p : Ky} {H : D} {val pt : Option Lo} (hW : W.getLast? = some p) (hp : okY y p) (hK : ∀ q ∈ K, okY y q) (hl : K.length ≤ 2400) (hw : W.length ≤ 300000) :
    (p ∈ K → ∃ pt' val', exs (run keep P (n + 1)) (RY H y W K pt val) B_come_young_2 = some (.cont (RY H y W.dropLast K pt' val'))) ∧
    (p ∉ K → ∃ pt' val', exs (run keep P (n + 1)) (RY H y W K pt val) B_come_young_2 = some (.next (RY H y (W.dropLast ++ lessK (sucY y o p) (K ++ [p])) (K ++ [p]) pt' val'))) := by
  obtain ⟨ep, ed⟩ := hp.eqn
  have hKs : ∀ q ∈ K, q.1.isSome = false := fun q hq => (hK q hq).isN
  have h1 := last_map hW
  have hin := in_set (neg := false) (d := kyD p) (k := p) (K := K) (kyD_key p) hKs hp.isN
  have first : ∀ b : Ss, exs (run keep P (n + 1)) (RY H y W K pt val) (.cons (.pop 4 2) b) = exs (run keep P (n + 1)) (RY H y W.dropLast K (some (.dat (kyD p))) val) b := by
    intro b
    rw [exs_cons, ex_pop]
    show seqR (popR _ 4 2 (some (W.map kyD))) _ = _
    unfold popR
    rw [Option.bind_some, h1, Option.map_some, seqR_next, drop_map]
    rfl
  unfold B_come_young_2
  rw [first]
  constructor
  · intro hk
    refine ⟨some (.dat (kyD p)), val, ?_⟩
    simp [hk] at hin
    simp [RY, hin]
  · intro hk
    obtain ⟨a, row, eh, er, _, _, hrl, hrv⟩ := G.at (hp.toK (o := o))
    have eh' : y[p.2.toNat]? = some (.tup [.int a, .tup row]) := eh
    have hset := fun (ρ : Rho) => setd_set (ρ := ρ) (x := 3) (d := kyD p) (k := p) (K := K) (kyD_key p) hKs hp.isN hk (by rw [lim_n]; (first | lia | omega))
    simp [hk] at hin
    have hK2 : ∀ q ∈ K ++ [p], q.1.isSome = false := fun q hq => by
      rcases List.mem_append.mp hq with hq | hq
      · exact hKs q hq
      · rw [List.mem_singleton.mp hq]; exact hp.isN
    obtain ⟨val', hpush⟩ := push_young (keep := keep) C (n := n) (y := y) (o := o) (H := H) hK2 (pt := some (.dat (kyD p))) row W.dropLast val hrv (by rw [List.length_dropLast, lim_n]; (first | lia | omega))
    refine ⟨some (.dat (kyD p)), val', ?_⟩
    have hsuc : sucY y o p = ysK row := by unfold sucY; rw [er]
    rw [hsuc, ← hpush]
    rw [exs_cons, ex_iff]
    have c1 : ev (run keep P (n + 1)) (RY H y W.dropLast K (some (.dat (kyD p))) val) (.inD false (.v 4) 3) = some (.bool false) := by simp [RY, hin]
    rw [c1, ifS_bool]
    simp only [Bool.false_eq_true, if_false, exs_nil, seqR_next]
    rw [exs_cons, ex_setd]
    have c2 : setd2 (RY H y W.dropLast K (some (.dat (kyD p))) val) 3 (ev (run keep P (n + 1)) (RY H y W.dropLast K (some (.dat (kyD p))) val) (.k (.bool true))) ((RY H y W.dropLast K (some (.dat (kyD p))) val).dic? 3) (ev (run keep P (n + 1)) (RY H y W.dropLast K (some (.dat (kyD p))) val) (.v 4)) = some (.next (RY H y W.dropLast (K ++ [p]) (some (.dat (kyD p))) val)) := by
      have := hset (RY H y W.dropLast K (some (.dat (kyD p))) val)
      simpa [RY] using this
    rw [c2, seqR_next, exs_cons]
    have h0 := hp.2.1
    have c3 : ev (run keep P (n + 1)) (RY H y W.dropLast (K ++ [p]) (some (.dat (kyD p))) val) (.idx (.idx (.v 1) (.v 4)) (.k (.int 1))) = some (.tup row) := by
      rw [ed]
      simp [RY, h0, eh']
    rw [ex_for_tup c3 (okVs.pures hrv), hpush]
    simp

theorem rho_come_young (a : D) : rho0 F_come_young.names F_come_young.ps [a] = [some (.arg a), none, none, none, none, none, none, none, none, none, none] := by kernel_rfl
/-- the places -/
noncomputable def plY (K : List Ky) : List Int := K.map (·.2)
include C in
theorem r_come_young (hb : P[17]? = some F_come_young) (G : HG y o r) (hyp : D.pure (.tup y) = true) {S K : List Ky} (hS : ∀ k ∈ S, okY y k) (hSl : S.length ≤ 10000) (hbeg : run keep P (n + 2) 16 [heapD y o r bk] = some (.own (.own (S.map kyD))))
    (hd : dfs (sucY y o) lim S [] = some K) (hok : ∀ k ∈ K, okY y k) (hl : K.length ≤ 2400) (hs : SortOk (plY K)) :
    run keep P (n + 3) 17 [heapD y o r bk] = some (.ok (.tup ((isort (plY K)).map .int))) := by
  rw [run_at hb, fnRun_eq rfl, rho_come_young]
  have hyl := G.yl
  obtain ⟨ρ', hloop, pt', val', rfl⟩ := loop_dfs (M := 300000) (K' := K) (fin_young G) (cond := fun ρ => (ev (run keep P (n + 2)) ρ (.cmp .gt (.len (.v 2)) (.k (.int 0)))).bind isTrueD) (body := fun ρ => exs (run keep P (n + 2)) ρ B_come_young_2)
    (fun W K ρ => ∃ pt val, ρ = RY (heapD y o r bk) y W K pt val)
    (by rintro W K ρ ⟨pt, val, rfl⟩; simp [RY])
    (by
      rintro W K ρ p ⟨pt, val, rfl⟩ hW hp hK hKl hWl
      obtain ⟨t1, t2⟩ := turn_young (keep := keep) C (n := n + 1) (H := heapD y o r bk) (val := val) (pt := pt) G hW hp hK (by (first | lia | omega)) hWl
      refine ⟨fun h => ?_, fun h => ?_⟩
      · obtain ⟨p', v', e⟩ := t1 h
        exact ⟨_, .inr e, p', v', rfl⟩
      · obtain ⟨p', v', e⟩ := t2 h
        exact ⟨_, .inl e, p', v', rfl⟩)
    lim S [] (RY (heapD y o r bk) y S [] none none) ⟨none, none, rfl⟩ .nil (by simp) hS (by simp only [List.length_nil, Nat.sub_zero]; (first | lia | omega)) hd
  have hk : K.map kyD = (plY K).map .int := by
    unfold plY
    rw [List.map_map]
    exact List.map_congr_left fun k hk => (hok k hk).eqn.2
  have s1 := ev_srtK (Φ := run keep P (n + 2)) (ρ := RY (heapD y o r bk) y [] K pt' val') (x := 3) rfl (by (first | lia | omega)) hk hs
  unfold F_come_young
  rw [exs_cons, ex_asg]
  have c1 : ev (run keep P (n + 2)) [some (.arg (heapD y o r bk)), none, none, none, none, none, none, none, none, none, none] (.idx (.v 0) (.k (.int 0))) = some (.tup y) := by simp [heapD]
  rw [c1, asgR_some, if_pos hyp, seqR_next, exs_cons, ex_callS]
  have c2 : evs (run keep P (n + 2)) ([some (.arg (heapD y o r bk)), none, none, none, none, none, none, none, none, none, none].set 1 (some (.dat (.tup y)))) (.cons (.v 0) .nil) = some [heapD y o r bk] := by simp
  rw [c2, Option.bind_some, hbeg]
  show outR keep (seqR (some (.next (([some (.arg (heapD y o r bk)), none, none, none, none, none, none, none, none, none, none].set 1 (some (.dat (.tup y)))).set 2 (some (.own (S.map kyD)))))) _) = _
  rw [seqR_next, exs_cons, ex_newD, seqR_next, exs_cons, ex_whl]
  rw [show ((([some (Lo.arg (heapD y o r bk)), none, none, none, none, none, none, none, none, none, none].set 1 (some (.dat (.tup y)))).set 2 (some (.own (S.map kyD)))).set 3 (some (Lo.dic []))) = RY (heapD y o r bk) y S [] none none from rfl, hloop, seqR_next]
  rw [exs_cons, ex_ret, ev_toTup, s1]
  simp
end
end Mine

namespace Mine
open PySem

/-! _law_met -/
noncomputable def selK (yg : Bool) (vs : List D) : List Ky := (ptsK vs).filter fun q => !yg || q.1 == some wY
theorem selK_cons (yg : Bool) (v : D) (vs : List D) : selK yg (v :: vs) = selK yg [v] ++ selK yg vs := by
  unfold selK ptsK
  rw [← List.filter_append, ← List.filterMap_append]; rfl
theorem selK_ok {y o vs : List D} {yg : Bool} (h : ∀ v ∈ vs, okV (inB y.length o.length) v) : ∀ k ∈ selK yg vs, okK y o k := fun k hk => ptsK_ok h k (List.mem_filter.mp hk).1
theorem addAll_append {α : Type} [DecidableEq α] : ∀ (a b K : List α), addAll K (a ++ b) = addAll (addAll K a) b
  | [], b, K => rfl
  | x :: a, b, K => by
    rw [List.cons_append, addAll_cons, addAll_cons]
    split
    · exact addAll_append a b K
    · exact addAll_append a b _
theorem addAll_one {α : Type} [DecidableEq α] (k : α) (K : List α) : addAll K [k] = if k ∈ K then K else K ++ [k] := by
  rw [addAll_cons]; rfl

section
variable {keep : Bool} {P : Prg} (C : Common P) {n : Nat} {y o r bk : List D}
noncomputable def RM (H : D) (row : Option Lo) (yg : Bool) (K : List Ky) (i : Int) (val : Option Lo) : Rho := [some (.arg H), row, some (.arg (.bool yg)), some (.dic (kset K)), some (.own (K.map kyD)), some (.dat (.int i)), val, none, none, none, none]
theorem push_met {H : D} {row : Option Lo} {yg : Bool} {i : Int} {Φ : Fns} : ∀ (vs : List D) (K : List Ky) (val : Option Lo), (∀ q ∈ K, q.1.isSome = true) → (∀ v ∈ vs, okV (inB y.length o.length) v) → K.length + vs.length < lim →
    ∃ val', loopO (fun d ρ => exs Φ (ρ.set 6 (some (.dat d))) B_l_met_1) vs (RM H row yg K i val) = some (.next (RM H row yg (addAll K (selK yg vs)) i val'))
  | [], K, val, _, _, _ => ⟨val, rfl⟩
  | v :: vs, K, val, hK, hv, hl => by
    rw [List.length_cons] at hl
    have step : ∀ K', K'.length ≤ K.length + 1 → (∀ q ∈ K', q.1.isSome = true) → exs Φ ((RM H row yg K i val).set 6 (some (.dat v))) B_l_met_1 = some (.next (RM H row yg K' i (some (.dat v)))) → K' = addAll K (selK yg [v]) →
        ∃ val', loopO (fun d ρ => exs Φ (ρ.set 6 (some (.dat d))) B_l_met_1) (v :: vs) (RM H row yg K i val) = some (.next (RM H row yg (addAll K (selK yg (v :: vs))) i val')) := by
      intro K' hw hk hb ht
      obtain ⟨val', ih⟩ := push_met vs K' (some (.dat v)) hk (fun x hx => hv x (.tail _ hx)) (by (first | lia | omega))
      refine ⟨val', ?_⟩
      show (exs Φ ((RM H row yg K i val).set 6 (some (.dat v))) B_l_met_1).bind _ = _
      rw [hb]
      show loopO _ vs (RM H row yg K' i (some (.dat v))) = _
      rw [ih, ht, selK_cons yg v vs, addAll_append]
    rcases (hv v (.head _)).cases6 with ⟨q1, q2, _⟩ | ⟨s, j, q1, rfl, q3⟩
    · refine step K (by (first | lia | omega)) hK (by simp [B_l_met_1, RM, q2]) ?_
      simp [selK, ptsK, q1, addAll_nil]
    · have hin := in_set (neg := true) (d := .tup [.str s, .int j]) (k := (some s, j)) (K := K) rfl hK rfl
      have hsel : selK yg [.tup [.str s, .int j]] = if (!yg || s == wY) = true then [(some s, j)] else [] := by
        unfold selK ptsK
        rw [List.filterMap_cons_some q1]
        simp only [List.filterMap_nil, List.filter_cons, List.filter_nil]
        have : ((some s == some wY) : Bool) = (s == wY) := rfl
        rw [this]
      by_cases hk : ((some s, j) : Ky) ∈ K
      · refine step K (by (first | lia | omega)) hK ?_ ?_
        · simp [hk] at hin
          simp [B_l_met_1, RM, hin]
        · rw [hsel]
          split
          · rw [addAll_one, if_pos hk]
          · rfl
      · simp [hk] at hin
        have hset := fun (ρ : Rho) => setd_set (ρ := ρ) (x := 3) (d := .tup [.str s, .int j]) (k := (some s, j)) (K := K) rfl hK rfl hk (by (first | lia | omega))
        have hp : D.pure (.tup [.str s, .int j]) = true := rfl
        have hlim : K.length < lim := by (first | lia | omega)
        by_cases hy : (!yg || s == wY) = true
        · refine step (K ++ [(some s, j)]) (by simp) ?_ ?_ ?_
          · intro q hq
            rcases List.mem_append.mp hq with hq | hq
            · exact hK q hq
            · rw [List.mem_singleton.mp hq]; rfl
          · cases yg with
            | false => simp [B_l_met_1, RM, hin, hset, appR, hp, hlim, kyD]
            | true =>
              have hs : s = wY := by simpa using hy
              subst hs
              simp [B_l_met_1, RM, hin, hset, appR, hp, hlim, kyD]
          · rw [hsel, if_pos hy, addAll_one, if_neg hk]
        · refine step K (by (first | lia | omega)) hK ?_ ?_
          · cases yg with
            | false => simp at hy
            | true =>
              have hs : ¬ s = wY := by simpa using hy
              simp [B_l_met_1, RM, hin, hs]
          · rw [hsel, if_neg hy]; rfl

theorem tail_met {Φ : Fns} {H : D} {row : Option Lo} {lo : Lo} {yg : Bool} {K : List Ky} {i : Int} {val : Option Lo} {vs : List D} (hrow : row = some lo) (hit : items lo.val = some vs) (hno : lo.own?.isNone = true) (hK : ∀ q ∈ K, q.1.isSome = true) (hv : ∀ v ∈ vs, okV (inB y.length o.length) v) (hl : K.length + vs.length < lim) :
    ∃ val', exs Φ (RM H row yg K i val) (.cons (.forV 6 1 B_l_met_1) (.cons (.asg 5 (.bin .add (.v 5) (.k (.int 1)))) .nil)) = some (.next (RM H row yg (addAll K (selK yg vs)) (i + 1) val')) := by
  obtain ⟨val', hp⟩ := push_met (Φ := Φ) (H := H) (row := row) (yg := yg) (i := i) vs K val hK hv hl
  refine ⟨val', ?_⟩
  rw [exs_cons, ex_forV (lo := lo) (by rw [hrow]; rfl) hit hno (okVs.pures hv), hp, seqR_next]
  simp [RM]

theorem turn_met (hf : P[13]? = some F_l_fields) (G : HG y o r) {row : Option Lo} {yg : Bool} {K : List Ky} {i : Nat} {p : Ky} {val : Option Lo} (hi : K[i]? = some p) (hK : ∀ q ∈ K, okK y o q) (hl : K.length ≤ 2400) :
    ∃ row' val', exs (run keep P (n + 1)) (RM (heapD y o r bk) row yg K i val) B_l_met_2 = some (.next (RM (heapD y o r bk) row' yg (addAll K (sucK yg y o p)) ((i + 1 : Nat) : Int) val')) := by
  have hp := hK p (List.mem_of_getElem? hi)
  obtain ⟨s, ep, ed⟩ := hp.eqn
  obtain ⟨a, rw', _, er, _, _, hrl, hrv⟩ := G.at hp
  have hfd := r_fields (keep := keep) (n := n) hf G (bk := bk) (s := s) (i := p.2) (by rw [← ep]; exact hp)
  rw [← ed, ← ep] at hfd
  have hrp : D.pure (.tup (rowK y o p)) = true := by rw [er]; exact okVs.tup hrv
  obtain ⟨val', ht⟩ := tail_met (y := y) (o := o) (Φ := run keep P (n + 1)) (H := heapD y o r bk) (row := some (.dat (.tup (rowK y o p)))) (lo := .dat (.tup (rowK y o p))) (yg := yg) (K := K) (i := (i : Int)) (val := val) (vs := rowK y o p) rfl rfl rfl (fun q hq => (hK q hq).isS) (by rw [er]; exact hrv) (by rw [er, lim_n]; (first | lia | omega))
  refine ⟨some (.dat (.tup (rowK y o p))), val', ?_⟩
  unfold B_l_met_2
  rw [exs_cons, ex_iff]
  have hm : (K.map kyD)[i]? = some (kyD p) := by rw [List.getElem?_map, hi]; rfl
  have c1 : ev (run keep P (n + 1)) (RM (heapD y o r bk) row yg K i val) (.cmp .ge (.v 5) (.k (.int 0))) = some (.bool true) := by simp [RM]
  rw [c1, ifS_bool, if_pos rfl]
  have c2 : exs (run keep P (n + 1)) (RM (heapD y o r bk) row yg K i val) (.cons (.callS (.var 1) 13 (.cons (.v 0) (.cons (.idx (.v 4) (.v 5)) .nil))) .nil) = some (.next (RM (heapD y o r bk) (some (.dat (.tup (rowK y o p)))) yg K i val)) := by
    have hm' : Option.map kyD K[i]? = some (kyD p) := by rw [hi]; rfl
    simp [RM, hm', hfd, hrp]
  rw [c2, seqR_next, ht]
  rfl

theorem loop_bfs (hf : P[13]? = some F_l_fields) (G : HG y o r) {yg : Bool} {K' : List Ky} : ∀ (m i : Nat) (K : List Ky) (row val : Option Lo), K.Nodup → (∀ q ∈ K, okK y o q) → bfs (sucK yg y o) m i K = some K' →
    ∃ row' i' val', loopW (fun ρ => (ev (run keep P (n + 1)) ρ (.cmp .lt (.v 5) (.len (.v 4)))).bind isTrueD) (fun ρ => exs (run keep P (n + 1)) ρ B_l_met_2) m (RM (heapD y o r bk) row yg K i val) = some (.next (RM (heapD y o r bk) row' yg K' i' val'))
  | 0, i, K, row, val, _, _, h => by cases h
  | m + 1, i, K, row, val, hd, hK, h => by
    rw [bfs_succ] at h
    have F := fin_all G yg
    have hf' := F.few K hd hK
    have hyl := G.yl
    have hol := G.ol
    cases e : K[i]? with
    | none =>
      rw [e] at h
      have hi : K.length ≤ i := List.getElem?_eq_none_iff.mp e
      cases h
      refine ⟨row, i, val, loopW_end ?_⟩
      simp [RM]; (first | lia | omega)
    | some p =>
      rw [e] at h
      have hlt := (List.getElem?_eq_some_iff.mp e).1
      obtain ⟨row', val', ht⟩ := turn_met (keep := keep) (n := n) (bk := bk) (row := row) (yg := yg) (val := val) hf G e hK (by (first | lia | omega))
      obtain ⟨row'', i'', val'', hl⟩ := loop_bfs hf G m (i + 1) (addAll K (sucK yg y o p)) row' val' (addAll_nodup hd) (fun q hq => by
        rcases addAll_mem.mp hq with h | h
        · exact hK q h
        · exact F.succ_ok p (hK p (List.mem_of_getElem? e)) q h) h
      refine ⟨row'', i'', val'', loopW_turn ?_ (.inl ht) hl⟩
      simp [RM]; (first | lia | omega)

theorem rho_met (a b c : D) : rho0 F_l_met.names F_l_met.ps [a, b, c] = [some (.arg a), some (.arg b), some (.arg c), none, none, none, none, none, none, none, none] := by kernel_rfl
theorem r_met (hm : P[15]? = some F_l_met) (hf : P[13]? = some F_l_fields) (G : HG y o r) {row : D} {yg : Bool} {vs : List D} {K : List Ky} (hit : items row = some vs) (hv : ∀ v ∈ vs, okV (inB y.length o.length) v) (hvl : vs.length ≤ 10000) (hb : bfs (sucK yg y o) 999999 0 (addAll [] (selK yg vs)) = some K) :
    run keep P (n + 2) 15 [heapD y o r bk, row, .bool yg] = some (.own (.dic (kset K))) := by
  rw [run_at hm, fnRun_eq rfl, rho_met]
  obtain ⟨val', ht⟩ := tail_met (y := y) (o := o) (Φ := run keep P (n + 1)) (H := heapD y o r bk) (row := some (.arg row)) (lo := .arg row) (yg := yg) (K := []) (i := -1) (val := none) (vs := vs) rfl hit rfl (by simp) hv (by rw [lim_n]; simp; (first | lia | omega))
  obtain ⟨row', i', val'', hl⟩ := loop_bfs (keep := keep) (n := n) (bk := bk) hf G 999999 0 _ (some (.arg row)) val' (addAll_nodup .nil) (fun q hq => by
    rcases addAll_mem.mp hq with h | h
    · simp at h
    · exact selK_ok hv q h) hb
  have hfull : loopW (fun ρ => (ev (run keep P (n + 1)) ρ (.cmp .lt (.v 5) (.len (.v 4)))).bind isTrueD) (fun ρ => exs (run keep P (n + 1)) ρ B_l_met_2) (999999 + 1) (RM (heapD y o r bk) (some (.arg row)) yg [] (-1) none) = some (.next (RM (heapD y o r bk) row' yg K i' val'')) := by
    refine loopW_turn (by simp [RM]) (.inl ?_) hl
    unfold B_l_met_2
    rw [exs_cons, ex_iff]
    have c1 : ev (run keep P (n + 1)) (RM (heapD y o r bk) (some (.arg row)) yg [] (-1) none) (.cmp .ge (.v 5) (.k (.int 0))) = some (.bool false) := by simp [RM]
    rw [c1, ifS_bool, if_neg (by decide), exs_nil, seqR_next, ht]
    rfl
  unfold F_l_met
  rw [exs_cons, ex_newD, seqR_next, exs_cons, ex_ownD, evs_nil, ownR_some, if_pos (show D.pures [] = true from rfl), seqR_next, exs_cons, ex_asg, ev_neg, ev_k, n_int, asgR_some, if_pos (show D.pure (.int (-1)) = true from rfl), seqR_next, exs_cons, ex_whl]
  rw [show lim = 999999 + 1 from rfl, show ((([some (Lo.arg (heapD y o r bk)), some (.arg row), some (.arg (.bool yg)), none, none, none, none, none, none, none, none].set 3 (some (.dic []))).set 4 (some (.own []))).set 5 (some (.dat (.int (-1))))) = RM (heapD y o r bk) (some (.arg row)) yg [] (-1) none from rfl, hfull, seqR_next]
  rfl
end
end Mine

namespace Mine
open PySem

/-! begun -/
/-- what a pair of the book leads to -/
noncomputable def bkV (o : List D) (d : D) : D := match d with
  | .tup [.int a, .int b] => ((rowT o[a.toNat]?)[b.toNat]?).getD .none
  | _ => .none
noncomputable def BkOk (o bk : List D) : Prop := ∀ d ∈ bk, ∃ (a b : Nat) (ag : Int) (row : List D) (v : D), d = .tup [.int a, .int b] ∧ o[a]? = some (.tup [.int ag, .tup row]) ∧ row[b]? = some v
theorem bkV_eq {o : List D} {a b : Nat} {ag : Int} {row : List D} {v : D} (h : o[a]? = some (.tup [.int ag, .tup row])) (hv : row[b]? = some v) : bkV o (.tup [.int a, .int b]) = v := by
  unfold bkV
  simp [h, rowT_tup, hv]
theorem bkV_ok {y o r bk : List D} (G : HG y o r) (hb : BkOk o bk) : ∀ v ∈ bk.map (bkV o), okV (inB y.length o.length) v := by
  intro v hv
  obtain ⟨d, hd, rfl⟩ := List.mem_map.mp hv
  obtain ⟨a, b, ag, row, v, rfl, h1, h2⟩ := hb d hd
  rw [bkV_eq h1 h2]
  obtain ⟨ag', row', e, _, hr⟩ := G.to _ (List.mem_of_getElem? h1)
  cases e
  exact hr v (List.mem_of_getElem? h2)

section
variable {keep : Bool} {P : Prg} (C : Common P) {n : Nat} {y o r bk : List D}
noncomputable def RG (H : D) (y o r bk acc : List D) (p q : Option Lo) : Rho := [some (.arg H), some (.dat (.tup y)), some (.dat (.tup o)), some (.dat (.tup r)), some (.dat (.tup bk)), some (.own acc), p, q, none]
theorem push_begun {Φ : Fns} {H : D} {bk0 : List D} (G : HG y o r) : ∀ (bk acc : List D) (p q : Option Lo), BkOk o bk → acc.length + bk.length < lim →
    ∃ p' q', loopO (fun d ρ => (unpS [6, 7] d ρ).bind fun ρ' => exs Φ ρ' B_begun_1) bk (RG H y o r bk0 acc p q) = some (.next (RG H y o r bk0 (acc ++ bk.map (bkV o)) p' q'))
  | [], acc, p, q, _, _ => ⟨p, q, by simp [loopO_nil]⟩
  | d :: bk, acc, p, q, hb, hl => by
    rw [List.length_cons] at hl
    obtain ⟨a, b, ag, row, v, rfl, h1, h2⟩ := hb d (.head _)
    have hv : okV (inB y.length o.length) v := by
      have := bkV_ok G hb (bkV o (.tup [.int a, .int b])) (List.mem_map.mpr ⟨_, .head _, rfl⟩)
      rwa [bkV_eq h1 h2] at this
    obtain ⟨p', q', ih⟩ := push_begun G bk (acc ++ [v]) (some (.dat (.int a))) (some (.dat (.int b))) (fun x hx => hb x (.tail _ hx)) (by simp; (first | lia | omega))
    refine ⟨p', q', ?_⟩
    have hlim : acc.length < lim := by (first | lia | omega)
    have hbody : (unpS [6, 7] (.tup [.int a, .int b]) (RG H y o r bk0 acc p q)).bind (fun ρ' => exs Φ ρ' B_begun_1) = some (.next (RG H y o r bk0 (acc ++ [v]) (some (.dat (.int a))) (some (.dat (.int b))))) := by
      show exs Φ (RG H y o r bk0 acc (some (.dat (.int a))) (some (.dat (.int b)))) B_begun_1 = _
      simp [B_begun_1, RG, h1, h2, appR, hv.pure, hlim]
    show ((unpS [6, 7] (.tup [.int a, .int b]) (RG H y o r bk0 acc p q)).bind (fun ρ' => exs Φ ρ' B_begun_1)).bind _ = _
    rw [hbody]
    show loopO _ bk (RG H y o r bk0 (acc ++ [v]) _ _) = _
    rw [ih, List.map_cons, bkV_eq h1 h2]
    simp
theorem ex_forU {Φ : Fns} {ρ : Rho} {xs : List Nat} {y : Nat} {b : Ss} {lo : Lo} {ds : List D} (h : ρ.get y = some lo) (hi : items lo.val = some ds) (ho : lo.own?.isNone = true) (hp : D.pures ds = true) :
    ex Φ ρ (.forU xs y b) = loopO (fun d ρ => (unpS xs d ρ).bind fun ρ' => exs Φ ρ' b) ds ρ := by
  show (ρ.get y).bind _ = _
  rw [h, Option.bind_some, hi, Option.bind_some, if_pos ⟨ho, hp⟩]
theorem filt_ys {vs : List D} (h : ∀ v ∈ vs, okV (inB y.length o.length) v) : (vs.filter fun v => (yK v).isSome).map (fun v => match v with | .tup [_, x] => x | _ => .none) = (ysK vs).map kyD := by
  induction vs with
  | nil => rfl
  | cons v vs ih =>
    have ih := ih fun x hx => h x (.tail _ hx)
    rcases (h v (.head _)).cases7 with ⟨q1, _⟩ | ⟨i, q1, rfl, _⟩
    · rw [List.filter_cons_of_neg (by rw [q1]; decide), ih]
      unfold ysK
      rw [List.filterMap_cons_none q1]
    · rw [List.filter_cons_of_pos (by rw [q1]; rfl), List.map_cons, ih]
      unfold ysK
      rw [List.filterMap_cons_some q1, List.map_cons]; rfl
theorem rho_begun (a : D) : rho0 F_begun.names F_begun.ps [a] = [some (.arg a), none, none, none, none, none, none, none, none] := by kernel_rfl
include C in
theorem r_begun (hb : P[16]? = some F_begun) (G : HG y o r) (hB : BkOk o bk) (hbl : bk.length ≤ 9000) (hp : D.pure (heapD y o r bk) = true) :
    run keep P (n + 2) 16 [heapD y o r bk] = some (.own (.own ((ysK (r ++ bk.map (bkV o))).map kyD))) := by
  rw [run_at hb, fnRun_eq rfl, rho_begun]
  have hps := D.pure_item hp
  have hrl := G.rl
  have hbp : D.pures bk = true := by
    refine List.all_eq_true.mpr fun d hd => ?_
    obtain ⟨a, b, ag, row, v, rfl, _⟩ := hB d hd
    rfl
  have hall : ∀ v ∈ r ++ bk.map (bkV o), okV (inB y.length o.length) v := fun v hv => by
    rcases List.mem_append.mp hv with h | h
    · exact G.vr v h
    · exact bkV_ok G hB v h
  obtain ⟨p', q', hl⟩ := push_begun (Φ := run keep P (n + 1)) (H := heapD y o r bk) (bk0 := bk) G bk r none none hB (by rw [lim_n]; (first | lia | omega))
  have hcomp : ev (run keep P (n + 1)) (RG (heapD y o r bk) y o r bk (r ++ bk.map (bkV o)) p' q') (.comp C_begun_2 (.seq (.v 5)) (.and (.call 8 (.cons (.v 9) .nil)) (.cmp .eq (.idx (.v 9) (.k (.int 0))) (.k (.str (Str.ofString "young")))))) = some (.lst ((ysK (r ++ bk.map (bkV o))).map kyD)) := by
    refine ev_comp (ds := r ++ bk.map (bkV o)) (evIt_seq (d := .lst (r ++ bk.map (bkV o))) (by simp [RG]) rfl (okVs.pures hall)) ?_ (keys_pures _)
    rw [← filt_ys hall]
    refine comp_filter _ _ _ fun d hd => ?_
    have i1 := r_is_pointer (keep := keep) C (n := n) d
    rcases (hall d hd).cases7 with ⟨q1, q2 | ⟨s, i, rfl, q2⟩⟩ | ⟨i, q1, rfl, _⟩
    · rw [q2] at i1
      exact ⟨by simp [RG, i1, q1], fun h => by rw [q1] at h; cases h⟩
    · have q2' : ¬ s = wY := by simpa using q2
      exact ⟨by simp [RG, i1, q1, q2'], fun h => by rw [q1] at h; cases h⟩
    · exact ⟨by simp [RG, i1, q1], fun _ => by simp [RG, C_begun_2]⟩
  unfold F_begun
  rw [exs_cons, ex_unp]
  have c1 : ev (run keep P (n + 1)) [some (.arg (heapD y o r bk)), none, none, none, none, none, none, none, none] (.v 0) = some (.tup [.tup y, .tup o, .tup r, .tup bk]) := by simp [heapD]
  rw [c1, unpR_tup, if_pos ⟨rfl, hps⟩, seqR_next, exs_cons, ex_ownL]
  show outR keep (seqR (ownR [some (.arg (heapD y o r bk)), some (.dat (.tup y)), some (.dat (.tup o)), some (.dat (.tup r)), some (.dat (.tup bk)), none, none, none, none] 5 (some r)) _) = _
  rw [ownR_some, if_pos (okVs.pures G.vr), seqR_next]
  show outR keep (exs (run keep P (n + 1)) (RG (heapD y o r bk) y o r bk r none none) _) = _
  rw [exs_cons, ex_forU (lo := .dat (.tup bk)) rfl rfl rfl hbp, hl, seqR_next, exs_cons]
  show outR keep (seqR ((ev (run keep P (n + 1)) (RG (heapD y o r bk) y o r bk (r ++ bk.map (bkV o)) p' q') (.comp C_begun_2 (.seq (.v 5)) (.and (.call 8 (.cons (.v 9) .nil)) (.cmp .eq (.idx (.v 9) (.k (.int 0))) (.k (.str (Str.ofString "young"))))))).bind fun d => (lstOf d).map fun ds => .own (.own ds)) _) = _
  rw [hcomp]
  rfl
end
end Mine

namespace Mine
open PySem

theorem bookOf_ok {o : List D} {m : Nat} {b : Bd} (h : ∀ t ∈ o, okTm m b t) : BkOk o (bookOf o) := by
  intro d hd
  obtain ⟨l, hl, hd⟩ := List.mem_flatten.mp hd
  obtain ⟨q, hq, rfl⟩ := List.mem_map.mp hl
  obtain ⟨z, hz, rfl⟩ := List.mem_map.mp hd
  have hq' := List.mem_zipIdx_iff_getElem?.mp hq
  have hz' := List.mem_zipIdx_iff_getElem?.mp (List.mem_filter.mp hz).1
  obtain ⟨ag, row, e, _, _⟩ := h q.1 (List.mem_of_getElem? hq')
  rw [e] at hz' hq'
  exact ⟨q.2, z.2, ag, row, z.1, rfl, hq', hz'⟩

/-- the places that are due -/
noncomputable def dueL (L : Nat) (p : Int → Bool) : List Int := ((List.range L).map fun (i : Nat) => (i : Int)).filter p
theorem due_rise (L : Nat) (p : Int → Bool) : (dueL L p).Pairwise (· < ·) := by
  unfold dueL
  refine List.Pairwise.filter _ (List.pairwise_map.mpr (List.pairwise_lt_range.imp fun h => ?_))
  (first | lia | omega)
theorem isort_rise {ns : List Int} (h : ns.Nodup) : (isort ns).Pairwise (· < ·) := by
  have h1 := isort_sorted ns
  have h2 : (isort ns).Nodup := (isort_perm ns).nodup_iff.mpr h
  exact (h1.and h2).imp fun ⟨a, b⟩ => by (first | lia | omega)
theorem due_eq {ns : List Int} {L : Nat} {p : Int → Bool} (hnd : ns.Nodup) (hmem : ∀ i, i ∈ ns ↔ (0 ≤ i ∧ i < L ∧ p i = true)) : isort ns = dueL L p := by
  refine rise_unique (isort_rise hnd) (due_rise L p) fun i => ?_
  rw [(isort_perm ns).mem_iff, hmem]
  unfold dueL
  rw [List.mem_filter, List.mem_map]
  constructor
  · rintro ⟨h0, h1, h2⟩
    exact ⟨⟨i.toNat, List.mem_range.mpr (by (first | lia | omega)), by (first | lia | omega)⟩, h2⟩
  · rintro ⟨⟨j, hj, rfl⟩, h2⟩
    have := List.mem_range.mp hj
    exact ⟨by (first | lia | omega), by (first | lia | omega), h2⟩
theorem pl_nodup {s : Str} {K : List Ky} (h : K.Nodup) : (pl s K).Nodup := by
  unfold pl
  refine List.pairwise_map.mpr ?_
  refine List.Pairwise.imp_of_mem ?_ (List.Pairwise.filter _ h)
  intro a b ha hb hab e
  have h1 := (List.mem_filter.mp ha).2
  have h2 := (List.mem_filter.mp hb).2
  have h1' : a.1 = some s := by simpa using h1
  have h2' : b.1 = some s := by simpa using h2
  exact hab (Prod.ext (h1'.trans h2'.symm) e)
theorem plY_nodup {y : List D} {K : List Ky} (h : K.Nodup) (hok : ∀ k ∈ K, okY y k) : (plY K).Nodup := by
  unfold plY
  refine List.pairwise_map.mpr (List.Pairwise.imp_of_mem ?_ h)
  intro a b ha hb hab e
  exact hab (Prod.ext ((hok a ha).1.trans (hok b hb).1.symm) e)
theorem pl_mem {s : Str} {K : List Ky} {i : Int} : i ∈ pl s K ↔ ((some s, i) : Ky) ∈ K := by
  unfold pl
  rw [List.mem_map]
  constructor
  · rintro ⟨k, hk, rfl⟩
    obtain ⟨h1, h2⟩ := List.mem_filter.mp hk
    have h2' : k.1 = some s := by simpa using h2
    rw [← h2']; exact h1
  · intro h
    exact ⟨(some s, i), List.mem_filter.mpr ⟨h, by simp⟩, rfl⟩
theorem plY_mem {y : List D} {K : List Ky} (hok : ∀ k ∈ K, okY y k) {i : Int} : i ∈ plY K ↔ ((none, i) : Ky) ∈ K := by
  unfold plY
  rw [List.mem_map]
  constructor
  · rintro ⟨k, hk, rfl⟩
    rw [← (hok k hk).eqn.1]; exact hk
  · intro h
    exact ⟨(none, i), h, rfl⟩

/-- the two ways to go from young to young meet the same -/
theorem young_same {y o : List D} {vs : List D} {Ka Kb : List Ky} (hv : ∀ v ∈ vs, okV (inB y.length o.length) v) (a : Least (sucY y o) (ysK vs) Ka) (b : Least (sucK true y o) (selK true vs) Kb) (hr : ∀ k, okK y o k → ∀ v ∈ rowK y o k, okV (inB y.length o.length) v) (hKa : ∀ k ∈ Ka, okY y k) (hKb : ∀ k ∈ Kb, okK y o k) (i : Int) : ((none, i) : Ky) ∈ Ka ↔ ((some wY, i) : Ky) ∈ Kb := by
  have link : ∀ ws : List D, (∀ v ∈ ws, okV (inB y.length o.length) v) → ∀ j : Int, ((none, j) : Ky) ∈ ysK ws ↔ ((some wY, j) : Ky) ∈ selK true ws := by
    intro ws hw j
    unfold ysK selK ptsK
    rw [List.mem_filter, List.mem_filterMap, List.mem_filterMap]
    constructor
    · rintro ⟨v, h1, h2⟩
      rcases (hw v h1).cases7 with ⟨q, _⟩ | ⟨i', q, rfl, _⟩
      · rw [q] at h2; cases h2
      · rw [q] at h2; cases h2
        exact ⟨⟨_, h1, rfl⟩, by simp⟩
    · rintro ⟨⟨v, h1, h2⟩, _⟩
      rcases (hw v h1).cases7 with ⟨q, q2 | ⟨s, i', rfl, q2⟩⟩ | ⟨i', q, rfl, _⟩
      · rcases (hw v h1).cases6 with ⟨p1, _⟩ | ⟨s, i', p1, rfl, _⟩
        · rw [p1] at h2; cases h2
        · cases q2
      · cases h2; simp at q2
      · cases h2; exact ⟨_, h1, q⟩
  have onlyY : ∀ ws : List D, ∀ k ∈ selK true ws, k.1 = some wY := fun ws k hk => by
    have := (List.mem_filter.mp hk).2
    simpa using this
  constructor
  · intro h
    have := a.least (fun k => ((some wY, k.2) : Ky) ∈ Kb) ⟨fun p hp => ?_, fun p hp q hq => ?_⟩ _ h
    · exact this
    · have := (ysK_ok hv p hp).eqn.1
      rw [this] at hp
      exact b.clo.start _ ((link vs hv p.2).mp hp)
    · have hpK := hKb _ hp
      have hrow := hr _ hpK
      have hq' : q ∈ ysK (rowK y o (some wY, p.2)) := hq
      have := (ysK_ok hrow q hq').eqn.1
      rw [this] at hq'
      exact b.clo.step _ hp _ ((link _ hrow q.2).mp hq')
  · intro h
    have := b.least (fun k => k.1 = some wY ∧ ((none, k.2) : Ky) ∈ Ka) ⟨fun p hp => ?_, fun p hp q hq => ?_⟩ _ h
    · exact this.2
    · have e := onlyY _ p hp
      refine ⟨e, (link vs hv p.2).mpr ?_ |> a.clo.start _⟩
      rw [← e]; exact hp
    · have hq' : q ∈ selK true (rowK y o p) := hq
      have e := onlyY _ q hq'
      refine ⟨e, ?_⟩
      have hp1 : p = (some wY, p.2) := Prod.ext hp.1 rfl
      have hrow := hr _ ((hKa _ hp.2).toK (o := o))
      rw [hp1] at hq'
      refine a.clo.step _ hp.2 _ ((link _ hrow q.2).mpr ?_)
      have eq : ((some wY, q.2) : Ky) = q := Prod.ext e.symm rfl
      rw [eq]; exact hq'
end Mine

namespace Mine
open PySem

theorem heap_pure6 {y o r bk : List D} {m : Nat} {b : Bd} (hy : ∀ t ∈ y, okTm m b t) (ho : ∀ t ∈ o, okTm m b t) (hr : ∀ v ∈ r, okV b v) (hb : BkOk o bk) : D.pure (heapD y o r bk) = true := by
  have t : ∀ l : List D, (∀ t ∈ l, okTm m b t) → D.okN 4 (.tup l) = true := fun l h => by rw [D.okN_tup]; exact List.all_eq_true.mpr fun v hv => (h v hv).okN
  have v : D.okN 2 (.tup r) = true := by rw [D.okN_tup]; exact List.all_eq_true.mpr fun v hv => (hr v hv).okN
  have k : D.okN 2 (.tup bk) = true := by
    rw [D.okN_tup]
    refine List.all_eq_true.mpr fun d hd => ?_
    obtain ⟨a, b', ag, row, v, rfl, _⟩ := hb d hd
    rfl
  refine D.okN_le (n := 5) (by decide) ?_
  rw [heapD, D.okN_tup]
  simp [t y hy, t o ho, D.okN_le (by decide : 2 ≤ 4) v, D.okN_le (by decide : 2 ≤ 4) k]

section
variable {keep : Bool} {P : Prg} (C : Common P) {n : Nat} {y o r bk : List D}

/-- the loop that gathers the first values -/
theorem push_firsts {Φ : Fns} (G : HG y o r) {H : D} (hH : H = heapD y o r bk) {scr' : Lo} {tl : Rho} : ∀ (bk' acc : List D) (p : Option Lo), BkOk o bk' → acc.length + bk'.length < lim →
    ∃ p', loopO (fun d ρ => exs Φ (ρ.set 3 (some (.dat d))) B_law_1) bk' (some scr' :: some (.dat H) :: some (.own acc) :: p :: tl) = some (.next (some scr' :: some (.dat H) :: some (.own (acc ++ bk'.map (bkV o))) :: p' :: tl))
  | [], acc, p, _, _ => ⟨p, by simp [loopO_nil]⟩
  | d :: bk', acc, p, hb, hl => by
    rw [List.length_cons] at hl
    obtain ⟨a, b, ag, row, v, rfl, h1, h2⟩ := hb d (.head _)
    have hv : okV (inB y.length o.length) v := by
      have := bkV_ok G hb (bkV o (.tup [.int a, .int b])) (List.mem_map.mpr ⟨_, .head _, rfl⟩)
      rwa [bkV_eq h1 h2] at this
    obtain ⟨p', ih⟩ := push_firsts G hH bk' (acc ++ [v]) (some (.dat (.tup [.int a, .int b]))) (fun x hx => hb x (.tail _ hx)) (by simp; (first | lia | omega))
    refine ⟨p', ?_⟩
    have hlim : acc.length < lim := by (first | lia | omega)
    have hbody : exs Φ ((some scr' :: some (.dat H) :: some (.own acc) :: p :: tl : Rho).set 3 (some (.dat (.tup [.int a, .int b])))) B_law_1 = some (.next (some scr' :: some (.dat H) :: some (.own (acc ++ [v])) :: some (.dat (.tup [.int a, .int b])) :: tl)) := by
      subst hH
      simp [B_law_1, heapD, h1, h2, appR, hv.pure, hlim]
    show (exs Φ ((some scr' :: some (.dat H) :: some (.own acc) :: p :: tl : Rho).set 3 (some (.dat (.tup [.int a, .int b])))) B_law_1).bind _ = _
    rw [hbody]
    show loopO _ bk' _ = _
    rw [ih, List.map_cons, bkV_eq h1 h2]
    simp

/-- the places that are due, as the law asks for them -/
theorem ev_due {Φ : Fns} {ρ : Rho} {j : Nat} {s : Str} {K : List Ky} {a el : E} {L : Nat} (hρ : ρ.length = 19) (hK : ∀ k ∈ K, k.1.isSome = true) (hj : Rho.dic? ρ j = some (kset K)) (hjl : j < 19) (ha : ev Φ ρ a = some (.int L)) (hL : L ≤ 1200) (hel : el = .v 19) :
    ev Φ ρ (.comp el (.range a) (.inD false (.tup (.cons (.k (.str s)) (.cons (.v 19) .nil))) j)) = some (.lst ((dueL L (fun i => decide (((some s, i) : Ky) ∈ K))).map .int)) := by
  subst hel
  refine ev_comp (ds := rangeD 0 (L : Int)) (evIt_range ha (by (first | lia | omega)) (by (first | lia | omega))) ?_ (ints_pures6 _)
  have e : ((dueL L (fun i => decide (((some s, i) : Ky) ∈ K))).map D.int) = ((rangeD 0 (L : Int)).filter (fun d => match d with | .int i => decide (((some s, i) : Ky) ∈ K) | _ => false)).map id := by
    unfold dueL rangeD
    rw [List.map_id, List.filter_map, List.filter_map, List.map_map]
    simp only [Int.sub_zero, Int.toNat_natCast]
    have e1 : ((fun d => match d with | D.int i => decide (((some s, i) : Ky) ∈ K) | _ => false) ∘ fun (i : Nat) => D.int (0 + (i : Int))) = ((fun i => decide (((some s, i) : Ky) ∈ K)) ∘ fun (i : Nat) => (i : Int)) := by
      funext i
      simp
    rw [e1]
    refine List.map_congr_left fun i _ => ?_
    simp
  rw [e]
  refine comp_filter _ _ _ fun d hd => ?_
  obtain ⟨i, rfl, _⟩ := rangeD_mem hd
  have hg : Rho.get (ρ ++ [some (.dat (.int (i : Int)))]) 19 = some (.dat (.int i)) := by
    unfold Rho.get
    rw [List.getElem?_append_right (by (first | lia | omega)), hρ]; rfl
  have hd' : Rho.dic? (ρ ++ [some (.dat (.int (i : Int)))]) j = some (kset K) := by
    rw [← hj]
    unfold Rho.dic? Rho.get
    rw [List.getElem?_append_left (by (first | lia | omega))]
  have hin := in_set (neg := false) (d := .tup [.str s, .int i]) (k := (some s, (i : Int))) (K := K) rfl hK rfl
  refine ⟨?_, fun _ => by simp [hg]⟩
  simp [hg, hd', hin]
end
end Mine

namespace Mine
open PySem

theorem due_len (L : Nat) (p : Int → Bool) : (dueL L p).length ≤ L := by
  unfold dueL
  exact Nat.le_trans (List.length_filter_le _ _) (by simp)
theorem sort_ok {ns : List Int} {L : Nat} {p : Int → Bool} (hL : L ≤ 70) (hnd : ns.Nodup) (hmem : ∀ i, i ∈ ns ↔ (0 ≤ i ∧ i < L ∧ p i = true)) : SortOk ns ∧ isort ns = dueL L p := by
  have e := due_eq hnd hmem
  refine ⟨.inr (.inl ⟨?_, hnd⟩), e⟩
  have h1 := (isort_perm ns).length_eq
  rw [e] at h1
  have := due_len L p
  (first | lia | omega)
theorem okK_half {y o : List D} {s : Str} {i : Int} (h : okK y o (some s, i)) : 0 ≤ i ∧ i < ((if s = wY then y.length else o.length : Nat) : Int) := by
  obtain ⟨t, e, _, h0, h1⟩ := h
  cases e
  refine ⟨h0, ?_⟩
  by_cases q : s = wY
  · rw [if_pos q] at h1 ⊢; exact h1
  · rw [if_neg q] at h1 ⊢; exact h1
theorem G_row {y o r : List D} (G : HG y o r) : ∀ k, okK y o k → ∀ v ∈ rowK y o k, okV (inB y.length o.length) v := fun k hk => by
  obtain ⟨a, row, _, er, _, _, _, hv⟩ := G.at hk
  rw [er]; exact hv

theorem rho_law6 (a : D) : rho0 F_law.names F_law.ps [a] = [some (.arg a), none, none, none, none, none, none, none, none, none, none, none, none, none, none, none, none, none, none] := by kernel_rfl

section
variable {xs : List Int}
noncomputable def RL (xs : List Int) (H : D) (fs : List D) (p a b f : Option Lo) : Rho := [some (.arg (scr xs)), some (.dat H), some (.own fs), p, a, b, f, none, none, none, none, none, none, none, none, none, none, none, none]

theorem law_plain (h : ¬ cellAt xs 3 % 32 = 7) : run false P06 20 20 [scr xs] = some (.ok (.bool true)) := by
  have C := com06
  have c3 := r_cell_at (keep := false) C (n := 18) (xs := xs) (k := 3) (by (first | lia | omega))
  obtain ⟨y, o, r, hheap, hok⟩ := r_heap_by (keep := false) C (n := 15) (xs := xs)
  have hyl := hok.yl
  have hol := hok.ol
  have hrl := hok.rl
  have G : HG y o r := ⟨by (first | lia | omega), by (first | lia | omega), by (first | lia | omega), hok.ty, hok.to, hok.vr⟩
  have hB := bookOf_ok hok.to
  have hbl : (bookOf o).length ≤ 7000 := by
    have := bookTo_len hok.to o.length (Nat.le_refl _)
    rw [bookTo_all] at this
    (first | lia | omega)
  have hpure : D.pure (heapD y o r (bookOf o)) = true := heap_pure6 hok.ty hok.to hok.vr hB
  have hyp : D.pure (.tup y) = true := okTs.tup hok.ty
  have hbp : D.pures (bookOf o) = true := by rw [← bookTo_all]; exact bookTo_pures _ _
  have hall : ∀ v ∈ r ++ (bookOf o).map (bkV o), okV (inB y.length o.length) v := fun v hv => by
    rcases List.mem_append.mp hv with h | h
    · exact G.vr v h
    · exact bkV_ok G hB v h
  have hfl : (r ++ (bookOf o).map (bkV o)).length ≤ 8000 := by rw [List.length_append, List.length_map]; (first | lia | omega)
  -- the four searches
  obtain ⟨Kn, bn, ln, on⟩ := bfs_from (fin_all G true) (S := selK true (r ++ (bookOf o).map (bkV o))) (selK_ok hall) (n := 999999) (by (first | lia | omega))
  have hyS : (ysK (r ++ (bookOf o).map (bkV o))).length ≤ 8000 := Nat.le_trans (List.length_filterMap_le _ _) hfl
  have hpS : (ptsK r).length ≤ 71 := Nat.le_trans (List.length_filterMap_le _ _) hrl
  obtain ⟨Ka, ba, la, oa⟩ := dfs_from (fin_young G) (S := ysK (r ++ (bookOf o).map (bkV o))) (ysK_ok hall) (n := lim) (by rw [lim_n]; (first | lia | omega))
  obtain ⟨Kl, bl, ll, ol'⟩ := bfs_from (fin_all G false) (S := selK false r) (selK_ok hok.vr) (n := 999999) (by (first | lia | omega))
  obtain ⟨Kb, bb, lb, ob'⟩ := dfs_from (fin_all G false) (S := ptsK r) (ptsK_ok hok.vr) (n := lim) (by rw [lim_n]; (first | lia | omega))
  have hsel : selK false r = ptsK r := by unfold selK; simp
  rw [hsel] at ll
  have fa := (fin_young G).few Ka la.nodup oa
  have fb := (fin_all G false).few Kb lb.nodup ob'
  -- what is due
  have dueA := sort_ok (p := fun i => decide (((some wY, i) : Ky) ∈ Kn)) (L := y.length) (by (first | lia | omega)) (plY_nodup la.nodup oa) (fun i => by
    rw [plY_mem oa, young_same hall la ln (G_row G) oa on i]
    constructor
    · intro hi
      have := okK_half (on _ hi)
      rw [if_pos rfl] at this
      exact ⟨this.1, this.2, by simpa using hi⟩
    · rintro ⟨_, _, hi⟩; simpa using hi)
  have dueY := sort_ok (ns := pl wY Kb) (p := fun i => decide (((some wY, i) : Ky) ∈ Kl)) (L := y.length) (by (first | lia | omega)) (pl_nodup lb.nodup) (fun i => by
    rw [pl_mem, lb.same ll]
    constructor
    · intro hi
      have := okK_half (ol' _ hi)
      rw [if_pos rfl] at this
      exact ⟨this.1, this.2, by simpa using hi⟩
    · rintro ⟨_, _, hi⟩; simpa using hi)
  have dueO := sort_ok (ns := pl wO Kb) (p := fun i => decide (((some wO, i) : Ky) ∈ Kl)) (L := o.length) (by (first | lia | omega)) (pl_nodup lb.nodup) (fun i => by
    rw [pl_mem, lb.same ll]
    constructor
    · intro hi
      have := okK_half (ol' _ hi)
      rw [if_neg OneY] at this
      exact ⟨this.1, this.2, by simpa using hi⟩
    · rintro ⟨_, _, hi⟩; simpa using hi)
  -- the calls
  have beg := r_begun (keep := false) C (n := 16) rfl G hB (by (first | lia | omega)) hpure
  have cy := r_come_young (keep := false) C (n := 16) rfl G hyp (ysK_ok hall) (by (first | lia | omega)) beg ba oa (by (first | lia | omega)) dueA.1
  have cb := r_come_both (keep := false) C (n := 15) (bk := bookOf o) rfl rfl G bb ob' (by (first | lia | omega)) dueY.1 dueO.1
  have mn := r_met (keep := false) (P := P06) (n := 17) (bk := bookOf o) (row := .lst (r ++ (bookOf o).map (bkV o))) (yg := true) rfl rfl G rfl hall (by (first | lia | omega)) bn
  have ml := r_met (keep := false) (P := P06) (n := 17) (bk := bookOf o) (row := .tup r) (yg := false) rfl rfl G rfl hok.vr (by (first | lia | omega)) bl
  have pA := r_places (keep := false) (P := P06) (n := 17) (ns := dueL y.length (fun i => decide (((some wY, i) : Ky) ∈ Kn))) rfl rfl (Nat.le_trans (due_len _ _) (by (first | lia | omega)))
  have pY := r_places (keep := false) (P := P06) (n := 17) (ns := dueL y.length (fun i => decide (((some wY, i) : Ky) ∈ Kl))) rfl rfl (Nat.le_trans (due_len _ _) (by (first | lia | omega)))
  have pO := r_places (keep := false) (P := P06) (n := 17) (ns := dueL o.length (fun i => decide (((some wO, i) : Ky) ∈ Kl))) rfl rfl (Nat.le_trans (due_len _ _) (by (first | lia | omega)))
  rw [dueA.2] at cy
  rw [dueY.2, dueO.2] at cb
  obtain ⟨p', hl⟩ := push_firsts (Φ := run false P06 19) G (H := heapD y o r (bookOf o)) rfl (scr' := .arg (scr xs)) (tl := [none, none, none, none, none, none, none, none, none, none, none, none, none, none, none]) (bookOf o) r none hB (by rw [lim_n]; (first | lia | omega))
  have eA := ev_due (Φ := run false P06 19) (ρ := RL xs (heapD y o r (bookOf o)) (r ++ (bookOf o).map (bkV o)) p' (some (.dic (kset Kn))) none none) (j := 4) (s := wY) (K := Kn) (a := .len (.idx (.v 1) (.k (.int 0)))) (el := C_law_2) (L := y.length) rfl (fun k hk => (on k hk).isS) rfl (by (first | lia | omega)) (by simp [RL, heapD]) (by (first | lia | omega)) rfl
  have foundP : D.pure (.tup [.tup ((dueL y.length (fun i => decide (((some wY, i) : Ky) ∈ Kl))).map .int), .tup ((dueL o.length (fun i => decide (((some wO, i) : Ky) ∈ Kl))).map .int)]) = true := by
    have h1 : ∀ ns : List Int, D.okN 7 (.tup (ns.map .int)) = true := fun ns => by
      rw [D.okN_tup]
      refine List.all_eq_true.mpr fun x hx => ?_
      obtain ⟨n, _, rfl⟩ := List.mem_map.mp hx
      rfl
    rw [D.pure, D.okN_tup]
    simp [h1]
  have eY := ev_due (Φ := run false P06 19) (ρ := RL xs (heapD y o r (bookOf o)) (r ++ (bookOf o).map (bkV o)) p' (some (.dic (kset Kn))) (some (.dic (kset Kl))) (some (.dat (.tup [.tup ((dueL y.length (fun i => decide (((some wY, i) : Ky) ∈ Kl))).map .int), .tup ((dueL o.length (fun i => decide (((some wO, i) : Ky) ∈ Kl))).map .int)])))) (j := 5) (s := wY) (K := Kl) (a := .len (.idx (.v 1) (.k (.int 0)))) (el := C_law_3) (L := y.length) rfl (fun k hk => (ol' k hk).isS) rfl (by (first | lia | omega)) (by simp [RL, heapD]) (by (first | lia | omega)) rfl
  have eO := ev_due (Φ := run false P06 19) (ρ := RL xs (heapD y o r (bookOf o)) (r ++ (bookOf o).map (bkV o)) p' (some (.dic (kset Kn))) (some (.dic (kset Kl))) (some (.dat (.tup [.tup ((dueL y.length (fun i => decide (((some wY, i) : Ky) ∈ Kl))).map .int), .tup ((dueL o.length (fun i => decide (((some wO, i) : Ky) ∈ Kl))).map .int)])))) (j := 5) (s := wO) (K := Kl) (a := .len (.idx (.v 1) (.k (.int 1)))) (el := C_law_4) (L := o.length) rfl (fun k hk => (ol' k hk).isS) rfl (by (first | lia | omega)) (by simp [RL, heapD]) (by (first | lia | omega)) rfl
  have hheap' : run false P06 19 7 [scr xs] = some (.ok (heapD y o r (bookOf o))) := hheap
  rw [run_at (g := F_law) rfl, fnRun_eq rfl, rho_law6]
  unfold F_law
  rw [exs_cons, ex_iff]
  have k1 : ev (run false P06 19) [some (.arg (scr xs)), none, none, none, none, none, none, none, none, none, none, none, none, none, none, none, none, none, none] (.cmp .eq (.bin .mod (.call 0 (.cons (.v 0) (.cons (.k (.int (3))) .nil))) (.k (.int (32)))) (.k (.int (7)))) = some (.bool false) := by
    simp [c3, h]
  rw [k1, ifS_bool, if_neg (by decide), exs_nil, seqR_next, exs_cons, ex_callS]
  have k2 : evs (run false P06 19) [some (.arg (scr xs)), none, none, none, none, none, none, none, none, none, none, none, none, none, none, none, none, none, none] (.cons (.v 0) .nil) = some [scr xs] := by simp
  rw [k2, Option.bind_some, hheap', callR_ok, put_var, if_pos hpure, seqR_next, exs_cons, ex_ownL]
  have k3 : ((ev (run false P06 19) ([some (.arg (scr xs)), none, none, none, none, none, none, none, none, none, none, none, none, none, none, none, none, none, none].set 1 (some (.dat (heapD y o r (bookOf o))))) (.idx (.v 1) (.k (.int 2)))).bind items) = some r := by simp [heapD]
  rw [k3, ownR_some, if_pos (okVs.pures hok.vr), seqR_next, exs_cons]
  have k4 : ev (run false P06 19) (([some (.arg (scr xs)), none, none, none, none, none, none, none, none, none, none, none, none, none, none, none, none, none, none].set 1 (some (.dat (heapD y o r (bookOf o))))).set 2 (some (.own r))) (.idx (.v 1) (.k (.int 3))) = some (.tup (bookOf o)) := by simp [heapD]
  rw [ex_for_tup k4 hbp]
  rw [show (([some (Lo.arg (scr xs)), none, none, none, none, none, none, none, none, none, none, none, none, none, none, none, none, none, none].set 1 (some (.dat (heapD y o r (bookOf o))))).set 2 (some (.own r))) = some (.arg (scr xs)) :: some (.dat (heapD y o r (bookOf o))) :: some (.own r) :: none :: [none, none, none, none, none, none, none, none, none, none, none, none, none, none, none] from rfl, hl, seqR_next]
  rw [show (some (Lo.arg (scr xs)) :: some (.dat (heapD y o r (bookOf o))) :: some (.own (r ++ (bookOf o).map (bkV o))) :: p' :: [none, none, none, none, none, none, none, none, none, none, none, none, none, none, none] : Rho) = RL xs (heapD y o r (bookOf o)) (r ++ (bookOf o).map (bkV o)) p' none none none from rfl]
  rw [exs_cons, ex_callS]
  have k5 : evs (run false P06 19) (RL xs (heapD y o r (bookOf o)) (r ++ (bookOf o).map (bkV o)) p' none none none) (.cons (.v 1) (.cons (.v 2) (.cons (.k (.bool true)) .nil))) = some [heapD y o r (bookOf o), .lst (r ++ (bookOf o).map (bkV o)), .bool true] := by simp [RL]
  rw [k5, Option.bind_some, mn]
  show outR false (seqR (some (.next (RL xs (heapD y o r (bookOf o)) (r ++ (bookOf o).map (bkV o)) p' (some (.dic (kset Kn))) none none))) _) = _
  rw [seqR_next, exs_cons, ex_iff]
  have k6 : ev (run false P06 19) (RL xs (heapD y o r (bookOf o)) (r ++ (bookOf o).map (bkV o)) p' (some (.dic (kset Kn))) none none) (.not (.call 14 (.cons (.call 17 (.cons (.v 1) .nil)) (.cons (.comp C_law_2 (.range (.len (.idx (.v 1) (.k (.int (0)))))) (.inD false (.tup (.cons (.k (.str (Str.ofString "young"))) (.cons (.v 19) .nil))) 4)) .nil)))) = some (.bool false) := by
    have v1 : ev (run false P06 19) (RL xs (heapD y o r (bookOf o)) (r ++ (bookOf o).map (bkV o)) p' (some (.dic (kset Kn))) none none) (.v 1) = some (heapD y o r (bookOf o)) := by simp [RL]
    rw [ev_not, ev_call, evs_cons, ev_call, evs_cons, v1, evs_nil, k_some, Option.bind_some, cy, okR_ok, evs_cons, eA, evs_nil, k_some, k_some, Option.bind_some, pA, okR_ok, n_bool]
    rfl
  rw [k6, ifS_bool, if_neg (by decide), exs_nil, seqR_next, exs_cons, ex_callS]
  have k7 : evs (run false P06 19) (RL xs (heapD y o r (bookOf o)) (r ++ (bookOf o).map (bkV o)) p' (some (.dic (kset Kn))) none none) (.cons (.v 1) (.cons (.idx (.v 1) (.k (.int 2))) (.cons (.k (.bool false)) .nil))) = some [heapD y o r (bookOf o), .tup r, .bool false] := by simp [RL, heapD]
  rw [k7, Option.bind_some, ml]
  show outR false (seqR (some (.next (RL xs (heapD y o r (bookOf o)) (r ++ (bookOf o).map (bkV o)) p' (some (.dic (kset Kn))) (some (.dic (kset Kl))) none))) _) = _
  rw [seqR_next, exs_cons, ex_callS]
  have k8 : evs (run false P06 19) (RL xs (heapD y o r (bookOf o)) (r ++ (bookOf o).map (bkV o)) p' (some (.dic (kset Kn))) (some (.dic (kset Kl))) none) (.cons (.v 1) .nil) = some [heapD y o r (bookOf o)] := by simp [RL]
  rw [k8, Option.bind_some, cb, callR_ok, put_var, if_pos foundP, seqR_next]
  show outR false (exs (run false P06 19) (RL xs (heapD y o r (bookOf o)) (r ++ (bookOf o).map (bkV o)) p' (some (.dic (kset Kn))) (some (.dic (kset Kl))) (some (.dat (.tup [.tup ((dueL y.length (fun i => decide (((some wY, i) : Ky) ∈ Kl))).map .int), .tup ((dueL o.length (fun i => decide (((some wO, i) : Ky) ∈ Kl))).map .int)])))) _) = _
  generalize hρ : RL xs (heapD y o r (bookOf o)) (r ++ (bookOf o).map (bkV o)) p' (some (.dic (kset Kn))) (some (.dic (kset Kl))) (some (.dat (.tup [.tup ((dueL y.length (fun i => decide (((some wY, i) : Ky) ∈ Kl))).map .int), .tup ((dueL o.length (fun i => decide (((some wO, i) : Ky) ∈ Kl))).map .int)]))) = ρ at eY eO ⊢
  have g6 : ev (run false P06 19) ρ (.v 6) = some (.tup [.tup ((dueL y.length (fun i => decide (((some wY, i) : Ky) ∈ Kl))).map .int), .tup ((dueL o.length (fun i => decide (((some wO, i) : Ky) ∈ Kl))).map .int)]) := by rw [← hρ]; simp [RL]
  rw [exs_cons, ex_iff]
  have k9 : ev (run false P06 19) ρ (.or (.not (.isi (.v 6) .tuple)) (.cmp .ne (.len (.v 6)) (.k (.int (2))))) = some (.bool false) := by
    simp only [ev_or, ev_not, ev_isi, g6, s_isi, isi_tt, n_bool, orS_bool, ev_cmp, ev_len, l_tup]
    simp
  rw [k9, ifS_bool, if_neg (by decide), exs_nil, seqR_next, exs_cons, ex_iff]
  have k10 : ev (run false P06 19) ρ (.not (.call 14 (.cons (.idx (.v 6) (.k (.int (0)))) (.cons (.comp C_law_3 (.range (.len (.idx (.v 1) (.k (.int (0)))))) (.inD false (.tup (.cons (.k (.str (Str.ofString "young"))) (.cons (.v 19) .nil))) 5)) .nil)))) = some (.bool false) := by
    rw [ev_not, ev_call, evs_cons, ev_idx, g6, ev_k, i_tup, if_pos (by decide), evs_cons, eY, evs_nil, k_some]
    show not1 ((some [_, _]).bind fun ds => okR (run false P06 19 14 ds)) = _
    rw [Option.bind_some, pY, okR_ok, n_bool]
    rfl
  rw [k10, ifS_bool, if_neg (by decide), exs_nil, seqR_next, exs_cons, ex_ret, ev_call, evs_cons, ev_idx, g6, ev_k, i_tup, if_pos (by decide), evs_cons, eO, evs_nil, k_some]
  show outR false (seqR (Option.map R.ret ((some [_, _]).bind fun ds => okR (run false P06 19 14 ds))) _) = _
  rw [Option.bind_some, pO, okR_ok]
  rfl
end
end Mine

namespace Mine
open PySem

/-! the long chain -/
theorem ex_ownR {Φ : Fns} {ρ : Rho} (x : Nat) (e : E) : ex Φ ρ (.ownR x e) = ownR ρ x (evIt Φ ρ (.range e)) := (rfl)
theorem dfs_chain {suc : Ky → List Ky} {pt : Nat → Ky} (inj : ∀ i j, pt i = pt j → i = j) {m : Nat} (hs : ∀ j, j < m → suc (pt j) = [pt (j + 1)]) (he : suc (pt m) = []) : ∀ (d j n : Nat), j + d = m → d + 2 ≤ n → dfs suc n [pt j] ((List.range j).map pt) = some ((List.range (m + 1)).map pt) := by
  have out : ∀ j k, j ≤ k → pt k ∉ (List.range j).map pt := fun j k hjk h => by
    obtain ⟨i, hi, e⟩ := List.mem_map.mp h
    have := inj i k e
    have := List.mem_range.mp hi
    (first | lia | omega)
  intro d
  induction d with
  | zero =>
    intro j n hj hn
    obtain ⟨n, rfl⟩ : ∃ q, n = q + 2 := ⟨n - 2, by (first | lia | omega)⟩
    have : j = m := by (first | lia | omega)
    subst this
    rw [dfs_succ, List.getLast?_singleton, Option.elim_some]
    rw [if_neg (out j j (Nat.le_refl _)), he]
    have e : (List.range j).map pt ++ [pt j] = (List.range (j + 1)).map pt := by rw [List.range_succ, List.map_append]; rfl
    rw [e]
    rfl
  | succ d ih =>
    intro j n hj hn
    obtain ⟨n, rfl⟩ : ∃ q, n = q + 1 := ⟨n - 1, by (first | lia | omega)⟩
    rw [dfs_succ, List.getLast?_singleton, Option.elim_some]
    rw [if_neg (out j j (Nat.le_refl _)), hs j (by (first | lia | omega))]
    have e : (List.range j).map pt ++ [pt j] = (List.range (j + 1)).map pt := by rw [List.range_succ, List.map_append]; rfl
    rw [e, lessK_cons, if_neg (out (j + 1) (j + 1) (Nat.le_refl _)), lessK_nil]
    exact ih (j + 1) n (by (first | lia | omega)) (by (first | lia | omega))

/-- the chain's things -/
noncomputable def chY (m : Nat) : List D := (List.range m).map (fun (j : Nat) => D.tup [.int 0, .tup [.tup [.str wY, .int ((j : Int) + 1)]]]) ++ [.tup [.int 0, .tup [.none]]]
theorem chY_len (m : Nat) : (chY m).length = m + 1 := by simp [chY]
theorem chY_at {m j : Nat} (h : j < m) : (chY m)[j]? = some (.tup [.int 0, .tup [.tup [.str wY, .int ((j : Int) + 1)]]]) := by
  unfold chY
  rw [List.getElem?_append_left (by simpa using h)]
  simp [h]
theorem chY_end (m : Nat) : (chY m)[m]? = some (.tup [.int 0, .tup [.none]]) := by
  unfold chY
  rw [List.getElem?_append_right (by simp)]
  simp
theorem ch_row {m j : Nat} (h : j < m) : rowK (chY m) [] (some wY, (j : Int)) = [.tup [.str wY, .int ((j : Int) + 1)]] := by
  unfold rowK halfK
  rw [if_pos rfl]
  simp [chY_at h, rowT_tup]
theorem ch_row_end (m : Nat) : rowK (chY m) [] (some wY, (m : Int)) = [.none] := by
  unfold rowK halfK
  rw [if_pos rfl]
  simp [chY_end m, rowT_tup]
theorem ch_HG {m : Nat} (hm : m ≤ 1199) : HG (chY m) [] [.none, .tup [.str wY, .int 0]] := by
  refine ⟨by rw [chY_len]; (first | lia | omega), by simp, by simp, fun t ht => ?_, by simp, fun v hv => ?_⟩
  · rcases List.mem_append.mp ht with ht | ht
    · obtain ⟨j, hj, rfl⟩ := List.mem_map.mp ht
      have := List.mem_range.mp hj
      refine ⟨0, _, rfl, by simp, fun v hv => ?_⟩
      rw [List.mem_singleton.mp hv]
      exact .inr (.inr ⟨wY, _, .inl rfl, ⟨by (first | lia | omega), by rw [if_pos rfl, chY_len]; (first | lia | omega)⟩, rfl⟩)
    · rw [List.mem_singleton.mp ht]
      exact ⟨0, _, rfl, by simp, fun v hv => by rw [List.mem_singleton.mp hv]; exact .inl rfl⟩
  · simp only [List.mem_cons, List.not_mem_nil, or_false] at hv
    rcases hv with rfl | rfl
    · exact .inl rfl
    · exact .inr (.inr ⟨wY, 0, .inl rfl, ⟨by (first | lia | omega), by rw [if_pos rfl, chY_len]; (first | lia | omega)⟩, rfl⟩)

noncomputable def rng (m : Nat) : List Int := (List.range m).map fun (i : Nat) => (i : Int)
theorem rng_rise (m : Nat) : (rng m).Pairwise (· < ·) := List.pairwise_map.mpr (List.pairwise_lt_range.imp fun h => by (first | lia | omega))
theorem rng_sort (m : Nat) : isort (rng m) = rng m := sorted_unique (isort_perm _) (isort_sorted _) ((rng_rise m).imp fun h => by (first | lia | omega))
theorem rng_D (m : Nat) : rangeD 0 (m : Int) = (rng m).map .int := by
  unfold rangeD rng
  rw [List.map_map]
  simp only [Int.sub_zero, Int.toNat_natCast]
  refine List.map_congr_left fun i _ => ?_
  simp

section
theorem rho_chain (a : D) : rho0 F_l_long_chain.names F_l_long_chain.ps [a] = [some (.arg a), none, none, none, none, none, none, none, none, none, none, none, none] := by kernel_rfl
theorem r_chain {m : Nat} (hm : m ≤ 1198) (n : Nat) : run false P06 (n + 6) 19 [.int ((m : Int) + 1)] = some (.ok (.bool true)) := by
  have C := com06
  have G := ch_HG (m := m) (by (first | lia | omega))
  have hB : BkOk ([] : List D) [] := by intro d hd; cases hd
  have hpure : D.pure (heapD (chY m) [] [.none, .tup [.str wY, .int 0]] []) = true := heap_pure6 G.ty G.to G.vr hB
  have hyp : D.pure (.tup (chY m)) = true := okTs.tup G.ty
  -- come_both
  have b1 : dfs (sucK false (chY m) []) lim (ptsK [D.none, .tup [.str wY, .int 0]]) [] = some ((List.range (m + 1)).map fun (i : Nat) => ((some wY, (i : Int)) : Ky)) :=
    dfs_chain (pt := fun (i : Nat) => ((some wY, (i : Int)) : Ky)) (fun i j e => by have := (Prod.mk.inj e).2; (first | lia | omega)) (m := m) (fun j hj => by unfold sucK; rw [ch_row hj]; simp [ptsK, ptK]) (by unfold sucK; rw [ch_row_end]; simp [ptsK, ptK]) m 0 lim (by (first | lia | omega)) (by rw [lim_n]; (first | lia | omega))
  have okb : ∀ k ∈ (List.range (m + 1)).map (fun (i : Nat) => ((some wY, (i : Int)) : Ky)), okK (chY m) [] k := fun k hk => by
    obtain ⟨i, hi, rfl⟩ := List.mem_map.mp hk
    have := List.mem_range.mp hi
    exact ⟨wY, rfl, .inl rfl, by (first | lia | omega), by rw [if_pos rfl, chY_len]; (first | lia | omega)⟩
  have plY' : pl wY ((List.range (m + 1)).map fun (i : Nat) => ((some wY, (i : Int)) : Ky)) = rng (m + 1) := by
    unfold pl rng
    rw [List.filter_eq_self.mpr (fun k hk => by obtain ⟨i, _, rfl⟩ := List.mem_map.mp hk; simp), List.map_map]
    rfl
  have plO' : pl wO ((List.range (m + 1)).map fun (i : Nat) => ((some wY, (i : Int)) : Ky)) = [] := by
    unfold pl
    rw [List.filter_eq_nil_iff.mpr (fun k hk => by obtain ⟨i, _, rfl⟩ := List.mem_map.mp hk; simp [YneO])]
    rfl
  have cb := r_come_both (keep := false) C (n := n + 1) (bk := []) rfl rfl G b1 okb (by simp; (first | lia | omega)) (by rw [plY']; exact .inr (.inr (rng_rise _))) (by rw [plO']; exact .inl (by simp))
  rw [plY', plO', rng_sort] at cb
  -- come_young
  have beg := r_begun (keep := false) C (n := n + 2) rfl G hB (by simp) hpure
  have b2 : dfs (sucY (chY m) []) lim (ysK ([D.none, .tup [.str wY, .int 0]] ++ ([] : List D).map (bkV []))) [] = some ((List.range (m + 1)).map fun (i : Nat) => ((none, (i : Int)) : Ky)) :=
    dfs_chain (pt := fun (i : Nat) => ((none, (i : Int)) : Ky)) (fun i j e => by have := (Prod.mk.inj e).2; (first | lia | omega)) (m := m) (fun j hj => by unfold sucY; rw [ch_row hj]; simp [ysK, yK_pt, yK_none]) (by unfold sucY; rw [ch_row_end]; simp [ysK, yK_pt, yK_none]) m 0 lim (by (first | lia | omega)) (by rw [lim_n]; (first | lia | omega))
  have oky : ∀ k ∈ (List.range (m + 1)).map (fun (i : Nat) => ((none, (i : Int)) : Ky)), okY (chY m) k := fun k hk => by
    obtain ⟨i, hi, rfl⟩ := List.mem_map.mp hk
    have := List.mem_range.mp hi
    exact ⟨rfl, by (first | lia | omega), by rw [chY_len]; (first | lia | omega)⟩
  have pl2 : plY ((List.range (m + 1)).map fun (i : Nat) => ((none, (i : Int)) : Ky)) = rng (m + 1) := by
    unfold plY rng
    rw [List.map_map]; rfl
  have cy := r_come_young (keep := false) C (n := n + 2) rfl G hyp (ysK_ok (fun v hv => by simp at hv; exact G.vr v (by simpa using hv))) (Nat.le_trans (List.length_filterMap_le _ _) (by simp)) beg b2 oky (by simp; (first | lia | omega)) (by rw [pl2]; exact .inr (.inr (rng_rise _)))
  rw [pl2, rng_sort] at cy
  have rl : (rng (m + 1)).length = m + 1 := by simp [rng]
  have p1 := r_places (keep := false) (P := P06) (n := n + 3) (ns := rng (m + 1)) rfl rfl (by (first | lia | omega))
  have p2 := r_places (keep := false) (P := P06) (n := n + 3) (ns := []) rfl rfl (by simp)
  have ec : ev (run false P06 (n + 5)) [some (.arg (.int ((m : Int) + 1))), none, none, none, none, none, none, none, none, none, none, none, none] (.comp C_l_long_chain_1 (.range (.bin .sub (.v 0) (.k (.int 1)))) (.k (.bool true))) = some (.lst ((List.range m).map (fun (j : Nat) => D.tup [.int 0, .tup [.tup [.str wY, .int ((j : Int) + 1)]]]))) := by
    refine ev_comp (ds := rangeD 0 (m : Int)) (evIt_range (by simp) (by (first | lia | omega)) (by (first | lia | omega))) ?_ (okTs.pures (m := 100) (b := inB ((chY m).length : Int) (([] : List D).length : Int)) fun t ht => G.ty t (List.mem_append_left _ ht))
    have := comp_filter (c := fun d => (ev (run false P06 (n + 5)) ([some (.arg (.int ((m : Int) + 1))), none, none, none, none, none, none, none, none, none, none, none, none] ++ [some (.dat d)]) (.k (.bool true))).bind isTrueD) (f := fun d => ev (run false P06 (n + 5)) ([some (.arg (.int ((m : Int) + 1))), none, none, none, none, none, none, none, none, none, none, none, none] ++ [some (.dat d)]) C_l_long_chain_1)
      (fun _ => true) (fun d => match d with | .int j => D.tup [.int 0, .tup [.tup [.str wY, .int (j + 1)]]] | _ => .none) (rangeD 0 (m : Int)) (fun d hd => by
        obtain ⟨j, rfl, _⟩ := rangeD_mem hd
        exact ⟨rfl, fun _ => by simp [C_l_long_chain_1]⟩)
    rw [this]
    congr 1
    rw [List.filter_eq_self.mpr (fun _ _ => rfl), rng_D]
    unfold rng
    rw [List.map_map, List.map_map]
    rfl
  have hlim : m + 1 ≤ lim := by rw [lim_n]; (first | lia | omega)
  rw [run_at (g := F_l_long_chain) rfl, fnRun_eq rfl, rho_chain]
  unfold F_l_long_chain
  rw [exs_cons, ex_asg, ev_toTup, ev_bin, ec]
  have k0 : ev (run false P06 (n + 5)) [some (.arg (.int ((m : Int) + 1))), none, none, none, none, none, none, none, none, none, none, none, none] (.lst (.cons (.tup (.cons (.k (.int (0))) (.cons (.tup (.cons (.k .none) .nil)) .nil))) .nil)) = some (.lst [.tup [.int 0, .tup [.none]]]) := by simp
  rw [k0, b_addL, if_pos (by simpa using hlim)]
  rw [show (List.map (fun (j : Nat) => D.tup [.int 0, .tup [.tup [.str wY, .int ((j : Int) + 1)]]]) (List.range m) ++ [D.tup [.int 0, .tup [.none]]]) = chY m from rfl, t_lst, asgR_some, if_pos hyp, seqR_next, exs_cons, ex_asg]
  have k1 : ev (run false P06 (n + 5)) ([some (.arg (.int ((m : Int) + 1))), none, none, none, none, none, none, none, none, none, none, none, none].set 1 (some (.dat (.tup (chY m))))) (.tup (.cons (.v 1) (.cons (.tup .nil) (.cons (.tup (.cons (.k .none) (.cons (.tup (.cons (.k (.str (Str.ofString "young"))) (.cons (.k (.int (0))) .nil))) .nil))) (.cons (.tup .nil) .nil))))) = some (heapD (chY m) [] [.none, .tup [.str wY, .int 0]] []) := by simp [heapD]
  rw [k1, asgR_some, if_pos hpure, seqR_next, exs_cons]
  have k2 : ex (run false P06 (n + 5)) (([some (.arg (.int ((m : Int) + 1))), none, none, none, none, none, none, none, none, none, none, none, none].set 1 (some (.dat (.tup (chY m))))).set 2 (some (.dat (heapD (chY m) [] [.none, .tup [.str wY, .int 0]] [])))) (.ownR 3 (.v 0)) = some (.next [some (.arg (.int ((m : Int) + 1))), some (.dat (.tup (chY m))), some (.dat (heapD (chY m) [] [.none, .tup [.str wY, .int 0]] [])), some (.own ((rng (m + 1)).map .int)), none, none, none, none, none, none, none, none, none]) := by
    rw [ex_ownR, evIt_range (m := ((m + 1 : Nat) : Int)) (by simp) (by (first | lia | omega)) (by (first | lia | omega)), rng_D, ownR_some, if_pos (ints_pures6 _)]
    rfl
  rw [k2, seqR_next, exs_cons, ex_callS]
  have k3 : evs (run false P06 (n + 5)) [some (.arg (.int ((m : Int) + 1))), some (.dat (.tup (chY m))), some (.dat (heapD (chY m) [] [.none, .tup [.str wY, .int 0]] [])), some (.own ((rng (m + 1)).map .int)), none, none, none, none, none, none, none, none, none] (.cons (.v 2) .nil) = some [heapD (chY m) [] [.none, .tup [.str wY, .int 0]] []] := by simp
  have fp : D.pure (.tup [.tup ((rng (m + 1)).map .int), .tup ((isort []).map .int)]) = true := by
    have h1 : ∀ ns : List Int, D.okN 7 (.tup (ns.map .int)) = true := fun ns => by
      rw [D.okN_tup]
      refine List.all_eq_true.mpr fun x hx => ?_
      obtain ⟨n, _, rfl⟩ := List.mem_map.mp hx
      rfl
    rw [D.pure, D.okN_tup]
    simp [h1]
  rw [k3, Option.bind_some, cb, callR_ok, put_var, if_pos fp, seqR_next]
  have p2' : run false P06 (n + 5) 14 [.tup ((isort []).map .int), .lst []] = some (.ok (.bool true)) := p2
  simp [p1, p2', cy]
end

theorem r_law06 {xs : List Int} : run false P06 20 20 [.lst (xs.map .int)] = some (.ok (.bool true)) := by
  by_cases h : cellAt xs 3 % 32 = 7
  · have C := com06
    have c3 := r_cell_at (keep := false) C (n := 18) (xs := xs) (k := 3) (by (first | lia | omega))
    have c4 := r_cell_at (keep := false) C (n := 18) (xs := xs) (k := 4) (by (first | lia | omega))
    obtain ⟨m, hm⟩ : ∃ m : Nat, 1000 + cellAt xs 4 % 200 = (m : Int) + 1 := ⟨(999 + cellAt xs 4 % 200).toNat, by (first | lia | omega)⟩
    have ch := r_chain (m := m) (by (first | lia | omega)) 13
    show run false P06 20 20 [scr xs] = _
    rw [run_at (g := F_law) rfl, fnRun_eq rfl, rho_law6]
    unfold F_law
    rw [exs_cons, ex_iff]
    simp [c3, h]
    simp [c4, hm, ch]
  · exact law_plain h
end Mine


open PySem PySem.W PyProof.Rows
namespace Mine
/-- the text's statements but those that set its name -/
noncomputable def q06 : Program := { PySem.Challenge.pw_uf040005_06 with main := { PySem.Challenge.pw_uf040005_06.main with body := (((((PySem.Challenge.pw_uf040005_06.main.body.eraseIdx 13).eraseIdx 10).eraseIdx 8).eraseIdx 3).eraseIdx 0) } }
theorem left06 : LeftO PySem.Challenge.pw_uf040005_06 q06 [] (fun s => xlAt q06 [] s && recOk (RowW.records (PySem.Challenge.rw_uf040005_06.row.toRowW)) s) (Hook.obs Hook.none) (Hook.val Hook.none) 3300 := by
  intro w
  kernel_rfl
end Mine
set_option maxHeartbeats 8000000 in
theorem PySem.Challenge.cw_uf040005_06_holds : PySem.Challenge.rw_uf040005_06.Holds := by
  w_on
  refine holds_law (by decide +kernel) fun said => ?_
  refine holds_open (q := Mine.q06) (loose := []) (Xt := fun s => xlAt Mine.q06 [] s && recOk (RowW.records (PySem.Challenge.rw_uf040005_06.row.toRowW)) s) (XP := XL Mine.q06 []) (Yf := Hook.obs Hook.none) (Ya := Hook.val Hook.none) (YP := Hook.says Hook.none) (N := 3300) Mine.left06 (Hook.of Hook.none) (Hook.keeps Hook.none) (fun s e => xl_of s (Bool.and_eq_true_iff.mp e).1) XL.keeps (by rfl) (by rfl) (by rfl) (fun s e => recFacts_of (Bool.and_eq_true_iff.mp e).2) (by rfl) said (by decide +kernel) ⟨rfl, rfl, rfl, rfl, rfl, by decide +kernel⟩ ?hw ?hc
  case hw => w_witness2
  intro w s₀ s₁ mg mb G Y fa o pm cd doc dV kV ho hd hcd hD hmg hg args vals as hpre hlay hrd hwl hlo
  refine Ground.open G ?_
  intro T B D TE TW
  have hmg' : mg ("law" : Str) = some (.ref fa) := hmg
  clear hd hmg hcd ho B D TE TW G Y
  wrow_args hpre hlay hrd hwl hlo
  all_goals (
    refine wpAny_mono (Mine.law_runs (fns := Mine.fns06) (P := Mine.P06) (N := 40) (i := 20) (n := "law") T (by kernel_rfl) (by decide +kernel) hmg' (by kernel_rfl) (by assumption) (by (first | lia | omega)) Mine.r_law06) (fun v s' q => Mine.good_true q hg (raisesW_false (by wrow_none_raised)) (by wrow_post)) (fun _ _ x => x))
