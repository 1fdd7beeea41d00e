import PyProof.Rows.All
import PyProof.Rows.SortShell
import KE.KIsAll
import PyProof.ExcAttrAll.ValueError
import PyProof.P3Statements
import PyProof.CompFree
import PyProof.RangeIter
import PyProof.StrWalks
import PyProof.TupleIter
import PyProof.WalksMore
import PyProof.Cells
import PyProof.DefCall
import PyProof.RaisesMany
import PyProof.StationsW
import PyProof.Rows.Own
import PyProof.PureInt
import PyProof.StrOps
import PyProof.Rows.RuleB_sub
import PyProof.Rows.RuleB_mul
import PyProof.Rows.RuleB_mod
import PyProof.Rows.RuleB_small
import PyProof.Rows.RuleB_floordiv
import PyProof.Rows.RuleC_int
import PyProof.Rows.RuleC_bool
import PyProof.Rows.RuleIs2
import PyProof.Rows.Nodes
import PyProof.Rows.Chain
import PyProof.Rows.EqNone
import PyProof.LetGo
import PyProof.Rows.TupSub
import PyProof.Rows.Lst
import PyProof.SliceStr2
import PyProof.SliceMore
import PyProof.Ascii
import PyProof.IsInstance
import PyProof.IsInstanceH
import PyProof.IsiNone
import PyProof.IsiFacts
import PyProof.CallStr
import PyProof.Conv_int_bool
import PyProof.ListCopy
import PyProof.RangeFor
import PyProof.Rows.Range3
import PyProof.Rows.SeqMore
import PyProof.Rows.CountFlat
import PyProof.SeqI3
import PyProof.WalkInts
import PyProof.Rows.SeqJoint
import PyProof.Rows.SortWalk
import PyProof.StrCalls3
import PyProof.Rows.EqDataRows
import PyProof.Rows.InDataRows
import PyProof.StrLawsIn
import PyProof.FString5
import KE.KSortTup
import PyProof.StrLaws
import PyProof.DictStraight
import PyProof.ListIndex
import PyProof.Raises
import PyProof.ExcClass2
import PyProof.ExcBaseAll.ValueError
import OpenK.AllK
import Wide.All
import Wide.FinOn
import PySem.Challenge.RW_uf050020_04
set_option linter.all false
set_option bootstrap.genMatcherCode false
set_option autoImplicit false
set_option genInjectivity false
set_option genSizeOf false
namespace Mine
noncomputable section
open PySem PyProof.Rows

/-- the key at a place -/
noncomputable def kAt (κ : Keyed → Int) (xs : Array Keyed) (i : Nat) : Int := (xs[i]?).elim 0 κ
theorem kAt_congr {κ : Keyed → Int} {xs ys : Array Keyed} {i j : Nat} (h : xs[i]? = ys[j]?) : kAt κ xs i = kAt κ ys j := by unfold kAt; rw [h]

structure SB (kd : SortKind) (a₀ : Array Keyed) (st : SortSt) : Prop where
  perm : (arrOf st).Perm a₀
  kind : kindOf st = kd
  failed : failedOf st = none

/-- sorted from lo up to hi -/
noncomputable def Seg (κ : Keyed → Int) (xs : Array Keyed) (lo hi : Nat) : Prop := ∀ i j, lo ≤ i → i ≤ j → j < hi → kAt κ xs i ≤ kAt κ xs j
/-- the same ahead of lo -/
noncomputable def Ahead (xs ys : Array Keyed) (lo : Nat) : Prop := ∀ i, i < lo → ys[i]? = xs[i]?

theorem SB.size {kd : SortKind} {a₀ : Array Keyed} {st : SortSt} (h : SB kd a₀ st) : (arrOf st).size = a₀.size := h.perm.size_eq
theorem SB.setArr {kd : SortKind} {a₀ : Array Keyed} {st : SortSt} (h : SB kd a₀ st) {xs : Array Keyed} (hp : xs.Perm (arrOf st)) : SB kd a₀ (setArr st xs) :=
  ⟨hp.trans h.perm, h.kind, h.failed⟩
theorem SB.at {kd : SortKind} {a₀ : Array Keyed} {st : SortSt} (h : SB kd a₀ st) {i : Nat} (hi : i < a₀.size) : ∃ p, (arrOf st)[i]? = some p ∧ p ∈ a₀.toList := by
  have hi' : i < (arrOf st).size := by rw [h.size]; exact hi
  exact ⟨(arrOf st)[i], getElem?_pos _ i hi', (Array.perm_iff_toList_perm.mp h.perm).mem_iff.mp (by simp)⟩

section
variable {prog : Program} {w : World} {A : Around} {E : Value → Shared → Prop} {s : Shared} {kd : SortKind} {κ : Keyed → Int} {a₀ : Array Keyed}

/-- any two of the items are compared by their keys -/
noncomputable def LtOk (prog : Program) (w : World) (A : Around) (E : Value → Shared → Prop) (s : Shared) (kd : SortKind) (κ : Keyed → Int) (a₀ : Array Keyed) : Prop :=
  ∀ x y, x ∈ a₀.toList → y ∈ a₀.toList → ∀ (st : SortSt) (Q : Option Bool → SortSt → Prop), kindOf st = kd → Q (some (decide (κ x < κ y))) st → wpS (model prog w) A E s (lt' x y) Q st

theorem wpS_elem {xs : Array Keyed} {i : Nat} {p : Keyed} {st : SortSt} {Q : Keyed → SortSt → Prop} (e : xs[i]? = some p) (h : Q p st) : wpS (model prog w) A E s (elem' xs i) Q st := by
  rw [elem'_eq, e]; exact wpS_pure h

theorem wpS_ltA {st : SortSt} {i j : Nat} {Q : Option Bool → SortSt → Prop} (hL : LtOk prog w A E s kd κ a₀) (hB : SB kd a₀ st) (hi : i < a₀.size) (hj : j < a₀.size)
    (h : Q (some (decide (kAt κ (arrOf st) i < kAt κ (arrOf st) j))) st) : wpS (model prog w) A E s (ltAt' i j) Q st := by
  obtain ⟨p, e1, m1⟩ := hB.at hi
  obtain ⟨q, e2, m2⟩ := hB.at hj
  rw [ltAt'_eq]
  refine wpS_bind (wpS_get ?_)
  refine wpS_bind (wpS_elem e1 (wpS_bind (wpS_elem e2 (hL p q m1 m2 st Q hB.kind ?_))))
  simpa only [kAt, e1, e2, Option.elim_some] using h

theorem k_bubble {xs : Array Keyed} {src d : Nat} (hs : src < xs.size) (hd : d ≤ src) (k : Nat) :
    kAt κ (bubble xs src d) k = if k = src - d then kAt κ xs src else if src - d < k ∧ k ≤ src then kAt κ xs (k - 1) else kAt κ xs k := by
  have e := getElem?_bubble hs d hd k
  by_cases h1 : k = src - d
  · rw [if_pos h1] at e ⊢; exact kAt_congr e
  · rw [if_neg h1] at e ⊢
    by_cases h2 : src - d < k ∧ k ≤ src
    · rw [if_pos h2] at e ⊢; exact kAt_congr e
    · rw [if_neg h2] at e ⊢; exact kAt_congr e
theorem k_mirror {xs : Array Keyed} {i j : Nat} (hj : j ≤ xs.size) (k : Nat) :
    kAt κ (mirror xs i j ((j - i) / 2)) k = if i ≤ k ∧ k < j then kAt κ xs (i + j - 1 - k) else kAt κ xs k := by
  have e := getElem?_mirror_all (i := i) hj k
  by_cases h1 : i ≤ k ∧ k < j
  · rw [if_pos h1] at e ⊢; exact kAt_congr e
  · rw [if_neg h1] at e ⊢; exact kAt_congr e
theorem k_mirror_equal {xs : Array Keyed} {i j : Nat} (hj : j ≤ xs.size) (heq : ∀ k, i ≤ k → k < j → kAt κ xs k = kAt κ xs (j - 1)) (k : Nat) :
    kAt κ (mirror xs i j ((j - i) / 2)) k = kAt κ xs k := by
  rw [k_mirror hj]
  split
  · rw [heq _ (by omega) (by omega), heq k (by omega) (by omega)]
  · rfl
theorem mirror_ahead {xs : Array Keyed} {i j lo : Nat} (hj : j ≤ xs.size) (hlo : lo ≤ i) : Ahead xs (mirror xs i j ((j - i) / 2)) lo := fun k hk => by
  rw [getElem?_mirror_all hj k, if_neg (by omega)]

theorem wpS_binSort {st : SortSt} {lo n ok : Nat} {Q : Bool → SortSt → Prop} (hL : LtOk prog w A E s kd κ a₀) (hn : lo + n ≤ a₀.size) (hok : ok ≤ n) (hB : SB kd a₀ st) (hs : Seg κ (arrOf st) lo (lo + ok))
    (h : ∀ st', SB kd a₀ st' → pendingOf st' = pendingOf st → Seg κ (arrOf st') lo (lo + n) → Ahead (arrOf st) (arrOf st') lo → Q true st') : wpS (model prog w) A E s (binarySort' lo n ok) Q st := by
  rw [binarySort'_eq]
  refine wpS_bind (wpS_mono (wpS_forRange (I := fun k c st' => c = (none, ()) ∧ SB kd a₀ st' ∧ pendingOf st' = pendingOf st ∧ Ahead (arrOf st) (arrOf st') lo ∧ Seg κ (arrOf st') lo (lo + min k n))
    (Q := fun c st' => c = (none, ()) ∧ SB kd a₀ st' ∧ pendingOf st' = pendingOf st ∧ Ahead (arrOf st) (arrOf st') lo ∧ Seg κ (arrOf st') lo (lo + n)) ?step ?fin ?init) ?post)
  case post =>
    rintro c st' ⟨rfl, hB', hp, ha, hs'⟩
    exact wpS_pure (h st' hB' hp hs' ha)
  case init =>
    refine ⟨rfl, hB, rfl, fun _ _ => rfl, fun i j hl hij hj => ?_⟩
    by_cases h1 : ok = 0
    · have : i = j := by omega
      subst this; exact Int.le_refl _
    · exact hs i j hl hij (by omega)
  case fin =>
    rintro c st' ⟨hc, hB', hp, ha, hs'⟩
    refine ⟨hc, hB', hp, ha, ?_⟩
    rwa [show min (max (max ok 1) n) n = n by omega] at hs'
  case step =>
    rintro k c st' hak hkn ⟨rfl, hB', hp, ha, hs'⟩
    rw [show min k n = k by omega] at hs'
    have hk : lo + k < a₀.size := by omega
    refine wpS_bind (wpS_mono (wpS_forRange (I := fun x c st'' => st'' = st' ∧ ∃ l r, c = (none, l, r) ∧ l ≤ r ∧ r ≤ k ∧ r - l ≤ k - x ∧
        (∀ i, i < l → kAt κ (arrOf st') (lo + i) ≤ kAt κ (arrOf st') (lo + k)) ∧ (∀ i, r ≤ i → i < k → kAt κ (arrOf st') (lo + k) < kAt κ (arrOf st') (lo + i)))
      (Q := fun c st'' => st'' = st' ∧ ∃ l r, c = (none, l, r) ∧ l ≤ k ∧
        (∀ i, i < l → kAt κ (arrOf st') (lo + i) ≤ kAt κ (arrOf st') (lo + k)) ∧ (∀ i, l ≤ i → i < k → kAt κ (arrOf st') (lo + k) < kAt κ (arrOf st') (lo + i))) ?istep ?ifin ?iinit) ?ipost)
    case iinit => exact ⟨rfl, 0, k, rfl, by omega, by omega, by omega, fun i hi => by omega, fun i h1 h2 => by omega⟩
    case ifin =>
      rintro c st'' ⟨rfl, l, r, rfl, hlr, hrk, hm, hlo, hhi⟩
      have : l = r := by omega
      subst this
      exact ⟨rfl, l, l, rfl, hrk, hlo, hhi⟩
    case istep =>
      rintro x c st'' _ hxk ⟨rfl, l, r, rfl, hlr, hrk, hm, hlo, hhi⟩
      dsimp only
      by_cases hge : l ≥ r
      · rw [if_pos hge]
        have : l = r := by omega
        subst this
        exact wpS_pure ⟨rfl, l, l, rfl, hrk, hlo, hhi⟩
      · rw [if_neg hge]
        refine wpS_bind (wpS_ltA hL hB' hk (by omega) ?_)
        by_cases hless : kAt κ (arrOf st'') (lo + k) < kAt κ (arrOf st'') (lo + (l + r) / 2)
        · simp only [hless, decide_true, if_true]
          refine wpS_pure ⟨rfl, l, (l + r) / 2, rfl, by omega, by omega, by omega, hlo, fun i h1 h2 => ?_⟩
          exact Int.lt_of_lt_of_le hless (hs' _ _ (by omega) (by omega) (by omega))
        · simp only [hless, decide_false, Bool.false_eq_true, if_false]
          refine wpS_pure ⟨rfl, (l + r) / 2 + 1, r, rfl, by omega, by omega, by omega, fun i h1 => ?_, hhi⟩
          exact Int.le_trans (hs' (lo + i) (lo + (l + r) / 2) (by omega) (by omega) (by omega)) (Int.not_lt.mp hless)
    case ipost =>
      rintro c st'' ⟨rfl, l, r, rfl, hlk, hlo, hhi⟩
      show wpS _ _ _ _ (do moveDown' (lo + k) (lo + l); pure (ForInStep.yield (none, ()))) _ _
      rw [moveDown'_eq]
      have hks : lo + k < (arrOf st'').size := by rw [hB'.size]; exact hk
      have hd : lo + k - (lo + k - (lo + l)) = lo + l := by omega
      refine wpS_bind (wpS_modify (wpS_pure ⟨rfl, hB'.setArr (bubble_perm _ _ _), hp, fun i hi => ?_, ?_⟩))
      · show (bubble (arrOf st'') (lo + k) (lo + k - (lo + l)))[i]? = _
        rw [getElem?_bubble hks _ (by omega) i, if_neg (by omega), if_neg (by omega)]
        exact ha i hi
      · rw [show min (k + 1) n = k + 1 by omega]
        intro i j hli hij hj
        show kAt κ (bubble (arrOf st'') (lo + k) (lo + k - (lo + l))) i ≤ kAt κ (bubble (arrOf st'') (lo + k) (lo + k - (lo + l))) j
        rw [k_bubble hks (by omega), k_bubble hks (by omega), hd]
        have hlo' : ∀ i, lo ≤ i → i < lo + l → kAt κ (arrOf st'') i ≤ kAt κ (arrOf st'') (lo + k) := fun i h1 h2 => by
          have := hlo (i - lo) (by omega); rwa [show lo + (i - lo) = i by omega] at this
        have hhi' : ∀ i, lo + l ≤ i → i < lo + k → kAt κ (arrOf st'') (lo + k) < kAt κ (arrOf st'') i := fun i h1 h2 => by
          have := hhi (i - lo) (by omega) (by omega); rwa [show lo + (i - lo) = i by omega] at this
        repeat' split
        all_goals first
          | (exfalso; omega)
          | exact Int.le_refl _
          | exact hlo' _ (by omega) (by omega)
          | exact Int.le_of_lt (hhi' _ (by omega) (by omega))
          | exact hs' _ _ (by omega) (by omega) (by omega)
end
end
end Mine
set_option autoImplicit false
namespace Mine
noncomputable section
open PySem PyProof.Rows

noncomputable def Down (κ : Keyed → Int) (xs : Array Keyed) (lo hi : Nat) : Prop := ∀ i j, lo ≤ i → i ≤ j → j < hi → kAt κ xs j ≤ kAt κ xs i

section
variable {prog : Program} {w : World} {A : Around} {E : Value → Shared → Prop} {s : Shared} {kd : SortKind} {κ : Keyed → Int} {a₀ : Array Keyed}

theorem Seg.more {xs : Array Keyed} {lo x : Nat} (h : Seg κ xs lo x) (hl : lo < x) (hx : ¬ kAt κ xs x < kAt κ xs (x - 1)) : Seg κ xs lo (x + 1) := fun i j hi hij hj => by
  by_cases hjx : j < x
  · exact h i j hi hij hjx
  · obtain rfl : j = x := by omega
    by_cases hi' : i = j
    · subst hi'; exact Int.le_refl _
    · exact Int.le_trans (h i (j - 1) hi (by omega) (by omega)) (Int.not_lt.mp hx)
theorem Down.more {xs : Array Keyed} {lo x : Nat} (h : Down κ xs lo x) (hl : lo < x) (hx : kAt κ xs x ≤ kAt κ xs (x - 1)) : Down κ xs lo (x + 1) := fun i j hi hij hj => by
  by_cases hjx : j < x
  · exact h i j hi hij hjx
  · obtain rfl : j = x := by omega
    by_cases hi' : i = j
    · subst hi'; exact Int.le_refl _
    · exact Int.le_trans hx (h i (j - 1) hi (by omega) (by omega))
theorem Down.same {xs ys : Array Keyed} {lo x : Nat} (h : Down κ xs lo x) (e : ∀ k, kAt κ ys k = kAt κ xs k) : Down κ ys lo x := fun i j a b c => by rw [e, e]; exact h i j a b c
theorem Ahead.trans {xs ys zs : Array Keyed} {lo : Nat} (h : Ahead xs ys lo) (h' : Ahead ys zs lo) : Ahead xs zs lo := fun i hi => (h' i hi).trans (h i hi)

/-- up as long as it rises -/
theorem wpS_asc {st : SortSt} {lo a nrem : Nat} {β : Type} {g : Nat → β} {bad : Nat → β} {f : Nat → β → StateT SortSt Sem (ForInStep β)} {Q : β → SortSt → Prop} (hL : LtOk prog w A E s kd κ a₀) (hn : lo + nrem ≤ a₀.size) (ha : 1 ≤ a) (han : a ≤ nrem) (hB : SB kd a₀ st)
    (hf : ∀ i x, f i (g x) = (do
      let __x ← ltAt' (lo + x) (lo + x - 1)
      match __x with
      | some smaller => if smaller = true then pure (ForInStep.done (g x)) else pure (ForInStep.yield (g (x + 1)))
      | _ => pure (ForInStep.done (bad x))))
    (hs : Seg κ (arrOf st) lo (lo + a))
    (h : ∀ n, a ≤ n → n ≤ nrem → Seg κ (arrOf st) lo (lo + n) → (n = nrem ∨ kAt κ (arrOf st) (lo + n) < kAt κ (arrOf st) (lo + n - 1)) → Q (g n) st) :
    wpS (model prog w) A E s (forIn [a:nrem] (g a) f) Q st := by
  refine wpS_forRange (I := fun x c st' => st' = st ∧ c = g x ∧ Seg κ (arrOf st) lo (lo + x)) ?step ?fin ⟨rfl, rfl, hs⟩
  case fin =>
    rintro c st' ⟨rfl, rfl, hs'⟩
    rw [show max a nrem = nrem by omega] at hs' ⊢
    exact h nrem han (Nat.le_refl _) hs' (.inl rfl)
  case step =>
    rintro x c st' hax hxn ⟨rfl, rfl, hs'⟩
    rw [hf]
    refine wpS_bind (wpS_ltA hL hB (by omega) (by omega) ?_)
    by_cases hless : kAt κ (arrOf st') (lo + x) < kAt κ (arrOf st') (lo + x - 1)
    · simp only [hless, decide_true, if_true]
      exact wpS_pure (h x hax (by omega) hs' (.inr hless))
    · simp only [hless, decide_false, Bool.false_eq_true, if_false]
      exact wpS_pure ⟨rfl, rfl, hs'.more (by omega) hless⟩

/-- down as long as it does not rise; runs of equal ones are turned -/
theorem wpS_desc {st : SortSt} {lo n nrem : Nat} {β : Type} {g : Nat → Nat → β} {bad : Nat → Nat → β} {f : Nat → β → StateT SortSt Sem (ForInStep β)} {Q : β → SortSt → Prop} (hL : LtOk prog w A E s kd κ a₀) (hn : lo + nrem ≤ a₀.size) (h1 : 1 ≤ n) (hnn : n ≤ nrem) (hB : SB kd a₀ st)
    (hf : ∀ i x q, f i (g x q) = (do
      let __x ← ltAt' (lo + x) (lo + x - 1)
      match __x with
      | some smaller =>
        if smaller = true then
          if q > 0 then do
            reverseSlice' (lo + x - (q + 1)) (lo + x)
            pure (ForInStep.yield (g (x + 1) 0))
          else pure (ForInStep.yield (g (x + 1) 0))
        else do
          let __x ← ltAt' (lo + x - 1) (lo + x)
          match __x with
          | some larger => if larger = true then pure (ForInStep.done (g x q)) else pure (ForInStep.yield (g (x + 1) (q + 1)))
          | _ => pure (ForInStep.done (bad x q))
      | _ => pure (ForInStep.done (bad x q))))
    (hs : Down κ (arrOf st) lo (lo + n))
    (h : ∀ m q st', SB kd a₀ st' → pendingOf st' = pendingOf st → Ahead (arrOf st) (arrOf st') lo → n ≤ m → m ≤ nrem → Down κ (arrOf st') lo (lo + m) → q + 1 ≤ m → (∀ i, lo + m - (q + 1) ≤ i → i < lo + m → kAt κ (arrOf st') i = kAt κ (arrOf st') (lo + m - 1)) → Q (g m q) st') :
    wpS (model prog w) A E s (forIn [n:nrem] (g n 0) f) Q st := by
  refine wpS_forRange (I := fun x c st' => ∃ q, c = g x q ∧ SB kd a₀ st' ∧ pendingOf st' = pendingOf st ∧ Ahead (arrOf st) (arrOf st') lo ∧ Down κ (arrOf st') lo (lo + x) ∧ q + 1 ≤ x ∧
      (∀ i, lo + x - (q + 1) ≤ i → i < lo + x → kAt κ (arrOf st') i = kAt κ (arrOf st') (lo + x - 1))) ?step ?fin ⟨0, rfl, hB, rfl, fun _ _ => rfl, hs, by omega, fun i h1 h2 => by congr 1; omega⟩
  case fin =>
    rintro c st' ⟨q, rfl, hB', hp, ha, hs', hq, he⟩
    rw [show max n nrem = nrem by omega] at hs' hq he ⊢
    exact h nrem q st' hB' hp ha hnn (Nat.le_refl _) hs' hq he
  case step =>
    rintro x c st' hax hxn ⟨q, rfl, hB', hp, ha, hs', hq, he⟩
    have hsz : lo + x ≤ (arrOf st').size := by rw [hB'.size]; omega
    have hone : ∀ (xs : Array Keyed) (i : Nat), lo + (x + 1) - (0 + 1) ≤ i → i < lo + (x + 1) → kAt κ xs i = kAt κ xs (lo + (x + 1) - 1) := fun xs i h1 h2 => by congr 1; omega
    rw [hf]
    refine wpS_bind (wpS_ltA hL hB' (by omega) (by omega) ?_)
    by_cases hless : kAt κ (arrOf st') (lo + x) < kAt κ (arrOf st') (lo + x - 1)
    · simp only [hless, decide_true, if_true]
      have hd := hs'.more (by omega) (Int.le_of_lt hless)
      by_cases hq0 : q > 0
      · rw [if_pos hq0]
        exact wpS_bind (wpS_reverse (wpS_pure ⟨0, rfl, hB'.setArr (mirror_perm _ _ _ _), hp, ha.trans (mirror_ahead hsz (by omega)), hd.same (k_mirror_equal hsz he), by omega, hone _⟩))
      · rw [if_neg hq0]
        exact wpS_pure ⟨0, rfl, hB', hp, ha, hd, by omega, hone _⟩
    · simp only [hless, decide_false, Bool.false_eq_true, if_false]
      refine wpS_bind (wpS_ltA hL hB' (by omega) (by omega) ?_)
      by_cases hlarger : kAt κ (arrOf st') (lo + x - 1) < kAt κ (arrOf st') (lo + x)
      · simp only [hlarger, decide_true, if_true]
        exact wpS_pure (h x q st' hB' hp ha hax (by omega) hs' hq he)
      · simp only [hlarger, decide_false, Bool.false_eq_true, if_false]
        have heqx : kAt κ (arrOf st') (lo + x) = kAt κ (arrOf st') (lo + x - 1) := by omega
        refine wpS_pure ⟨q + 1, rfl, hB', hp, ha, hs'.more (by omega) (by omega), by omega, fun i h1 h2 => ?_⟩
        rw [show lo + (x + 1) - 1 = lo + x by omega]
        by_cases hix : i = lo + x
        · subst hix; rfl
        · rw [heqx]; exact he i (by omega) (by omega)

theorem Down.turn {xs : Array Keyed} {lo m : Nat} (hsz : lo + m ≤ xs.size) (h : Down κ xs lo (lo + m)) : Seg κ (mirror xs lo (lo + m) ((lo + m - lo) / 2)) lo (lo + m) := fun i j hi hij hj => by
  rw [k_mirror hsz, k_mirror hsz, if_pos (by omega), if_pos (by omega)]
  exact h _ _ (by omega) (by omega) (by omega)

theorem wpS_count {st : SortSt} {lo nrem : Nat} {Q : Option Nat → SortSt → Prop} (hL : LtOk prog w A E s kd κ a₀) (hn : lo + nrem ≤ a₀.size) (h1 : 1 ≤ nrem) (hB : SB kd a₀ st)
    (h : ∀ m st', SB kd a₀ st' → pendingOf st' = pendingOf st → Ahead (arrOf st) (arrOf st') lo → 1 ≤ m → m ≤ nrem → Seg κ (arrOf st') lo (lo + m) → Q (some m) st') :
    wpS (model prog w) A E s (countRun' lo nrem) Q st := by
  have hone : ∀ xs : Array Keyed, Seg κ xs lo (lo + 1) := fun xs i j hi hij hj => by
    obtain rfl : i = j := by omega
    exact Int.le_refl _
  rw [countRun'_eq]
  refine wpS_bind (wpS_asc (g := fun n => (none, n)) (bad := fun n => (some none, n)) hL hn (Nat.le_refl 1) h1 hB (fun i x => rfl) (hone _) fun n hn1 hn2 hsn hor => ?_)
  dsimp only
  by_cases hnn : n = nrem
  · rw [if_pos (by simpa using hnn)]
    exact wpS_pure (h n st hB rfl (fun _ _ => rfl) hn1 hn2 hsn)
  · rw [if_neg (by simpa using hnn)]
    have hlt : kAt κ (arrOf st) (lo + n) < kAt κ (arrOf st) (lo + n - 1) := hor.resolve_left hnn
    have hsz : lo + n ≤ (arrOf st).size := by rw [hB.size]; omega
    by_cases hgt : n > 1
    · rw [if_pos hgt]
      refine wpS_bind (wpS_ltA hL hB (by omega) (by omega) ?_)
      by_cases hrose : kAt κ (arrOf st) lo < kAt κ (arrOf st) (lo + n - 1)
      · simp only [hrose, decide_true, if_true]
        exact wpS_pure (h n st hB rfl (fun _ _ => rfl) hn1 hn2 hsn)
      · simp only [hrose, decide_false, Bool.false_eq_true, if_false]
        have hall : ∀ k, lo ≤ k → k < lo + n → kAt κ (arrOf st) k = kAt κ (arrOf st) (lo + n - 1) := by
          intro k hk1 hk2
          have a1 := hsn lo k (by omega) hk1 hk2
          have a2 := hsn k (lo + n - 1) hk1 (by omega) (by omega)
          omega
        have hdn : Down κ (arrOf st) lo (lo + n) := fun i j hi hij hj => by rw [hall i hi (by omega), hall j (by omega) hj]; exact Int.le_refl _
        refine wpS_bind (wpS_reverse ?_)
        refine wpS_bind (wpS_lift (wpAny_rule ⟨rfl, ?_⟩))
        refine wpS_bind (wpS_desc (g := fun n q => (none, n, q)) (bad := fun n q => (some none, n, q)) hL hn (by omega) (by omega) (hB.setArr (mirror_perm _ _ _ _)) (fun i x q => rfl) ((hdn.more (by omega) (Int.le_of_lt hlt)).same (k_mirror_equal hsz hall)) fun m q st' hB' hp ha hm1 hm2 hs' hq he => ?_)
        dsimp only
        have hsz' : lo + m ≤ (arrOf st').size := by rw [hB'.size]; omega
        have ha0 := (mirror_ahead (xs := arrOf st) (i := lo) (j := lo + n) hsz (Nat.le_refl lo)).trans ha
        by_cases hq0 : q > 0
        · rw [if_pos hq0]
          refine wpS_bind (wpS_reverse (wpS_bind (wpS_reverse ?_)))
          have hsz2 : lo + m ≤ (mirror (arrOf st') (lo + m - (q + 1)) (lo + m) ((lo + m - (lo + m - (q + 1))) / 2)).size := by rw [mirror_size]; exact hsz'
          refine wpS_bind (wpS_asc (g := fun n => (none, n)) (bad := fun n => (some none, n)) hL hn (by omega) hm2 ((hB'.setArr (mirror_perm _ _ _ _)).setArr (mirror_perm _ _ _ _)) (fun i x => rfl) ((hs'.same (k_mirror_equal hsz' he)).turn hsz2) fun m' hm1' hm2' hsm _ =>
            wpS_pure (h m' _ ((hB'.setArr (mirror_perm _ _ _ _)).setArr (mirror_perm _ _ _ _)) hp ((ha0.trans (mirror_ahead hsz' (by omega))).trans (mirror_ahead hsz2 (Nat.le_refl lo))) (by omega) hm2' hsm))
        · rw [if_neg hq0]
          refine wpS_bind (wpS_reverse ?_)
          exact wpS_bind (wpS_asc (g := fun n => (none, n)) (bad := fun n => (some none, n)) hL hn (by omega) hm2 (hB'.setArr (mirror_perm _ _ _ _)) (fun i x => rfl) (hs'.turn hsz') fun m' hm1' hm2' hsm _ =>
            wpS_pure (h m' _ (hB'.setArr (mirror_perm _ _ _ _)) hp (ha0.trans (mirror_ahead hsz' (Nat.le_refl lo))) (by omega) hm2' hsm))
    · rw [if_neg hgt]
      obtain rfl : n = 1 := by omega
      have hdn : Down κ (arrOf st) lo (lo + 1) := fun i j hi hij hj => by
        obtain rfl : i = j := by omega
        exact Int.le_refl _
      refine wpS_bind (wpS_lift (wpAny_rule ⟨rfl, ?_⟩))
      refine wpS_bind (wpS_desc (g := fun n q => (none, n, q)) (bad := fun n q => (some none, n, q)) hL hn (by omega) (by omega) hB (fun i x q => rfl) (hdn.more (by omega) (Int.le_of_lt hlt)) fun m q st' hB' hp ha hm1 hm2 hs' hq he => ?_)
      dsimp only
      have hsz' : lo + m ≤ (arrOf st').size := by rw [hB'.size]; omega
      by_cases hq0 : q > 0
      · rw [if_pos hq0]
        refine wpS_bind (wpS_reverse (wpS_bind (wpS_reverse ?_)))
        have hsz2 : lo + m ≤ (mirror (arrOf st') (lo + m - (q + 1)) (lo + m) ((lo + m - (lo + m - (q + 1))) / 2)).size := by rw [mirror_size]; exact hsz'
        refine wpS_bind (wpS_asc (g := fun n => (none, n)) (bad := fun n => (some none, n)) hL hn (by omega) hm2 ((hB'.setArr (mirror_perm _ _ _ _)).setArr (mirror_perm _ _ _ _)) (fun i x => rfl) ((hs'.same (k_mirror_equal hsz' he)).turn hsz2) fun m' hm1' hm2' hsm _ =>
          wpS_pure (h m' _ ((hB'.setArr (mirror_perm _ _ _ _)).setArr (mirror_perm _ _ _ _)) hp ((ha.trans (mirror_ahead hsz' (by omega))).trans (mirror_ahead hsz2 (Nat.le_refl lo))) (by omega) hm2' hsm))
      · rw [if_neg hq0]
        refine wpS_bind (wpS_reverse ?_)
        exact wpS_bind (wpS_asc (g := fun n => (none, n)) (bad := fun n => (some none, n)) hL hn (by omega) hm2 (hB'.setArr (mirror_perm _ _ _ _)) (fun i x => rfl) (hs'.turn hsz') fun m' hm1' hm2' hsm _ =>
          wpS_pure (h m' _ (hB'.setArr (mirror_perm _ _ _ _)) hp (ha.trans (mirror_ahead hsz' (Nat.le_refl lo))) (by omega) hm2' hsm))
end
end
end Mine
set_option autoImplicit false
namespace Mine
noncomputable section
open PySem PyProof.Rows

noncomputable def gallop' : Bool → Keyed → Array Keyed → Nat → Nat → Nat → StateT SortSt Sem (Option Nat) := sortPriv% PySem.Builtin.gallop

section
variable {prog : Program} {w : World} {A : Around} {E : Value → Shared → Prop} {s : Shared} {kd : SortKind} {κ : Keyed → Int} {a₀ : Array Keyed}

/-- steps that double, as long as `v` holds -/
theorem wpS_widen {st : SortSt} {n maxofs : Nat} {β : Type} {g bad : Nat → Nat → β} {b : Nat → StateT SortSt Sem (Option Bool)} {neg : Bool → Bool} {v : Nat → Bool} {f : Nat → β → StateT SortSt Sem (ForInStep β)} {Q : β → SortSt → Prop} (hm : maxofs ≤ n) (hm1 : 1 ≤ maxofs)
    (hb : ∀ o, o < maxofs → ∀ R : Option Bool → SortSt → Prop, (∀ y, neg y = !(v o) → R (some y) st) → wpS (model prog w) A E s (b o) R st)
    (hf : ∀ i l o, f i (g l o) = if o ≥ maxofs then pure (ForInStep.done (g l o)) else do
      let __x ← b o
      match __x with
      | some y => if neg y = true then pure (ForInStep.done (g l o)) else pure (ForInStep.yield (g o (2 * o + 1)))
      | _ => pure (ForInStep.done (bad l o)))
    (h : ∀ l o, l < o → l < maxofs → (l = 0 ∨ v l = true) → (maxofs ≤ o ∨ v o = false) → Q (g l o) st) : wpS (model prog w) A E s (forIn [0:n] (g 0 1) f) Q st := by
  refine wpS_forRange (I := fun x c st' => st' = st ∧ ∃ l o, c = g l o ∧ l < o ∧ l < maxofs ∧ (l = 0 ∨ v l = true) ∧ x + 1 ≤ o) ?step ?fin ⟨rfl, 0, 1, rfl, by omega, by omega, .inl rfl, by omega⟩
  case fin =>
    rintro c st' ⟨rfl, l, o, rfl, h1, h2, h3, h4⟩
    exact h l o h1 h2 h3 (.inl (by omega))
  case step =>
    rintro x c st' _ hx ⟨rfl, l, o, rfl, h1, h2, h3, h4⟩
    rw [hf]
    by_cases ho : o ≥ maxofs
    · rw [if_pos ho]; exact wpS_pure (h l o h1 h2 h3 (.inl ho))
    · rw [if_neg ho]
      refine wpS_bind (hb o (by omega) _ fun y hy => ?_)
      cases hv : v o with
      | true =>
        have : ¬ neg y = true := by rw [hy, hv]; decide
        simp only [this, if_false]
        exact wpS_pure ⟨rfl, o, 2 * o + 1, rfl, by omega, by omega, .inr hv, by omega⟩
      | false =>
        have : neg y = true := by rw [hy, hv]; rfl
        simp only [this, if_true]
        exact wpS_pure (h l o h1 h2 h3 (.inr hv))

/-- the place where `v` turns, by halving -/
theorem wpS_halve {st : SortSt} {n lo₀ hi₀ : Nat} {β : Type} {g bad : Nat → Nat → β} {b : Nat → StateT SortSt Sem (Option Bool)} {v : Nat → Bool} {f : Nat → β → StateT SortSt Sem (ForInStep β)} {Q : β → SortSt → Prop} (hlh : lo₀ ≤ hi₀) (hhn : hi₀ ≤ n)
    (hmono : ∀ i j, i ≤ j → j < n → v j = true → v i = true) (hlo : ∀ i, i < lo₀ → v i = true) (hhi : ∀ i, hi₀ ≤ i → i < n → v i = false)
    (hb : ∀ o, o < n → ∀ R : Option Bool → SortSt → Prop, R (some (v o)) st → wpS (model prog w) A E s (b o) R st)
    (hf : ∀ i l o, f i (g l o) = if l ≥ o then pure (ForInStep.done (g l o)) else do
      let __x ← b (l + (o - l) / 2)
      match __x with
      | some y => if y = true then pure (ForInStep.yield (g (l + (o - l) / 2 + 1) o)) else pure (ForInStep.yield (g l (l + (o - l) / 2)))
      | _ => pure (ForInStep.done (bad l o)))
    (h : ∀ l k, k ≤ n → (∀ i, i < k → v i = true) → (∀ i, k ≤ i → i < n → v i = false) → Q (g l k) st) : wpS (model prog w) A E s (forIn [0:n] (g lo₀ hi₀) f) Q st := by
  refine wpS_forRange (I := fun x c st' => st' = st ∧ ∃ l o, c = g l o ∧ l ≤ o ∧ o ≤ n ∧ o - l ≤ n - x ∧ (∀ i, i < l → v i = true) ∧ (∀ i, o ≤ i → i < n → v i = false)) ?step ?fin ⟨rfl, lo₀, hi₀, rfl, hlh, hhn, by omega, hlo, hhi⟩
  case fin =>
    rintro c st' ⟨rfl, l, o, rfl, h1, h2, h3, h4, h5⟩
    obtain rfl : l = o := by omega
    exact h l l h2 h4 h5
  case step =>
    rintro x c st' _ hx ⟨rfl, l, o, rfl, h1, h2, h3, h4, h5⟩
    rw [hf]
    by_cases ho : l ≥ o
    · obtain rfl : l = o := by omega
      rw [if_pos ho]; exact wpS_pure (h l l h2 h4 h5)
    · rw [if_neg ho]
      refine wpS_bind (hb _ (by omega) _ ?_)
      cases hv : v (l + (o - l) / 2) with
      | true =>
        simp only [if_true]
        exact wpS_pure ⟨rfl, _, o, rfl, by omega, h2, by omega, fun i hi => hmono i _ (by omega) (by omega) hv, h5⟩
      | false =>
        simp only [Bool.false_eq_true, if_false]
        refine wpS_pure ⟨rfl, l, _, rfl, by omega, by omega, by omega, h4, fun i hi hn => ?_⟩
        cases hv' : v i with
        | false => rfl
        | true => rw [hmono _ i hi hn hv'] at hv; cases hv

/-- what lies ahead of the key -/
noncomputable def ahead (κ : Keyed → Int) (left : Bool) (key : Keyed) (arr : Array Keyed) (base i : Nat) : Bool := if left then decide (kAt κ arr (base + i) < κ key) else decide (kAt κ arr (base + i) ≤ κ key)

theorem wpS_gallop {st : SortSt} {left : Bool} {key : Keyed} {arr : Array Keyed} {base n hint : Nat} {Q : Option Nat → SortSt → Prop} (hL : LtOk prog w A E s kd κ a₀) (hk : kindOf st = kd) (hkey : key ∈ a₀.toList)
    (harr : ∀ i, i < n → ∃ p, arr[base + i]? = some p ∧ p ∈ a₀.toList) (hs : Seg κ arr base (base + n)) (hh : hint < n)
    (h : ∀ k, k ≤ n → (∀ i, i < k → ahead κ left key arr base i = true) → (∀ i, k ≤ i → i < n → ahead κ left key arr base i = false) → Q (some k) st) :
    wpS (model prog w) A E s (gallop' left key arr base n hint) Q st := by
  have hmono : ∀ i j, i ≤ j → j < n → ahead κ left key arr base j = true → ahead κ left key arr base i = true := fun i j hij hj hv => by
    have := hs (base + i) (base + j) (by omega) (by omega) (by omega)
    unfold ahead at hv ⊢
    cases left
    · simp only [Bool.false_eq_true, if_false, decide_eq_true_eq] at hv ⊢; omega
    · simp only [if_true, decide_eq_true_eq] at hv ⊢; omega
  have hb : ∀ o, o < n → ∀ R : Option Bool → SortSt → Prop, R (some (ahead κ left key arr base o)) st → wpS (model prog w) A E s (do
      let x ← elem' arr (base + o)
      if left = true then lt' x key else do
        let y ← lt' key x
        pure (Option.map (fun x => !x) y)) R st := fun o ho R hR => by
    obtain ⟨p, e, hp⟩ := harr o ho
    refine wpS_bind (wpS_elem e ?_)
    have hkp : kAt κ arr (base + o) = κ p := by rw [kAt, e]; rfl
    unfold ahead at hR
    rw [hkp] at hR
    cases left
    · simp only [Bool.false_eq_true, if_false] at hR ⊢
      refine wpS_bind (hL key p hkey hp st _ hk (wpS_pure ?_))
      have : (!decide (κ key < κ p)) = decide (κ p ≤ κ key) := by rw [Bool.eq_iff_iff]; simp
      rw [Option.map_some, this]; exact hR
    · simp only [if_true] at hR ⊢
      exact hL p key hp hkey st R hk hR
  unfold gallop'
  refine wpS_bind (hb hint hh _ ?_)
  have fin : ∀ lo hi, lo ≤ hi → hi ≤ n → (∀ i, i < lo → ahead κ left key arr base i = true) → (∀ i, hi ≤ i → i < n → ahead κ left key arr base i = false) → ∀ (f : Nat → Option (Option Nat) × Nat × Nat → StateT SortSt Sem (ForInStep (Option (Option Nat) × Nat × Nat))) (k : Option (Option Nat) × Nat × Nat → StateT SortSt Sem (Option Nat)),
      (∀ i l o, f i (none, l, o) = if l ≥ o then pure (ForInStep.done (none, l, o)) else do
        let __x ← (do
          let x ← elem' arr (base + (l + (o - l) / 2))
          if left = true then lt' x key else do
            let y ← lt' key x
            pure (Option.map (fun x => !x) y))
        match __x with
        | some y => if y = true then pure (ForInStep.yield (none, l + (o - l) / 2 + 1, o)) else pure (ForInStep.yield (none, l, l + (o - l) / 2))
        | _ => pure (ForInStep.done (some none, l, o))) → (∀ l o, k (none, l, o) = pure (some o)) →
      wpS (model prog w) A E s (forIn [0:n] (none, lo, hi) f >>= k) Q st := fun lo hi h1 h2 h3 h4 f k hf hk' =>
    wpS_bind (wpS_halve (g := fun l o => (none, l, o)) (bad := fun l o => (some none, l, o)) (v := ahead κ left key arr base) h1 h2 hmono h3 h4 hb hf fun l o h5 h6 h7 => by rw [hk']; exact wpS_pure (h o h5 h6 h7))
  cases hv : ahead κ left key arr base hint with
  | true =>
    simp only [if_true]
    refine wpS_bind (wpS_widen (g := fun l o => (none, l, o)) (bad := fun l o => (some none, l, o)) (neg := fun y => !y) (v := fun o => ahead κ left key arr base (hint + o)) (maxofs := n - hint) (by omega) (by omega) (fun o ho R hR => hb (hint + o) (by omega) R (hR _ rfl)) (fun i l o => rfl) fun l o h1 h2 h3 h4 => ?_)
    refine fin (hint + l + 1) (hint + min o (n - hint)) (by omega) (by omega) (fun i hi => ?_) (fun i hi hn => ?_) _ _ (fun _ _ _ => rfl) (fun _ _ => rfl)
    · rcases h3 with rfl | h3
      · exact hmono i hint (by omega) (by omega) hv
      · exact hmono i (hint + l) (by omega) (by omega) h3
    · cases hq : ahead κ left key arr base i with
      | false => rfl
      | true =>
        rcases h4 with h4 | h4
        · omega
        · rw [hmono (hint + o) i (by omega) hn hq] at h4; cases h4
  | false =>
    simp only [Bool.false_eq_true, if_false]
    refine wpS_bind (wpS_widen (g := fun l o => (none, l, o)) (bad := fun l o => (some none, l, o)) (neg := fun y => y) (v := fun o => !ahead κ left key arr base (hint - o)) (maxofs := hint + 1) (by omega) (by omega) (fun o ho R hR => hb (hint - o) (by omega) R (hR _ (by rw [Bool.not_not]))) (fun i l o => rfl) fun l o h1 h2 h3 h4 => ?_)
    refine fin (hint + 1 - min o (hint + 1)) (hint - l) (by omega) (by omega) (fun i hi => ?_) (fun i hi hn => ?_) _ _ (fun _ _ _ => rfl) (fun _ _ => rfl)
    · rcases h4 with h4 | h4
      · omega
      · rw [Bool.not_eq_false'] at h4
        exact hmono i (hint - o) (by omega) (by omega) h4
    · cases hq : ahead κ left key arr base i with
      | false => rfl
      | true =>
        rcases h3 with rfl | h3
        · rw [hmono hint i (by omega) hn hq] at hv; cases hv
        · rw [hmono (hint - l) i hi hn hq] at h3; cases h3
end
end
end Mine
set_option autoImplicit false
namespace Mine
noncomputable section
open PySem PyProof.Rows

noncomputable def Srt (κ : Keyed → Int) (l : List Keyed) : Prop := l.Pairwise fun x y => κ x ≤ κ y

section
variable {κ : Keyed → Int}
theorem kAt_eq {xs : Array Keyed} {i : Nat} {p : Keyed} (e : xs[i]? = some p) : kAt κ xs i = κ p := by rw [kAt, e]; rfl
theorem drop_mem {xs : Array Keyed} {i : Nat} {y : Keyed} (h : y ∈ xs.toList.drop i) : ∃ j, i ≤ j ∧ j < xs.size ∧ xs[j]? = some y := by
  rw [List.mem_iff_getElem?] at h
  obtain ⟨n, hn⟩ := h
  rw [List.getElem?_drop, Array.getElem?_toList] at hn
  exact ⟨i + n, by omega, (Array.getElem?_eq_some_iff.mp hn).1, hn⟩
theorem Seg.le_drop {xs : Array Keyed} {lo i : Nat} (h : Seg κ xs lo xs.size) (hi : lo ≤ i) {y : Keyed} (hy : y ∈ xs.toList.drop i) : kAt κ xs i ≤ κ y := by
  obtain ⟨j, h1, h2, h3⟩ := drop_mem hy
  rw [← kAt_eq (κ := κ) h3]
  exact h i j hi h1 h2
theorem drop_cons {xs : Array Keyed} {i : Nat} {p : Keyed} (e : xs[i]? = some p) : xs.toList.drop i = p :: xs.toList.drop (i + 1) := by
  have hi := (Array.getElem?_eq_some_iff.mp e).1
  rw [List.drop_eq_getElem_cons (by simpa using hi)]
  congr 1
  rw [Array.getElem_toList]
  exact (Array.getElem?_eq_some_iff.mp e).2
theorem take_snoc' {xs : Array Keyed} {i : Nat} {p : Keyed} (e : xs[i]? = some p) : xs.toList.take (i + 1) = xs.toList.take i ++ [p] := by
  rw [List.take_add_one, Array.getElem?_toList, e]; rfl

/-- merging under way: `out` holds the first `ia` of `a` and the first `ib` of `b` -/
structure G (κ : Keyed → Int) (a b out : Array Keyed) (ia ib : Nat) : Prop where
  perm : out.toList.Perm (a.toList.take ia ++ b.toList.take ib)
  srt : Srt κ out.toList
  leA : ∀ x ∈ out.toList, ∀ y ∈ a.toList.drop ia, κ x ≤ κ y
  leB : ∀ x ∈ out.toList, ∀ y ∈ b.toList.drop ib, κ x ≤ κ y

theorem G.swap {a b out : Array Keyed} {ia ib : Nat} (g : G κ a b out ia ib) : G κ b a out ib ia := ⟨g.perm.trans List.perm_append_comm, g.srt, g.leB, g.leA⟩
theorem G.pushA {a b out : Array Keyed} {ia ib : Nat} {p : Keyed} (g : G κ a b out ia ib) (e : a[ia]? = some p) (hs : Seg κ a 0 a.size) (hp : ∀ y ∈ b.toList.drop ib, κ p ≤ κ y) : G κ a b (out.push p) (ia + 1) ib := by
  have hd := drop_cons e
  refine ⟨?_, ?_, fun x hx y hy => ?_, fun x hx y hy => ?_⟩
  · rw [Array.toList_push, take_snoc' e]
    refine (g.perm.append_right [p]).trans ?_
    rw [List.append_assoc, List.append_assoc]
    exact List.Perm.append_left _ List.perm_append_comm
  · rw [Array.toList_push]
    refine List.pairwise_append.mpr ⟨g.srt, List.pairwise_singleton _ _, fun x hx y hy => ?_⟩
    rw [List.mem_singleton.mp hy]
    exact g.leA x hx p (by rw [hd]; exact List.mem_cons_self)
  · rw [Array.toList_push, List.mem_append, List.mem_singleton] at hx
    rcases hx with hx | rfl
    · exact g.leA x hx y (by rw [hd]; exact List.mem_cons_of_mem _ hy)
    · rw [← kAt_eq (κ := κ) e]; exact hs.le_drop (Nat.zero_le _) (by rw [hd]; exact List.mem_cons_of_mem _ hy)
  · rw [Array.toList_push, List.mem_append, List.mem_singleton] at hx
    rcases hx with hx | rfl
    · exact g.leB x hx y hy
    · exact hp y hy
theorem extract_more {a : Array Keyed} {i k : Nat} {p : Keyed} (e : a[i + k]? = some p) : a.extract i (i + (k + 1)) = (a.extract i (i + k)).push p := by
  obtain ⟨hi, he⟩ := Array.getElem?_eq_some_iff.mp e
  rw [← he, Array.push_extract_getElem, Nat.min_eq_left (by omega)]; rfl
theorem G.bulkA {a b out : Array Keyed} {ia ib : Nat} (g : G κ a b out ia ib) (hs : Seg κ a 0 a.size) : ∀ k, ia + k ≤ a.size → (∀ i, i < k → ∀ y ∈ b.toList.drop ib, kAt κ a (ia + i) ≤ κ y) → G κ a b (out ++ a.extract ia (ia + k)) (ia + k) ib
  | 0, _, _ => by
    have : a.extract ia (ia + 0) = #[] := by apply Array.toList_inj.mp; simp
    rw [this]; simpa using g
  | k + 1, hk, h => by
    have ih := G.bulkA g hs k (by omega) fun i hi => h i (by omega)
    have e : a[ia + k]? = some a[ia + k] := Array.getElem?_eq_getElem (by omega)
    rw [extract_more e, ← Array.push_append]
    exact ih.pushA e hs fun y hy => by rw [← kAt_eq (κ := κ) e]; exact h k (by omega) y hy

/-- what a merge gives -/
noncomputable def Good (κ : Keyed → Int) (a b r : Array Keyed) : Prop := r.toList.Perm (a.toList ++ b.toList) ∧ Srt κ r.toList

theorem Seg.srt_drop {xs : Array Keyed} (h : Seg κ xs 0 xs.size) (i : Nat) : Srt κ (xs.toList.drop i) := by
  refine List.Pairwise.drop ?_
  rw [List.pairwise_iff_getElem]
  intro i j hi hj hij
  have := h i j (Nat.zero_le _) (by omega) (by simpa using hj)
  simpa [kAt, Array.getElem?_eq_getElem (show i < xs.size by simpa using hi), Array.getElem?_eq_getElem (show j < xs.size by simpa using hj)] using this
theorem extract_drop (xs : Array Keyed) (i : Nat) : (xs.extract i xs.size).toList = xs.toList.drop i := by
  rw [Array.toList_extract, List.extract_eq_take_drop, List.take_of_length_le (by simp)]
theorem G.fin {a b out : Array Keyed} {ia ib : Nat} (g : G κ a b out ia ib) (ha : Seg κ a 0 a.size) (hb : Seg κ b 0 b.size) (h : ∀ x ∈ a.toList.drop ia, ∀ y ∈ b.toList.drop ib, κ x ≤ κ y) : Good κ a b (out ++ a.extract ia a.size ++ b.extract ib b.size) := by
  rw [Good, Array.toList_append, Array.toList_append, extract_drop, extract_drop]
  constructor
  · have h1 := (g.perm.append_right (a.toList.drop ia)).append_right (b.toList.drop ib)
    refine h1.trans ?_
    have h2 : ((a.toList.take ia ++ b.toList.take ib) ++ a.toList.drop ia).Perm (a.toList ++ b.toList.take ib) := by
      have : (a.toList.take ia ++ b.toList.take ib ++ a.toList.drop ia).Perm (a.toList.take ia ++ (a.toList.drop ia ++ b.toList.take ib)) := by
        rw [List.append_assoc]; exact List.Perm.append_left _ List.perm_append_comm
      rwa [← List.append_assoc, List.take_append_drop] at this
    refine (h2.append_right _).trans ?_
    rw [List.append_assoc, List.take_append_drop]
  · refine List.pairwise_append.mpr ⟨List.pairwise_append.mpr ⟨g.srt, ha.srt_drop ia, g.leA⟩, hb.srt_drop ib, fun x hx y hy => ?_⟩
    rcases List.mem_append.mp hx with hx | hx
    · exact g.leB x hx y hy
    · exact h x hx y hy
theorem Good.swap {a b r : Array Keyed} (h : Good κ a b r) : Good κ b a r := ⟨h.1.trans List.perm_append_comm, h.2⟩
end
end
end Mine
set_option autoImplicit false
namespace Mine
noncomputable section
open PySem PyProof.Rows

noncomputable def mergeLo' : Array Keyed → Array Keyed → StateT SortSt Sem (Array Keyed) := sortPriv% PySem.Builtin.mergeLo

/-- all but the note of how soon to gallop -/
structure Alike' (st st' : SortSt) : Prop where
  kind : kindOf st' = kindOf st
  arr : arrOf st' = arrOf st
  pend : pendingOf st' = pendingOf st
  failed : failedOf st' = failedOf st
theorem Alike'.rfl' (st : SortSt) : Alike' st st := ⟨rfl, rfl, rfl, rfl⟩

theorem Alike'.trans {a b c : SortSt} (x : Alike' a b) (y : Alike' b c) : Alike' a c := ⟨y.kind.trans x.kind, y.arr.trans x.arr, y.pend.trans x.pend, y.failed.trans x.failed⟩

section
variable {prog : Program} {w : World} {A : Around} {E : Value → Shared → Prop} {s : Shared} {kd : SortKind} {κ : Keyed → Int} {a₀ : Array Keyed}

theorem at_mem {xs : Array Keyed} {i : Nat} (h : i < xs.size) : ∃ p, xs[i]? = some p ∧ p ∈ xs.toList := ⟨xs[i], Array.getElem?_eq_getElem h, by simp⟩

theorem wpS_ite {α : Type} {c : Prop} [Decidable c] {x y : StateT SortSt Sem α} {Q : α → SortSt → Prop} {st : SortSt} (h1 : c → wpS (model prog w) A E s x Q st) (h2 : ¬ c → wpS (model prog w) A E s y Q st) : wpS (model prog w) A E s (if c then x else y) Q st := by
  by_cases h : c
  · rw [if_pos h]; exact h1 h
  · rw [if_neg h]; exact h2 h
theorem wpS_noted {f : SortSt → SortSt} {Q : PUnit → SortSt → Prop} {st : SortSt} (hf : Alike' st (f st)) (h : ∀ st', Alike' st st' → Q ⟨⟩ st') : wpS (model prog w) A E s (modify f : StateT SortSt Sem PUnit) Q st := wpS_modify (h _ hf)
theorem wpS_at {xs : Array Keyed} {i : Nat} {st : SortSt} {Q : Keyed → SortSt → Prop} (hi : i < xs.size) (h : ∀ p, xs[i]? = some p → p ∈ xs.toList → Q p st) : wpS (model prog w) A E s (elem' xs i) Q st :=
  wpS_elem (Array.getElem?_eq_getElem hi) (h _ (Array.getElem?_eq_getElem hi) (by simp))
/-- a loop that has a result, or two places and what is out -/
theorem wpS_mfor {ρ X : Type} {n : Nat} {h : Array Keyed → Nat → Nat → ρ → X} {f : Nat → Option (Array Keyed) × X → StateT SortSt Sem (ForInStep (Option (Array Keyed) × X))} {st : SortSt} {Q : Option (Array Keyed) × X → SortSt → Prop}
    (I : Nat → Array Keyed → Nat → Nat → SortSt → Prop) (K : Array Keyed → Nat → Nat → SortSt → Prop) (D : Array Keyed → SortSt → Prop) {out : Array Keyed} {ia ib : Nat} {r : ρ} (h0 : I 0 out ia ib st)
    (hstep : ∀ i out ia ib r st (R : ForInStep (Option (Array Keyed) × X) → SortSt → Prop), i < n → I i out ia ib st → (∀ v x st, D v st → R (.done (some v, x)) st) →
      (∀ out ia ib r st, K out ia ib st → R (.done (none, h out ia ib r)) st) → (∀ out ia ib r st, I (i + 1) out ia ib st → R (.yield (none, h out ia ib r)) st) → wpS (model prog w) A E s (f i (none, h out ia ib r)) R st)
    (hend : ∀ out ia ib st, I n out ia ib st → K out ia ib st) (hd : ∀ v x st, D v st → Q (some v, x) st) (hk : ∀ out ia ib r st, K out ia ib st → Q (none, h out ia ib r) st) :
    wpS (model prog w) A E s (forIn [0:n] (none, h out ia ib r) f) Q st := by
  refine wpS_forRange (fun i c st => ∃ out ia ib r, c = (none, h out ia ib r) ∧ I i out ia ib st) ?_ ?_ ⟨out, ia, ib, r, rfl, h0⟩
  · rintro i c st _ hi ⟨out, ia, ib, r, rfl, hI⟩
    exact hstep i out ia ib r st _ hi hI hd hk fun out ia ib r st q => ⟨out, ia, ib, r, rfl, q⟩
  · rintro c st ⟨out, ia, ib, r, rfl, hI⟩
    exact hk out ia ib r st (hend _ _ _ _ (by rwa [Nat.zero_max] at hI))

theorem runA {a b out : Array Keyed} {ia ib k : Nat} {pb : Keyed} (sa : Seg κ a 0 a.size) (sb : Seg κ b 0 b.size) (g : G κ a b out ia ib) (eb : b[ib]? = some pb) (hk1 : k ≤ a.size - ia) (hk2 : ∀ i, i < k → ahead κ false pb a ia i = true) (hk3 : ∀ i, k ≤ i → i < a.size - ia → ahead κ false pb a ia i = false) :
    G κ a b (out ++ a.extract ia (ia + k)) (ia + k) ib ∧ ∀ y ∈ a.toList.drop (ia + k), κ pb ≤ κ y := by
  refine ⟨?_, fun y hy => ?_⟩
  · by_cases hia : ia ≤ a.size
    · refine g.bulkA sa k (by omega) fun i hi y hy => ?_
      have q := hk2 i hi
      simp only [ahead, Bool.false_eq_true, if_false, decide_eq_true_eq] at q
      have := sb.le_drop (Nat.zero_le _) hy
      rw [kAt_eq (κ := κ) eb] at this
      omega
    · obtain rfl : k = 0 := by omega
      have : a.extract ia (ia + 0) = #[] := by apply Array.toList_inj.mp; simp
      rw [this]; simpa using g
  · obtain ⟨j, q1, q2, q3⟩ := drop_mem hy
    have q := hk3 (j - ia) (by omega) (by omega)
    simp only [ahead, Bool.false_eq_true, if_false, decide_eq_false_iff_not] at q
    rw [show ia + (j - ia) = j by omega, kAt_eq (κ := κ) q3] at q
    omega
theorem runB {a b out : Array Keyed} {ia ib k : Nat} {pa : Keyed} (sa : Seg κ a 0 a.size) (sb : Seg κ b 0 b.size) (g : G κ a b out ia ib) (ea : a[ia]? = some pa) (hk1 : k ≤ b.size - ib) (hk2 : ∀ i, i < k → ahead κ true pa b ib i = true) (hk3 : ∀ i, k ≤ i → i < b.size - ib → ahead κ true pa b ib i = false) :
    G κ a b (out ++ b.extract ib (ib + k)) ia (ib + k) ∧ ∀ y ∈ b.toList.drop (ib + k), κ pa ≤ κ y := by
  refine ⟨?_, fun y hy => ?_⟩
  · by_cases hib : ib ≤ b.size
    · refine (g.swap.bulkA sb k (by omega) fun i hi y hy => ?_).swap
      have q := hk2 i hi
      simp only [ahead, if_true, decide_eq_true_eq] at q
      have := sa.le_drop (Nat.zero_le _) hy
      rw [kAt_eq (κ := κ) ea] at this
      omega
    · obtain rfl : k = 0 := by omega
      have : b.extract ib (ib + 0) = #[] := by apply Array.toList_inj.mp; simp
      rw [this]; simpa using g
  · obtain ⟨j, q1, q2, q3⟩ := drop_mem hy
    have q := hk3 (j - ib) (by omega) (by omega)
    simp only [ahead, if_true, decide_eq_false_iff_not] at q
    rw [show ib + (j - ib) = j by omega, kAt_eq (κ := κ) q3] at q
    omega

/-- merging under way, neither side at its end -/
structure Lo (κ : Keyed → Int) (a b out : Array Keyed) (ia ib j : Nat) : Prop where
  g : G κ a b out ia ib
  ha : ia + 1 < a.size
  hb : ib < b.size
  hj : j ≤ ia + ib

theorem Lo.less {a b out : Array Keyed} {ia ib j j' : Nat} (L : Lo κ a b out ia ib j') (h : j ≤ j') : Lo κ a b out ia ib j := ⟨L.g, L.ha, L.hb, Nat.le_trans h L.hj⟩

structure Mrg (kd : SortKind) (κ : Keyed → Int) (a₀ a b : Array Keyed) : Prop where
  ma : ∀ p ∈ a.toList, p ∈ a₀.toList
  mb : ∀ p ∈ b.toList, p ∈ a₀.toList
  sa : Seg κ a 0 a.size
  sb : Seg κ b 0 b.size
  first : kAt κ b 0 ≤ kAt κ a 0
  last : ∀ y ∈ b.toList, κ y ≤ kAt κ a (a.size - 1)

theorem Mrg.doneA {a b out : Array Keyed} {ia ib : Nat} (M : Mrg kd κ a₀ a b) (g : G κ a b out ia ib) (e : ia = a.size) : Good κ a b (out ++ a.extract ia a.size ++ b.extract ib b.size) :=
  g.fin M.sa M.sb fun x hx => by rw [e, List.drop_of_length_le (by simp)] at hx; cases hx
theorem Mrg.doneB {a b out : Array Keyed} {ia ib : Nat} (M : Mrg kd κ a₀ a b) (g : G κ a b out ia ib) (e : ib = b.size) : Good κ a b (out ++ a.extract ia a.size ++ b.extract ib b.size) :=
  g.fin M.sa M.sb fun x hx y hy => by rw [e, List.drop_of_length_le (by simp)] at hy; cases hy
theorem Mrg.lastA {a b out : Array Keyed} {ia ib : Nat} (M : Mrg kd κ a₀ a b) (g : G κ a b out ia ib) (e : ia + 1 = a.size) : Good κ a b (out ++ b.extract ib b.size ++ a.extract ia a.size) :=
  (g.swap.fin M.sb M.sa fun x hx y hy => by
    obtain ⟨j, h1, h2, h3⟩ := drop_mem hy
    have := M.last x (List.mem_of_mem_drop hx)
    rw [show a.size - 1 = j by omega, kAt_eq (κ := κ) h3] at this
    exact this).swap

theorem G.start (κ : Keyed → Int) (a b : Array Keyed) : G κ a b #[] 0 0 := ⟨by simp, List.Pairwise.nil, by simp, by simp⟩
theorem Lo.over {a b out : Array Keyed} {ia ib j : Nat} {P : Prop} (L : Lo κ a b out ia ib j) (h : a.size + b.size ≤ j) : P := by have := L.ha; have := L.hb; have := L.hj; omega
theorem Lo.moreA {a b out out' : Array Keyed} {ia ib j : Nat} (L : Lo κ a b out ia ib j) (g : G κ a b out' (ia + 1) ib) (e : ¬ ia + 1 + 1 = a.size) : Lo κ a b out' (ia + 1) ib (j + 1) := ⟨g, Nat.lt_of_le_of_ne L.ha e, L.hb, by have := L.hj; omega⟩
theorem Lo.moreB {a b out out' : Array Keyed} {ia ib j : Nat} (L : Lo κ a b out ia ib j) (g : G κ a b out' ia (ib + 1)) (e : ¬ ib + 1 = b.size) : Lo κ a b out' ia (ib + 1) (j + 1) := ⟨g, L.ha, Nat.lt_of_le_of_ne L.hb e, Nat.succ_le_succ L.hj⟩
theorem Mrg.lessB {a b out : Array Keyed} {ia ib : Nat} {pa pb : Keyed} (M : Mrg kd κ a₀ a b) (g : G κ a b out ia ib) (eb : b[ib]? = some pb) (ea : a[ia]? = some pa) (h : κ pb ≤ κ pa) : G κ a b (out.push pb) ia (ib + 1) :=
  (g.swap.pushA eb M.sb fun y hy => by have := M.sa.le_drop (Nat.zero_le _) hy; rw [kAt_eq (κ := κ) ea] at this; exact Int.le_trans h this).swap
theorem Mrg.lessA {a b out : Array Keyed} {ia ib : Nat} {pa pb : Keyed} (M : Mrg kd κ a₀ a b) (g : G κ a b out ia ib) (ea : a[ia]? = some pa) (eb : b[ib]? = some pb) (h : κ pa ≤ κ pb) : G κ a b (out.push pa) (ia + 1) ib :=
  g.pushA ea M.sa fun y hy => by have := M.sb.le_drop (Nat.zero_le _) hy; rw [kAt_eq (κ := κ) eb] at this; exact Int.le_trans h this
theorem add_le_of {i k n : Nat} (h : k ≤ n - i) (hi : i ≤ n) : i + k ≤ n := by omega
theorem Mrg.inA {a b : Array Keyed} (M : Mrg kd κ a₀ a b) (ia : Nat) : ∀ i, i < a.size - ia → ∃ p, a[ia + i]? = some p ∧ p ∈ a₀.toList := fun i hi => let ⟨p, e, m⟩ := at_mem (show ia + i < a.size by omega); ⟨p, e, M.ma p m⟩
theorem Mrg.inB {a b : Array Keyed} (M : Mrg kd κ a₀ a b) (ib : Nat) : ∀ i, i < b.size - ib → ∃ p, b[ib + i]? = some p ∧ p ∈ a₀.toList := fun i hi => let ⟨p, e, m⟩ := at_mem (show ib + i < b.size by omega); ⟨p, e, M.mb p m⟩
theorem Mrg.segA {a b : Array Keyed} (M : Mrg kd κ a₀ a b) (ia : Nat) : Seg κ a ia (ia + (a.size - ia)) := fun i j h1 h2 h3 => M.sa i j (Nat.zero_le _) h2 (by omega)
theorem Mrg.segB {a b : Array Keyed} (M : Mrg kd κ a₀ a b) (ib : Nat) : Seg κ b ib (ib + (b.size - ib)) := fun i j h1 h2 h3 => M.sb i j (Nat.zero_le _) h2 (by omega)

theorem wpS_mergeLo {a b : Array Keyed} {st : SortSt} {Q : Array Keyed → SortSt → Prop} (hL : LtOk prog w A E s kd κ a₀) (hk : kindOf st = kd) (M : Mrg kd κ a₀ a b) (ha1 : 1 ≤ a.size) (hb1 : 1 ≤ b.size)
    (h : ∀ r st', Alike' st st' → Good κ a b r → Q r st') : wpS (model prog w) A E s (mergeLo' a b) Q st := by
  unfold mergeLo'
  refine wpS_bind (wpS_lift (wpAny_rule ⟨rfl, wpS_bind (wpS_at hb1 fun p0 e0 m0 => ?_)⟩))
  have g1 : G κ a b #[p0] 0 1 := ((G.start κ b a).pushA e0 M.sb fun y hy => by rw [← kAt_eq (κ := κ) e0]; exact Int.le_trans M.first (M.sa.le_drop (Nat.le_refl 0) hy)).swap
  refine wpS_ite (fun e => wpS_pure (h _ st (.rfl' st) (M.doneB g1 (beq_iff_eq.mp e)))) fun e1 => wpS_ite (fun e => wpS_pure (h _ st (.rfl' st) (M.lastA g1 (beq_iff_eq.mp e)))) fun e2 =>
    wpS_bind (wpS_get (wpS_bind (wpS_mfor (ρ := Nat) (h := fun out ia ib r => (out, ia, ib, r)) (fun j out ia ib st' => Alike' st st' ∧ Lo κ a b out ia ib (j + 1)) (fun _ _ _ _ => False)
      (fun v st' => Alike' st st' ∧ Good κ a b v) ⟨.rfl' st, g1, Nat.lt_of_le_of_ne ha1 fun q => e2 (beq_iff_eq.mpr q), Nat.lt_of_le_of_ne hb1 fun q => e1 (beq_iff_eq.mpr q), Nat.le_refl 1⟩ ?step (fun out ia ib st' q => q.2.over (Nat.le_succ _)) (fun v x st' q => wpS_pure (h v st' q.1 q.2)) fun _ _ _ _ _ q => q.elim)))
  clear h
  intro j out ia ib mg st₁ R _ J hD hN hY
  clear hN
  refine wpS_bind (wpS_mfor (ρ := Nat × Nat) (h := fun out ia ib r => (out, ia, ib, r)) (fun i out ia ib st' => Alike' st st' ∧ Lo κ a b out ia ib (j + 1 + i)) (fun out ia ib st' => Alike' st st' ∧ Lo κ a b out ia ib (j + 1 + 1)) (fun v st' => Alike' st st' ∧ Good κ a b v) J ?istep
    (fun out ia ib st' q => q.2.over (Nat.le_add_left _ _)) (fun v x st' q => wpS_pure (hD _ _ _ q)) ?ipost)
  case istep =>
    clear hD hY J R
    intro i out ia ib r st' R _ J hD hK hY
    refine wpS_bind (wpS_at J.2.hb fun pb eb mb => wpS_bind (wpS_at (Nat.lt_of_succ_lt J.2.ha) fun pa ea ma => wpS_bind (hL pb pa (M.mb pb mb) (M.ma pa ma) st' _ (J.1.kind.trans hk) ?_)))
    refine wpS_ite (fun hw => wpS_bind (wpS_at J.2.hb fun pb' eb' _ => ?_)) fun hw => wpS_bind (wpS_at (Nat.lt_of_succ_lt J.2.ha) fun pa' ea' _ => ?_)
    · have g' := M.lessB J.2.g eb' ea (by rw [Option.some.inj (eb'.symm.trans eb)]; exact Int.le_of_lt (of_decide_eq_true hw))
      refine wpS_ite (fun e => wpS_pure (hD _ _ _ ⟨J.1, M.doneB g' (beq_iff_eq.mp e)⟩)) fun e => ?_
      have L' := J.2.moreB g' fun q => e (beq_iff_eq.mpr q)
      exact wpS_ite (fun _ => wpS_pure (hK _ _ _ _ _ ⟨J.1, L'.less (by omega)⟩)) fun _ => wpS_pure (hY _ _ _ _ _ ⟨J.1, L'⟩)
    · have g' := M.lessA J.2.g ea' eb (by rw [Option.some.inj (ea'.symm.trans ea)]; exact Int.not_lt.mp fun q => hw (decide_eq_true q))
      refine wpS_ite (fun e => wpS_pure (hD _ _ _ ⟨J.1, M.lastA g' (beq_iff_eq.mp e)⟩)) fun e => ?_
      have L' := J.2.moreA g' fun q => e (beq_iff_eq.mpr q)
      exact wpS_ite (fun _ => wpS_pure (hK _ _ _ _ _ ⟨J.1, L'.less (by omega)⟩)) fun _ => wpS_pure (hY _ _ _ _ _ ⟨J.1, L'⟩)
  clear J st₁
  intro out ia ib r st₁ J
  refine wpS_bind (wpS_lift (wpAny_rule ⟨rfl, wpS_bind (wpS_mfor (ρ := Nat × Nat × Nat) (h := fun out ia ib r => (out, ia, ib, r)) (fun i out ia ib st' => Alike' st st' ∧ Lo κ a b out ia ib (j + 1 + 1)) (fun out ia ib st' => Alike' st st' ∧ Lo κ a b out ia ib (j + 1 + 1)) (fun v st' => Alike' st st' ∧ Good κ a b v) J ?gstep
    (fun out ia ib st' q => q) (fun v x st' q => wpS_pure (hD _ _ _ q)) fun out ia ib r st' q => wpS_bind (wpS_noted ⟨rfl, rfl, rfl, rfl⟩ fun st₂ hA => wpS_pure (hY _ _ _ _ _ ⟨q.1.trans hA, q.2⟩)))⟩))
  clear hD hY J R st₁
  intro i out ia ib r st' R _ J hD hK hY
  extract_lets s1 out1 s2 ia1 s3 ib1 s4 mg1 s5 ac1 bc1 ib2 jp mg2
  suffices T : ∀ mg, wpS (model prog w) A E s (jp () mg) R st' from wpS_ite (fun _ => T _) fun _ => T _
  intro mg
  refine wpS_bind (wpS_noted ⟨rfl, rfl, rfl, rfl⟩ fun st₂ hA => wpS_bind (wpS_at J.2.hb fun pb eb mb => wpS_bind (wpS_gallop (left := false) (base := ia) (n := a.size - ia) (hint := 0) hL ((J.1.trans hA).kind.trans hk) (M.mb pb mb) (M.inA ia) (M.segA ia) (Nat.sub_pos_of_lt (Nat.lt_of_succ_lt J.2.ha)) fun k hk1 hk2 hk3 => ?_)))
  have g2 := runA M.sa M.sb J.2.g eb hk1 hk2 hk3
  replace hA := J.1.trans hA
  clear hk2 hk3 mb
  dsimp -zeta only
  extract_lets ac2 jp2 out2 ia2
  have T : ∀ out ia, G κ a b out ia ib → ia + 1 < a.size → (∀ y ∈ a.toList.drop ia, κ pb ≤ κ y) → j + 1 + 1 ≤ ia + ib → wpS (model prog w) A E s (jp2 () out ia) R st₂ := by
    intro out ia g h1 hgt h3
    refine wpS_bind (wpS_at J.2.hb fun pb' eb' _ => ?_)
    have g3 := (g.swap.pushA eb' M.sb (Option.some.inj (eb.symm.trans eb') ▸ hgt)).swap
    refine wpS_ite (fun e => wpS_pure (hD _ _ _ ⟨hA, M.doneB g3 (beq_iff_eq.mp e)⟩)) fun e => ?_
    have hib : ib + 1 < b.size := Nat.lt_of_le_of_ne J.2.hb fun q => e (beq_iff_eq.mpr q)
    refine wpS_bind (wpS_at (Nat.lt_of_succ_lt h1) fun pa ea ma => wpS_bind (wpS_gallop (left := true) (base := ib + 1) (n := b.size - (ib + 1)) (hint := 0) hL (hA.kind.trans hk) (M.ma pa ma) (M.inB (ib + 1)) (M.segB (ib + 1)) (Nat.sub_pos_of_lt hib) fun k hk1 hk2 hk3 => ?_))
    have g4 := runB M.sa M.sb g3 ea hk1 hk2 hk3
    clear hk2 hk3 ma
    dsimp -zeta only
    extract_lets bc3 ia3 jp3 out3 ib3
    have T : ∀ out ib, G κ a b out ia ib → ib < b.size → (∀ y ∈ b.toList.drop ib, κ pa ≤ κ y) → j + 1 + 1 ≤ ia + ib → wpS (model prog w) A E s (jp3 () out ib) R st₂ := by
      intro out ib g h2 hlt h3
      refine wpS_bind (wpS_at (Nat.lt_of_succ_lt h1) fun pa' ea' _ => ?_)
      have g5 := g.pushA ea' M.sa (Option.some.inj (ea.symm.trans ea') ▸ hlt)
      refine wpS_ite (fun e => wpS_pure (hD _ _ _ ⟨hA, M.lastA g5 (beq_iff_eq.mp e)⟩)) fun e => ?_
      have L' : Lo κ a b (out.push pa') (ia + 1) ib (j + 1 + 1) := ⟨g5, Nat.lt_of_le_of_ne h1 fun q => e (beq_iff_eq.mpr q), h2, Nat.le_trans h3 (by rw [Nat.add_right_comm]; exact Nat.le_succ _)⟩
      exact wpS_ite (fun _ => wpS_pure (hK _ _ _ _ _ ⟨hA, L'⟩)) fun _ => wpS_pure (hY _ _ _ _ _ ⟨hA, L'⟩)
    refine wpS_ite (fun _ => wpS_ite (fun e => wpS_pure (hD _ _ _ ⟨hA, M.doneB g4.1 (beq_iff_eq.mp e)⟩)) fun e => T _ _ g4.1 (Nat.lt_of_le_of_ne (add_le_of hk1 (Nat.le_of_lt hib)) fun q => e (beq_iff_eq.mpr q)) g4.2 (Nat.le_trans h3 (Nat.add_le_add_left (Nat.le_trans (Nat.le_succ _) (Nat.le_add_right _ _)) _))) fun hk0 => T _ _ g3 hib ?_ (Nat.le_succ_of_le h3)
    obtain rfl : k = 0 := Nat.eq_zero_of_not_pos hk0
    exact g4.2
  refine wpS_ite (fun _ => wpS_ite (fun e => wpS_pure (hD _ _ _ ⟨hA, M.lastA g2.1 (beq_iff_eq.mp e)⟩)) fun e => wpS_ite (fun e => wpS_pure (hD _ _ _ ⟨hA, M.doneA g2.1 (beq_iff_eq.mp e)⟩)) fun e' =>
    T _ _ g2.1 (Nat.lt_of_le_of_ne (Nat.lt_of_le_of_ne (add_le_of hk1 (Nat.le_of_lt (Nat.lt_of_succ_lt J.2.ha))) fun q => e' (beq_iff_eq.mpr q)) fun q => e (beq_iff_eq.mpr q)) g2.2 (Nat.le_trans J.2.hj (Nat.add_le_add_right (Nat.le_add_right _ _) _))) fun hk0 => T _ _ J.2.g J.2.ha ?_ J.2.hj
  obtain rfl : k = 0 := Nat.eq_zero_of_not_pos hk0
  exact g2.2
end
end
end Mine
set_option autoImplicit false
namespace Mine
noncomputable section
open PySem PyProof.Rows

noncomputable def mergeHi' : Array Keyed → Array Keyed → StateT SortSt Sem (Array Keyed) := sortPriv% PySem.Builtin.mergeHi

section
variable {prog : Program} {w : World} {A : Around} {E : Value → Shared → Prop} {s : Shared} {kd : SortKind} {κ : Keyed → Int} {a₀ : Array Keyed}

/-- merging downward, as merging upward of the turned ones -/
abbrev Hh (κ : Keyed → Int) (a b out : Array Keyed) (na nb : Nat) : Prop := G (fun x => -κ x) a.reverse b.reverse out (a.size - na) (b.size - nb)

theorem rev_at {a : Array Keyed} {na : Nat} (h0 : 0 < na) (hn : na ≤ a.size) : a.reverse[a.size - na]? = a[na - 1]? := by
  rw [Array.getElem?_reverse (by omega)]; congr 1; omega
theorem k_rev {a : Array Keyed} {i : Nat} (h : i < a.size) : kAt (fun x => -κ x) a.reverse i = -kAt κ a (a.size - 1 - i) := by
  rw [kAt, kAt, Array.getElem?_reverse h, Array.getElem?_eq_getElem (show a.size - 1 - i < a.size by omega)]; rfl
theorem seg_rev {a : Array Keyed} (h : Seg κ a 0 a.size) : Seg (fun x => -κ x) a.reverse 0 a.reverse.size := fun i j _ hij hj => by
  rw [Array.size_reverse] at hj
  rw [k_rev (Nat.lt_of_le_of_lt hij hj), k_rev hj]
  exact Int.neg_le_neg (h _ _ (Nat.zero_le _) (by omega) (by omega))
theorem rev_drop {b : Array Keyed} {nb : Nat} (hn : nb ≤ b.size) : b.reverse.toList.drop (b.size - nb) = (b.toList.take nb).reverse := by
  rw [Array.toList_reverse, List.drop_reverse]; congr 2; rw [Array.length_toList]; omega
theorem rev_ex {a : Array Keyed} {i n : Nat} (hi : i ≤ n) (hn : n ≤ a.size) : a.reverse.extract (a.size - n) (a.size - i) = (a.extract i n).reverse := by
  apply Array.toList_inj.mp
  rw [Array.toList_extract, Array.toList_reverse, Array.toList_reverse, Array.toList_extract, List.extract_eq_take_drop, List.extract_eq_take_drop, List.drop_reverse, List.take_reverse, List.length_take, Array.length_toList, List.drop_take, show min (a.size - (a.size - n)) a.size - (a.size - i - (a.size - n)) = i by omega, show a.size - (a.size - n) - i = n - i by omega]

theorem Hh.pushA {a b out : Array Keyed} {na nb : Nat} {p : Keyed} (g : Hh κ a b out na nb) (h0 : 0 < na) (hn : na ≤ a.size) (hb : nb ≤ b.size) (e : a[na - 1]? = some p) (sa : Seg κ a 0 a.size) (hp : ∀ y ∈ b.toList.take nb, κ y ≤ κ p) : Hh κ a b (out.push p) (na - 1) nb := by
  have := G.pushA g ((rev_at h0 hn).trans e) (seg_rev sa) fun y hy => Int.neg_le_neg (hp y (by rw [rev_drop hb] at hy; exact List.mem_reverse.mp hy))
  rwa [show a.size - na + 1 = a.size - (na - 1) by omega] at this
theorem Hh.bulkA {a b out : Array Keyed} {na nb i : Nat} (g : Hh κ a b out na nb) (hi : i ≤ na) (hn : na ≤ a.size) (hb : nb ≤ b.size) (sa : Seg κ a 0 a.size) (hp : ∀ k, i ≤ k → k < na → ∀ y ∈ b.toList.take nb, κ y ≤ kAt κ a k) : Hh κ a b (out ++ (a.extract i na).reverse) i nb := by
  have := G.bulkA g (seg_rev sa) (na - i) (by rw [Array.size_reverse]; omega) fun k hk y hy => by
    rw [k_rev (by omega)]
    exact Int.neg_le_neg (hp _ (by omega) (by omega) y (by rw [rev_drop hb] at hy; exact List.mem_reverse.mp hy))
  rwa [show a.size - na + (na - i) = a.size - i by omega, rev_ex hi hn] at this
theorem Good.rev {a b r : Array Keyed} (h : Good (fun x => -κ x) a.reverse b.reverse r) : Good κ a b r.reverse := by
  refine ⟨?_, ?_⟩
  · have := h.1
    rw [Array.toList_reverse, Array.toList_reverse] at this
    rw [Array.toList_reverse]
    exact (List.reverse_perm _).trans (this.trans ((List.reverse_perm _).append (List.reverse_perm _)))
  · rw [Srt, Array.toList_reverse, List.pairwise_reverse]
    exact h.2.imp fun q => Int.neg_le_neg_iff.mp q
theorem Hh.fin {a b out : Array Keyed} {na nb : Nat} (g : Hh κ a b out na nb) (ha : na ≤ a.size) (hb : nb ≤ b.size) (sa : Seg κ a 0 a.size) (sb : Seg κ b 0 b.size) (h : ∀ x ∈ a.toList.take na, ∀ y ∈ b.toList.take nb, κ x ≤ κ y) : Good κ a b (a.extract 0 na ++ b.extract 0 nb ++ out.reverse) := by
  have := (G.fin g.swap (seg_rev sb) (seg_rev sa) fun x hx y hy => Int.neg_le_neg (h y (by rw [rev_drop ha] at hy; exact List.mem_reverse.mp hy) x (by rw [rev_drop hb] at hx; exact List.mem_reverse.mp hx))).swap.rev
  rw [Array.size_reverse, Array.size_reverse] at this
  have e1 := rev_ex (a := a) (Nat.zero_le na) ha
  have e2 := rev_ex (a := b) (Nat.zero_le nb) hb
  rw [Nat.sub_zero] at e1 e2
  rwa [e1, e2, Array.reverse_append, Array.reverse_append, Array.reverse_reverse, Array.reverse_reverse, ← Array.append_assoc] at this

theorem take_le {a : Array Keyed} {n : Nat} {p : Keyed} (sa : Seg κ a 0 a.size) (h0 : 0 < n) (e : a[n - 1]? = some p) {y : Keyed} (hy : y ∈ a.toList.take n) : κ y ≤ κ p := by
  obtain ⟨i, hi, hq⟩ := List.mem_take_iff_getElem.mp hy
  have h1 := (Array.getElem?_eq_some_iff.mp e).1
  rw [← kAt_eq (κ := κ) e, ← hq]
  have h2 : i < a.size := by rw [Array.length_toList] at hi; omega
  have := sa i (n - 1) (Nat.zero_le _) (by omega) h1
  rwa [kAt_eq (κ := κ) (Array.getElem?_eq_getElem h2)] at this
theorem take_at {a : Array Keyed} {n : Nat} {y : Keyed} (hy : y ∈ a.toList.take n) : ∃ i, i < n ∧ kAt κ a i = κ y := by
  obtain ⟨i, hi, hq⟩ := List.mem_take_iff_getElem.mp hy
  rw [Array.length_toList] at hi
  refine ⟨i, by omega, ?_⟩
  rw [kAt_eq (κ := κ) (Array.getElem?_eq_getElem (show i < a.size by omega)), ← hq]; rfl

/-- merging under way, neither side at its end -/
structure Hi (κ : Keyed → Int) (a b out : Array Keyed) (na nb j : Nat) : Prop where
  g : Hh κ a b out na nb
  a0 : 0 < na
  b0 : 1 < nb
  an : na ≤ a.size
  bn : nb ≤ b.size
  hj : j + (na + nb) ≤ a.size + b.size
theorem Hi.less {a b out : Array Keyed} {na nb j j' : Nat} (L : Hi κ a b out na nb j') (h : j ≤ j') : Hi κ a b out na nb j := ⟨L.g, L.a0, L.b0, L.an, L.bn, Nat.le_trans (Nat.add_le_add_right h _) L.hj⟩
theorem Hi.over {a b out : Array Keyed} {na nb j : Nat} {P : Prop} (L : Hi κ a b out na nb j) (h : a.size + b.size ≤ j) : P := by have := L.a0; have := L.hj; omega
theorem Hi.moreA {a b out out' : Array Keyed} {na nb j : Nat} (L : Hi κ a b out na nb j) (g : Hh κ a b out' (na - 1) nb) (e : ¬ na - 1 = 0) : Hi κ a b out' (na - 1) nb (j + 1) := ⟨g, Nat.pos_of_ne_zero e, L.b0, Nat.le_trans (Nat.sub_le _ _) L.an, L.bn, by have := L.hj; have := L.a0; omega⟩
theorem Hi.moreB {a b out out' : Array Keyed} {na nb j : Nat} (L : Hi κ a b out na nb j) (g : Hh κ a b out' na (nb - 1)) (e : ¬ nb - 1 = 1) : Hi κ a b out' na (nb - 1) (j + 1) := ⟨g, L.a0, by have := L.b0; omega, L.an, Nat.le_trans (Nat.sub_le _ _) L.bn, by have := L.hj; have := L.b0; omega⟩

theorem Mrg.endA {a b out : Array Keyed} {na nb : Nat} (M : Mrg kd κ a₀ a b) (g : Hh κ a b out na nb) (hb : nb ≤ b.size) (e : na = 0) : Good κ a b (a.extract 0 na ++ b.extract 0 nb ++ out.reverse) :=
  g.fin (by omega) hb M.sa M.sb fun x hx => by rw [e, List.take_zero] at hx; cases hx
theorem Mrg.endB {a b out : Array Keyed} {na nb : Nat} (M : Mrg kd κ a₀ a b) (g : Hh κ a b out na nb) (ha : na ≤ a.size) (e : nb = 0) : Good κ a b (a.extract 0 na ++ b.extract 0 nb ++ out.reverse) :=
  g.fin ha (by omega) M.sa M.sb fun x hx y hy => by rw [e, List.take_zero] at hy; cases hy
theorem Mrg.oneB {a b out : Array Keyed} {na nb : Nat} (M : Mrg kd κ a₀ a b) (g : Hh κ a b out na nb) (ha : na ≤ a.size) (hb : nb ≤ b.size) (e : nb = 1) : Good κ a b (b.extract 0 nb ++ a.extract 0 na ++ out.reverse) :=
  (Hh.fin g.swap hb ha M.sb M.sa fun x hx y hy => by
    obtain ⟨i, h1, h2⟩ := take_at (κ := κ) hx
    obtain ⟨j, h3, h4⟩ := take_at (κ := κ) hy
    obtain rfl : i = 0 := by omega
    rw [← h2, ← h4]
    exact Int.le_trans M.first (M.sa 0 j (Nat.le_refl 0) (Nat.zero_le _) (by omega))).swap

theorem hiA {a b out : Array Keyed} {na nb k : Nat} {pb : Keyed} (M : Mrg kd κ a₀ a b) (g : Hh κ a b out na nb) (h0 : 0 < nb) (ha : na ≤ a.size) (hb : nb ≤ b.size) (eb : b[nb - 1]? = some pb) (hk1 : k ≤ na) (hk2 : ∀ i, i < k → ahead κ false pb a 0 i = true) (hk3 : ∀ i, k ≤ i → i < na → ahead κ false pb a 0 i = false) :
    Hh κ a b (out ++ (a.extract k na).reverse) k nb ∧ ∀ y ∈ a.toList.take k, κ y ≤ κ pb := by
  refine ⟨g.bulkA hk1 ha hb M.sa fun i h1 h2 y hy => ?_, fun y hy => ?_⟩
  · have := take_le M.sb h0 eb hy
    have q := hk3 i h1 h2
    simp only [ahead, Bool.false_eq_true, if_false, decide_eq_false_iff_not, Nat.zero_add] at q
    omega
  · obtain ⟨i, h1, h2⟩ := take_at (κ := κ) hy
    have q := hk2 i h1
    simp only [ahead, Bool.false_eq_true, if_false, decide_eq_true_eq, Nat.zero_add] at q
    omega
theorem hiB {a b out : Array Keyed} {na nb k : Nat} {pa : Keyed} (M : Mrg kd κ a₀ a b) (g : Hh κ a b out na nb) (h0 : 0 < na) (ha : na ≤ a.size) (hb : nb ≤ b.size) (ea : a[na - 1]? = some pa) (hk1 : k ≤ nb) (hk2 : ∀ i, i < k → ahead κ true pa b 0 i = true) (hk3 : ∀ i, k ≤ i → i < nb → ahead κ true pa b 0 i = false) :
    Hh κ a b (out ++ (b.extract k nb).reverse) na k ∧ ∀ y ∈ b.toList.take k, κ y ≤ κ pa := by
  refine ⟨(Hh.bulkA g.swap hk1 hb ha M.sb fun i h1 h2 y hy => ?_).swap, fun y hy => ?_⟩
  · have := take_le M.sa h0 ea hy
    have q := hk3 i h1 h2
    simp only [ahead, if_true, decide_eq_false_iff_not, Nat.zero_add] at q
    omega
  · obtain ⟨i, h1, h2⟩ := take_at (κ := κ) hy
    have q := hk2 i h1
    simp only [ahead, if_true, decide_eq_true_eq, Nat.zero_add] at q
    omega
theorem Hh.start (κ : Keyed → Int) (a b : Array Keyed) : Hh κ a b #[] a.size b.size := by rw [Hh, Nat.sub_self, Nat.sub_self]; exact G.start ..
theorem Mrg.hiLessA {a b out : Array Keyed} {na nb j : Nat} {pa pb : Keyed} (M : Mrg kd κ a₀ a b) (L : Hi κ a b out na nb j) (ea : a[na - 1]? = some pa) (eb : b[nb - 1]? = some pb) (h : κ pb ≤ κ pa) : Hh κ a b (out.push pa) (na - 1) nb :=
  L.g.pushA L.a0 L.an L.bn ea M.sa fun _ hy => Int.le_trans (take_le M.sb (Nat.lt_trans Nat.zero_lt_one L.b0) eb hy) h
theorem Mrg.hiLessB {a b out : Array Keyed} {na nb j : Nat} {pa pb : Keyed} (M : Mrg kd κ a₀ a b) (L : Hi κ a b out na nb j) (eb : b[nb - 1]? = some pb) (ea : a[na - 1]? = some pa) (h : κ pa ≤ κ pb) : Hh κ a b (out.push pb) na (nb - 1) :=
  (Hh.pushA L.g.swap (Nat.lt_trans Nat.zero_lt_one L.b0) L.bn L.an eb M.sb fun _ hy => Int.le_trans (take_le M.sa L.a0 ea hy) h).swap
theorem pred_lt {i n : Nat} (h0 : 0 < i) (h : i ≤ n) : i - 1 < n := by omega
theorem Mrg.inA' {a b : Array Keyed} {n : Nat} (M : Mrg kd κ a₀ a b) (h : n ≤ a.size) : ∀ i, i < n → ∃ p, a[0 + i]? = some p ∧ p ∈ a₀.toList := fun i hi => M.inA 0 i (Nat.lt_of_lt_of_le hi h)
theorem Mrg.inB' {a b : Array Keyed} {n : Nat} (M : Mrg kd κ a₀ a b) (h : n ≤ b.size) : ∀ i, i < n → ∃ p, b[0 + i]? = some p ∧ p ∈ a₀.toList := fun i hi => M.inB 0 i (Nat.lt_of_lt_of_le hi h)
theorem seg_to {a : Array Keyed} {n : Nat} (sa : Seg κ a 0 a.size) (h : n ≤ a.size) : Seg κ a 0 (0 + n) := fun i j h1 h2 h3 => sa i j h1 h2 (Nat.lt_of_lt_of_le h3 (by rw [Nat.zero_add]; exact h))

theorem two_le {n : Nat} (h : 1 < n) (e : ¬ n - 1 = 1) : 1 < n - 1 := by omega
theorem all_of {k n : Nat} (h : k ≤ n) (e : ¬ n - k > 0) : k = n := by omega
theorem step_le {x y z n : Nat} (h : x + (y + z) ≤ n) : x + (y + (z - 1)) ≤ n := by omega

theorem wpS_mergeHi {a b : Array Keyed} {st : SortSt} {Q : Array Keyed → SortSt → Prop} (hL : LtOk prog w A E s kd κ a₀) (hk : kindOf st = kd) (M : Mrg kd κ a₀ a b) (ha1 : 1 ≤ a.size) (hb1 : 1 ≤ b.size)
    (h : ∀ r st', Alike' st st' → Good κ a b r → Q r st') : wpS (model prog w) A E s (mergeHi' a b) Q st := by
  unfold mergeHi'
  refine wpS_bind (wpS_lift (wpAny_rule ⟨rfl, wpS_bind (wpS_at (pred_lt ha1 (Nat.le_refl _)) fun p0 e0 m0 => ?_)⟩))
  have g1 : Hh κ a b #[p0] (a.size - 1) b.size := (Hh.start κ a b).pushA ha1 (Nat.le_refl _) (Nat.le_refl _) e0 M.sa fun y hy => by have := M.last y (List.mem_of_mem_take hy); rwa [kAt_eq (κ := κ) e0] at this
  refine wpS_ite (fun e => wpS_pure (h _ st (.rfl' st) (M.endA g1 (Nat.le_refl _) (beq_iff_eq.mp e)))) fun e1 => wpS_ite (fun e => wpS_pure (h _ st (.rfl' st) (M.oneB g1 (Nat.sub_le _ _) (Nat.le_refl _) (beq_iff_eq.mp e)))) fun e2 =>
    wpS_bind (wpS_get (wpS_bind (wpS_mfor (ρ := Nat) (h := fun out na nb r => (na, nb, out, r)) (fun j out na nb st' => Alike' st st' ∧ Hi κ a b out na nb (j + 1)) (fun _ _ _ _ => False)
      (fun v st' => Alike' st st' ∧ Good κ a b v) ⟨.rfl' st, g1, Nat.pos_of_ne_zero fun q => e1 (beq_iff_eq.mpr q), Nat.lt_of_le_of_ne hb1 fun q => e2 (beq_iff_eq.mpr q.symm), Nat.sub_le _ _, Nat.le_refl _, by omega⟩ ?step (fun out na nb st' q => q.2.over (Nat.le_succ _)) (fun v x st' q => wpS_pure (h v st' q.1 q.2)) fun _ _ _ _ _ q => q.elim)))
  clear h
  intro j out na nb mg st₁ R _ J hD hN hY
  clear hN
  refine wpS_bind (wpS_mfor (ρ := Nat × Nat) (h := fun out na nb r => (na, nb, out, r)) (fun i out na nb st' => Alike' st st' ∧ Hi κ a b out na nb (j + 1 + i)) (fun out na nb st' => Alike' st st' ∧ Hi κ a b out na nb (j + 1 + 1)) (fun v st' => Alike' st st' ∧ Good κ a b v) J ?istep
    (fun out na nb st' q => q.2.over (Nat.le_add_left _ _)) (fun v x st' q => wpS_pure (hD _ _ _ q)) ?ipost)
  case istep =>
    clear hD hY J R
    intro i out na nb r st' R _ J hD hK hY
    have b0 : 0 < nb := Nat.lt_trans Nat.zero_lt_one J.2.b0
    refine wpS_bind (wpS_at (pred_lt b0 J.2.bn) fun pb eb mb => wpS_bind (wpS_at (pred_lt J.2.a0 J.2.an) fun pa ea ma => wpS_bind (hL pb pa (M.mb pb mb) (M.ma pa ma) st' _ (J.1.kind.trans hk) ?_)))
    refine wpS_ite (fun hw => wpS_bind (wpS_at (pred_lt J.2.a0 J.2.an) fun pa' ea' _ => ?_)) fun hw => wpS_bind (wpS_at (pred_lt b0 J.2.bn) fun pb' eb' _ => ?_)
    · have g' := M.hiLessA J.2 ea' eb (by rw [Option.some.inj (ea'.symm.trans ea)]; exact Int.le_of_lt (of_decide_eq_true hw))
      refine wpS_ite (fun e => wpS_pure (hD _ _ _ ⟨J.1, M.endA g' J.2.bn (beq_iff_eq.mp e)⟩)) fun e => ?_
      have L' := J.2.moreA g' fun q => e (beq_iff_eq.mpr q)
      exact wpS_ite (fun _ => wpS_pure (hK _ _ _ _ _ ⟨J.1, L'.less (by omega)⟩)) fun _ => wpS_pure (hY _ _ _ _ _ ⟨J.1, L'⟩)
    · have g' := M.hiLessB J.2 eb' ea (by rw [Option.some.inj (eb'.symm.trans eb)]; exact Int.not_lt.mp fun q => hw (decide_eq_true q))
      refine wpS_ite (fun e => wpS_pure (hD _ _ _ ⟨J.1, M.oneB g' J.2.an (Nat.le_trans (Nat.sub_le _ _) J.2.bn) (beq_iff_eq.mp e)⟩)) fun e => ?_
      have L' := J.2.moreB g' fun q => e (beq_iff_eq.mpr q)
      exact wpS_ite (fun _ => wpS_pure (hK _ _ _ _ _ ⟨J.1, L'.less (by omega)⟩)) fun _ => wpS_pure (hY _ _ _ _ _ ⟨J.1, L'⟩)
  clear J st₁
  intro out na nb r st₁ J
  refine wpS_bind (wpS_lift (wpAny_rule ⟨rfl, wpS_bind (wpS_mfor (ρ := Nat × Nat × Nat) (h := fun out na nb r => (na, nb, out, r)) (fun i out na nb st' => Alike' st st' ∧ Hi κ a b out na nb (j + 1 + 1)) (fun out na nb st' => Alike' st st' ∧ Hi κ a b out na nb (j + 1 + 1)) (fun v st' => Alike' st st' ∧ Good κ a b v) J ?gstep
    (fun out na nb st' q => q) (fun v x st' q => wpS_pure (hD _ _ _ q)) fun out na nb r st' q => wpS_bind (wpS_noted ⟨rfl, rfl, rfl, rfl⟩ fun st₂ hA => wpS_pure (hY _ _ _ _ _ ⟨q.1.trans hA, q.2⟩)))⟩))
  clear hD hY J R st₁
  intro i out na nb r st' R _ J hD hK hY
  have b0 : 0 < nb := Nat.lt_trans Nat.zero_lt_one J.2.b0
  extract_lets s1 na1 s2 nb1 s3 out1 s4 mg1 s5 ac1 bc1 nb2 jp mg2
  suffices T : ∀ mg, wpS (model prog w) A E s (jp () mg) R st' from wpS_ite (fun _ => T _) fun _ => T _
  intro mg
  refine wpS_bind (wpS_noted ⟨rfl, rfl, rfl, rfl⟩ fun st₂ hA => wpS_bind (wpS_at (pred_lt b0 J.2.bn) fun pb eb mb => wpS_bind (wpS_gallop (left := false) (base := 0) (n := na) (hint := na - 1) hL ((J.1.trans hA).kind.trans hk) (M.mb pb mb) (M.inA' J.2.an) (seg_to M.sa J.2.an) (pred_lt J.2.a0 (Nat.le_refl _)) fun k hk1 hk2 hk3 => ?_)))
  have g2 := hiA M J.2.g b0 J.2.an J.2.bn eb hk1 hk2 hk3
  replace hA := J.1.trans hA
  clear hk2 hk3 mb
  dsimp -zeta only
  extract_lets k2 ac2 jp2 out2 na2
  have T : ∀ na out, Hh κ a b out na nb → 0 < na → na ≤ a.size → (∀ y ∈ a.toList.take na, κ y ≤ κ pb) → j + 1 + 1 + (na + nb) ≤ a.size + b.size → wpS (model prog w) A E s (jp2 () na out) R st₂ := by
    intro na out g h0 hn hle h3
    refine wpS_bind (wpS_at (pred_lt b0 J.2.bn) fun pb' eb' _ => ?_)
    have g3 : Hh κ a b (out.push pb') na (nb - 1) := (Hh.pushA g.swap b0 J.2.bn hn eb' M.sb (Option.some.inj (eb.symm.trans eb') ▸ hle)).swap
    have bn := Nat.le_trans (Nat.sub_le nb 1) J.2.bn
    refine wpS_ite (fun e => wpS_pure (hD _ _ _ ⟨hA, M.oneB g3 hn bn (beq_iff_eq.mp e)⟩)) fun e => ?_
    have hnb := two_le J.2.b0 fun q => e (beq_iff_eq.mpr q)
    have h3 := step_le h3
    refine wpS_bind (wpS_at (pred_lt h0 hn) fun pa ea ma => wpS_bind (wpS_gallop (left := true) (base := 0) (n := nb - 1) (hint := nb - 1 - 1) hL (hA.kind.trans hk) (M.ma pa ma) (M.inB' bn) (seg_to M.sb bn) (pred_lt (Nat.lt_trans Nat.zero_lt_one hnb) (Nat.le_refl _)) fun k hk1 hk2 hk3 => ?_))
    have g4 := hiB M g3 h0 hn bn ea hk1 hk2 hk3
    clear hk2 hk3 ma
    dsimp -zeta only
    extract_lets k3 bc3 na3 jp3 out3 nb3
    have T : ∀ nb out, Hh κ a b out na nb → 1 < nb → nb ≤ b.size → (∀ y ∈ b.toList.take nb, κ y ≤ κ pa) → j + 1 + 1 + (na + nb) ≤ a.size + b.size → wpS (model prog w) A E s (jp3 () nb out) R st₂ := by
      intro nb out g h2 hn2 hlt h3
      refine wpS_bind (wpS_at (pred_lt h0 hn) fun pa' ea' _ => ?_)
      have g5 := g.pushA h0 hn hn2 ea' M.sa (Option.some.inj (ea.symm.trans ea') ▸ hlt)
      refine wpS_ite (fun e => wpS_pure (hD _ _ _ ⟨hA, M.endA g5 hn2 (beq_iff_eq.mp e)⟩)) fun e => ?_
      have L' : Hi κ a b (out.push pa') (na - 1) nb (j + 1 + 1) := ⟨g5, Nat.pos_of_ne_zero fun q => e (beq_iff_eq.mpr q), h2, Nat.le_trans (Nat.sub_le _ _) hn, hn2, Nat.le_trans (Nat.add_le_add_left (Nat.add_le_add_right (Nat.sub_le _ _) _) _) h3⟩
      exact wpS_ite (fun _ => wpS_pure (hK _ _ _ _ _ ⟨hA, L'⟩)) fun _ => wpS_pure (hY _ _ _ _ _ ⟨hA, L'⟩)
    refine wpS_ite (fun _ => wpS_ite (fun e => wpS_pure (hD _ _ _ ⟨hA, M.oneB g4.1 hn (Nat.le_trans hk1 bn) (beq_iff_eq.mp e)⟩)) fun e => wpS_ite (fun e => wpS_pure (hD _ _ _ ⟨hA, M.endB g4.1 hn (beq_iff_eq.mp e)⟩)) fun e' =>
      T _ _ g4.1 (Nat.lt_of_le_of_ne (Nat.pos_of_ne_zero fun q => e' (beq_iff_eq.mpr q)) fun q => e (beq_iff_eq.mpr q.symm)) (Nat.le_trans hk1 bn) g4.2 (Nat.le_trans (Nat.add_le_add_left (Nat.add_le_add_left hk1 _) _) h3)) fun hk0 => T _ _ g3 hnb bn ?_ h3
    have q : ∀ y ∈ b.toList.take (nb - 1), κ y ≤ κ pa := by rw [← all_of hk1 hk0]; exact g4.2
    exact q
  refine wpS_ite (fun _ => wpS_ite (fun e => wpS_pure (hD _ _ _ ⟨hA, M.endA g2.1 J.2.bn (beq_iff_eq.mp e)⟩)) fun e =>
    T _ _ g2.1 (Nat.pos_of_ne_zero fun q => e (beq_iff_eq.mpr q)) (Nat.le_trans hk1 J.2.an) g2.2 (Nat.le_trans (Nat.add_le_add_left (Nat.add_le_add_right hk1 _) _) J.2.hj)) fun hk0 => T _ _ J.2.g J.2.a0 J.2.an ?_ J.2.hj
  have q : ∀ y ∈ a.toList.take na, κ y ≤ κ pb := by rw [← all_of hk1 hk0]; exact g2.2
  exact q
end
end
end Mine
set_option autoImplicit false
namespace Mine
noncomputable section
open PySem PyProof.Rows

section
variable {prog : Program} {w : World} {A : Around} {E : Value → Shared → Prop} {s : Shared} {kd : SortKind} {κ : Keyed → Int} {a₀ : Array Keyed}

theorem put_get (b : Nat) : ∀ (l : List Keyed) (n : Nat) (xs : Array Keyed) (k : Nat), b + n + l.length ≤ xs.size →
    ((l.zipIdx n).foldl (fun a x => a.setIfInBounds (b + x.2) x.1) xs)[k]? = if b + n ≤ k ∧ k < b + n + l.length then l[k - (b + n)]? else xs[k]?
  | [], n, xs, k, _ => (if_neg fun h => Nat.lt_irrefl _ (Nat.lt_of_lt_of_le h.2 h.1)).symm
  | p :: l, n, xs, k, h => by
    rw [List.length_cons] at h
    rw [List.zipIdx_cons, List.foldl_cons, put_get b l (n + 1) _ k (by rw [Array.size_setIfInBounds]; omega), List.length_cons]
    by_cases h1 : b + (n + 1) ≤ k ∧ k < b + (n + 1) + l.length
    · rw [if_pos h1, if_pos (by omega), show k - (b + n) = k - (b + (n + 1)) + 1 by omega, List.getElem?_cons_succ]
    · rw [if_neg h1, Array.getElem?_setIfInBounds]
      by_cases h2 : b + n = k
      · rw [if_pos h2, if_pos (by omega), if_pos (by omega), show k - (b + n) = 0 by omega, List.getElem?_cons_zero]
      · rw [if_neg h2, if_neg (by omega)]

/-- a part of an array is laid anew -/
structure Laid (κ : Keyed → Int) (xs ys r : Array Keyed) (p q : Nat) : Prop where
  get : ∀ k : Nat, ys[k]? = if p ≤ k ∧ k < q then r[k - p]? else xs[k]?
  size : r.size = q - p
  srt : Seg κ r 0 r.size
  from' : ∀ j, j < r.size → ∃ i, p ≤ i ∧ i < q ∧ kAt κ r j = kAt κ xs i
theorem Laid.seg {xs ys r : Array Keyed} {lo p q hi : Nat} (L : Laid κ xs ys r p q) (hP : Seg κ xs lo p) (hS : Seg κ xs q hi)
    (h1 : ∀ i j, lo ≤ i → i < p → p ≤ j → j < hi → kAt κ xs i ≤ kAt κ xs j) (h2 : ∀ i j, p ≤ i → i < q → q ≤ j → j < hi → kAt κ xs i ≤ kAt κ xs j) (hpq : p ≤ q) (hqh : q ≤ hi) : Seg κ ys lo hi := by
  have out : ∀ k, ¬ (p ≤ k ∧ k < q) → kAt κ ys k = kAt κ xs k := fun k hk => kAt_congr (by rw [L.get, if_neg hk])
  have inn : ∀ k, p ≤ k → k < q → kAt κ ys k = kAt κ r (k - p) := fun k a b => kAt_congr (by rw [L.get, if_pos ⟨a, b⟩])
  intro i j hi' hij hj
  by_cases a : i < p
  · rw [out i fun h => Nat.lt_irrefl _ (Nat.lt_of_lt_of_le a h.1)]
    by_cases b : j < p
    · rw [out j fun h => Nat.lt_irrefl _ (Nat.lt_of_lt_of_le b h.1)]; exact hP i j hi' hij b
    · by_cases c : j < q
      · rw [inn j (Nat.not_lt.mp b) c]
        obtain ⟨m, q1, q2, q3⟩ := L.from' (j - p) (by rw [L.size]; omega)
        rw [q3]; exact h1 i m hi' a q1 (Nat.lt_of_lt_of_le q2 hqh)
      · rw [out j fun h => c h.2]; exact h1 i j hi' a (Nat.not_lt.mp b) hj
  · have a := Nat.not_lt.mp a
    by_cases b : i < q
    · rw [inn i a b]
      by_cases c : j < q
      · rw [inn j (Nat.le_trans a hij) c]
        exact L.srt _ _ (Nat.zero_le _) (Nat.sub_le_sub_right hij p) (by rw [L.size]; omega)
      · obtain ⟨m, q1, q2, q3⟩ := L.from' (i - p) (by rw [L.size]; omega)
        rw [out j fun h => c h.2, q3]; exact h2 m j q1 q2 (Nat.not_lt.mp c) hj
    · have b := Nat.not_lt.mp b
      rw [out i fun h => Nat.not_lt.mpr b h.2, out j fun h => Nat.not_lt.mpr (Nat.le_trans b hij) h.2]; exact hS i j b hij hj

theorem laid_list {xs ys r : Array Keyed} {p q : Nat} (h : ∀ k : Nat, ys[k]? = if p ≤ k ∧ k < q then r[k - p]? else xs[k]?) (hs : r.size = q - p) (hpq : p ≤ q) (hq : q ≤ xs.size) : ys.toList = xs.toList.take p ++ (r.toList ++ xs.toList.drop q) := by
  apply List.ext_getElem?
  intro k
  have hl : (xs.toList.take p).length = p := by rw [List.length_take, Array.length_toList]; omega
  rw [Array.getElem?_toList, h, List.getElem?_append, hl, List.getElem?_append, Array.length_toList, hs]
  by_cases h1 : k < p
  · rw [if_neg (fun q => Nat.lt_irrefl _ (Nat.lt_of_lt_of_le h1 q.1)), if_pos h1, List.getElem?_take_of_lt h1, Array.getElem?_toList]
  · rw [if_neg h1]
    by_cases h2 : k < q
    · rw [if_pos ⟨Nat.not_lt.mp h1, h2⟩, if_pos (by omega), Array.getElem?_toList]
    · rw [if_neg (fun q => h2 q.2), if_neg (by omega), List.getElem?_drop, Array.getElem?_toList]; congr 1; omega
theorem cut3 (xs : List Keyed) {p q : Nat} (h : p ≤ q) : xs = xs.take p ++ ((xs.drop p).take (q - p) ++ xs.drop q) := by
  have := List.take_append_drop (q - p) (xs.drop p)
  rw [List.drop_drop, show p + (q - p) = q by omega] at this
  rw [this, List.take_append_drop]

theorem ex_get {xs : Array Keyed} {p q j : Nat} (hq : q ≤ xs.size) (h : j < q - p) : (xs.extract p q)[j]? = xs[p + j]? := by
  rw [Array.getElem?_extract, if_pos (by omega)]
theorem ex_size {xs : Array Keyed} {p q : Nat} (hq : q ≤ xs.size) : (xs.extract p q).size = q - p := by rw [Array.size_extract]; omega
theorem ex_seg {xs : Array Keyed} {p q : Nat} (hq : q ≤ xs.size) (h : Seg κ xs p q) : Seg κ (xs.extract p q) 0 (xs.extract p q).size := fun i j _ hij hj => by
  rw [ex_size hq] at hj
  rw [kAt_congr (ex_get hq (Nat.lt_of_le_of_lt hij hj)), kAt_congr (ex_get hq hj)]
  exact h _ _ (Nat.le_add_right _ _) (Nat.add_le_add_left hij _) (by omega)
theorem ex_mem {xs : Array Keyed} {p q : Nat} {y : Keyed} (hy : y ∈ (xs.extract p q).toList) : y ∈ xs.toList ∧ ∃ i, p ≤ i ∧ i < q ∧ kAt κ xs i = κ y := by
  rw [Array.toList_extract, List.extract_eq_take_drop] at hy
  obtain ⟨i, hi, e⟩ := List.mem_take_iff_getElem.mp hy
  rw [List.length_drop, Array.length_toList] at hi
  rw [List.getElem_drop] at e
  refine ⟨by rw [← e]; exact List.getElem_mem _, p + i, Nat.le_add_right _ _, by omega, ?_⟩
  rw [kAt_eq (κ := κ) (Array.getElem?_eq_getElem (show p + i < xs.size by omega)), ← e]; rfl

theorem Srt.seg {r : Array Keyed} (h : Srt κ r.toList) : Seg κ r 0 r.size := fun i j _ hij hj => by
  by_cases e : i = j
  · rw [e]; exact Int.le_refl _
  · rw [kAt_eq (κ := κ) (Array.getElem?_eq_getElem hj), kAt_eq (κ := κ) (Array.getElem?_eq_getElem (Nat.lt_of_le_of_lt hij hj))]
    exact List.pairwise_iff_getElem.mp h i j (by rw [Array.length_toList]; omega) (by rw [Array.length_toList]; exact hj) (Nat.lt_of_le_of_ne hij e)

/-- what a merge of two neighbours leaves -/
structure Merged (κ : Keyed → Int) (xs ys : Array Keyed) (lo hi : Nat) : Prop where
  perm : ys.Perm xs
  seg : Seg κ ys lo hi
  out : ∀ k, k < lo ∨ hi ≤ k → ys[k]? = xs[k]?

theorem merged_of {xs r : Array Keyed} {lo mid hi p q : Nat} (hlp : lo ≤ p) (hpm : p < mid) (hmq : mid < q) (hqh : q ≤ hi) (hh : hi ≤ xs.size) (s1 : Seg κ xs lo mid) (s2 : Seg κ xs mid hi)
    (h1 : ∀ i, lo ≤ i → i < p → kAt κ xs i ≤ kAt κ xs mid) (h2 : ∀ i, q ≤ i → i < hi → kAt κ xs (mid - 1) ≤ kAt κ xs i) (g : Good κ (xs.extract p mid) (xs.extract mid q) r) :
    Merged κ xs ((r.toList.zipIdx 0).foldl (fun a x => a.setIfInBounds (p + x.2) x.1) xs) lo hi := by
  have e : (xs.extract p mid).toList ++ (xs.extract mid q).toList = (xs.toList.drop p).take (q - p) := by
    rw [Array.toList_extract, Array.toList_extract, List.extract_eq_take_drop, List.extract_eq_take_drop, show q - p = (mid - p) + (q - mid) by omega, List.take_add, List.drop_drop, show p + (mid - p) = mid by omega]
  have hr : r.size = q - p := by
    have := g.1.length_eq
    rw [e, List.length_take, List.length_drop, Array.length_toList, Array.length_toList] at this
    omega
  have get : ∀ k : Nat, ((r.toList.zipIdx 0).foldl (fun a x => a.setIfInBounds (p + x.2) x.1) xs)[k]? = if p ≤ k ∧ k < q then r[k - p]? else xs[k]? := fun k => by
    rw [put_get p r.toList 0 xs k (by rw [Array.length_toList]; omega), Array.length_toList, hr, Array.getElem?_toList, Nat.add_zero, show p + (q - p) = q by omega]
  have L : Laid κ xs ((r.toList.zipIdx 0).foldl (fun a x => a.setIfInBounds (p + x.2) x.1) xs) r p q := by
    refine ⟨get, hr, Srt.seg g.2, fun j hj => ?_⟩
    have hm : r[j] ∈ (xs.extract p q).toList := by
      rw [Array.toList_extract, List.extract_eq_take_drop, ← e]
      exact g.1.mem_iff.mp (by simp)
    obtain ⟨_, i, a, b, c⟩ := ex_mem (κ := κ) hm
    exact ⟨i, a, b, by rw [c, kAt_eq (κ := κ) (Array.getElem?_eq_getElem hj)]⟩
  refine ⟨?_, L.seg (fun i j a b c => s1 i j a b (Nat.lt_trans c hpm)) (fun i j a b c => s2 i j (Nat.le_trans (Nat.le_of_lt hmq) a) b c) (fun i j a b c d => ?_) (fun i j a b c d => ?_) (Nat.le_of_lt (Nat.lt_trans hpm hmq)) hqh, fun k hk => by rw [get, if_neg (by omega)]⟩
  · rw [Array.perm_iff_toList_perm, laid_list get hr (Nat.le_of_lt (Nat.lt_trans hpm hmq)) (Nat.le_trans hqh hh)]
    conv => rhs; rw [cut3 xs.toList (show p ≤ q from Nat.le_of_lt (Nat.lt_trans hpm hmq)), ← e]
    exact (g.1.append_right _).append_left _
  · by_cases x : j < mid
    · exact s1 i j a (Nat.le_trans (Nat.le_of_lt b) c) x
    · exact Int.le_trans (h1 i a b) (s2 mid j (Nat.le_refl _) (Nat.not_lt.mp x) d)
  · by_cases x : i < mid
    · exact Int.le_trans (s1 i (mid - 1) (Nat.le_trans hlp a) (by omega) (by omega)) (h2 j c d)
    · exact s2 i j (Nat.not_lt.mp x) (Nat.le_trans (Nat.le_of_lt b) c) d
theorem seg_join {xs : Array Keyed} {lo mid hi : Nat} (s1 : Seg κ xs lo mid) (s2 : Seg κ xs mid hi) (h : ∀ i j, lo ≤ i → i < mid → mid ≤ j → j < hi → kAt κ xs i ≤ kAt κ xs j) : Seg κ xs lo hi := fun i j a b c => by
  by_cases x : j < mid
  · exact s1 i j a b x
  · by_cases y : i < mid
    · exact h i j a y (Nat.not_lt.mp x) c
    · exact s2 i j (Nat.not_lt.mp y) b c
theorem wpS_set {x : SortSt} {Q : PUnit → SortSt → Prop} {st : SortSt} {P : SortSt → Prop} (p : P x) (h : ∀ x, P x → Q ⟨⟩ x) : wpS (model prog w) A E s (set x : StateT SortSt Sem PUnit) Q st := by
  unfold wpS; exact wpAny_pure ⟨rfl, h x p⟩

theorem wpS_mergeAt {st : SortSt} {i sa na pw sb nb pw' : Nat} {Q : Bool → SortSt → Prop} (hL : LtOk prog w A E s kd κ a₀) (hB : SB kd a₀ st) (h1 : (pendingOf st)[i]? = some (sa, na, pw)) (h2 : (pendingOf st)[i + 1]? = some (sb, nb, pw'))
    (e : sb = sa + na) (hna : 0 < na) (hnb : 0 < nb) (hn : sb + nb ≤ a₀.size) (s1 : Seg κ (arrOf st) sa sb) (s2 : Seg κ (arrOf st) sb (sb + nb))
    (h : ∀ st', SB kd a₀ st' → pendingOf st' = ((pendingOf st).setIfInBounds i (sa, na + nb, pw)).eraseIdxIfInBounds (i + 1) → Merged κ (arrOf st) (arrOf st') sa (sb + nb) → Q true st') :
    wpS (model prog w) A E s (mergeAt' i) Q st := by
  unfold mergeAt'
  refine wpS_bind (wpS_get ?_)
  rw [h1, h2]
  dsimp -zeta only
  refine wpS_bind (wpS_set (P := fun st' => SB kd a₀ st' ∧ pendingOf st' = ((pendingOf st).setIfInBounds i (sa, na + nb, pw)).eraseIdxIfInBounds (i + 1) ∧ arrOf st' = arrOf st) ⟨⟨hB.perm, hB.kind, hB.failed⟩, rfl, rfl⟩ fun st₂ P => ?_)
  have hs : (arrOf st).size = a₀.size := hB.size
  have mem : ∀ p ∈ (arrOf st).toList, p ∈ a₀.toList := fun p hp => (Array.perm_iff_toList_perm.mp hB.perm).mem_iff.mp hp
  have same : Seg κ (arrOf st) sa (sb + nb) → Q true st₂ := fun sg => h st₂ P.1 P.2.1 ⟨by rw [P.2.2], by rw [P.2.2]; exact sg, fun k _ => by rw [P.2.2]⟩
  refine wpS_bind (wpS_at (show sb < (arrOf st).size by omega) fun pb eb mb => wpS_bind (wpS_gallop (left := false) (base := sa) (n := na) (hint := 0) hL P.1.kind (mem pb mb) (fun i hi => hB.at (by omega)) (e ▸ s1) hna fun k hk1 hk2 hk3 => ?_))
  have b1 : ∀ i, sa ≤ i → i < sa + k → kAt κ (arrOf st) i ≤ kAt κ (arrOf st) sb := fun i a b => by
    have q := hk2 (i - sa) (by omega)
    simp only [ahead, Bool.false_eq_true, if_false, decide_eq_true_eq] at q
    rwa [show sa + (i - sa) = i by omega, ← kAt_eq (κ := κ) eb] at q
  dsimp -zeta only
  refine wpS_ite (fun z => wpS_pure (same (seg_join s1 s2 fun i j a b c d => Int.le_trans (b1 i a (by have := beq_iff_eq.mp z; omega)) (s2 sb j (Nat.le_refl _) c d)))) fun z => ?_
  have z : k < na := Nat.lt_of_le_of_ne hk1 fun q => z (beq_iff_eq.mpr (by omega))
  refine wpS_bind (wpS_at (show sa + k + (na - k) - 1 < (arrOf st).size by omega) fun pa ea ma => wpS_bind (wpS_gallop (left := true) (base := sb) (n := nb) (hint := nb - 1) hL P.1.kind (mem pa ma) (fun i hi => hB.at (by omega)) s2 (by omega) fun k' hk1' hk2' hk3' => ?_))
  rw [show sa + k + (na - k) - 1 = sb - 1 by omega] at ea
  have b2 : ∀ i, sb + k' ≤ i → i < sb + nb → kAt κ (arrOf st) (sb - 1) ≤ kAt κ (arrOf st) i := fun i a b => by
    have q := hk3' (i - sb) (by omega) (by omega)
    simp only [ahead, if_true, decide_eq_false_iff_not] at q
    rw [show sb + (i - sb) = i by omega, ← kAt_eq (κ := κ) ea] at q
    exact Int.not_lt.mp q
  dsimp -zeta only
  refine wpS_ite (fun z' => wpS_pure (same (seg_join s1 s2 fun i j a b c d => Int.le_trans (s1 i (sb - 1) a (by omega) (by omega)) (b2 j (by have := beq_iff_eq.mp z'; omega) d)))) fun z' => ?_
  have z' : 0 < k' := Nat.pos_of_ne_zero fun q => z' (beq_iff_eq.mpr q)
  extract_lets x y jp
  have M : Mrg kd κ a₀ x y := by
    refine ⟨fun p hp => mem p (ex_mem (κ := κ) hp).1, fun p hp => mem p (ex_mem (κ := κ) hp).1, ex_seg (show sb ≤ (arrOf st).size by omega) fun i j a b c => s1 i j (by omega) b c, ex_seg (show sb + k' ≤ (arrOf st).size by omega) fun i j a b c => s2 i j a b (by omega), ?_, fun p hp => ?_⟩
    · show kAt κ ((arrOf st).extract sb (sb + k')) 0 ≤ kAt κ ((arrOf st).extract (sa + k) sb) 0
      rw [kAt_congr (ex_get (by omega) (by omega)), kAt_congr (ex_get (by omega) (by omega)), Nat.add_zero, Nat.add_zero]
      have q := hk3 k (Nat.le_refl _) z
      simp only [ahead, Bool.false_eq_true, if_false, decide_eq_false_iff_not, ← kAt_eq (κ := κ) eb] at q
      exact Int.le_of_lt (Int.not_le.mp q)
    · obtain ⟨_, i, a, b, c⟩ := ex_mem (κ := κ) hp
      show _ ≤ kAt κ ((arrOf st).extract (sa + k) sb) (((arrOf st).extract (sa + k) sb).size - 1)
      rw [ex_size (by omega), kAt_congr (ex_get (by omega) (by omega)), show sa + k + (sb - (sa + k) - 1) = sb - 1 by omega, ← c]
      have q := hk2' (i - sb) (by omega)
      simp only [ahead, if_true, decide_eq_true_eq] at q
      rw [show sb + (i - sb) = i by omega, ← kAt_eq (κ := κ) ea] at q
      exact Int.le_of_lt q
  have J : ∀ r st', Alike' st₂ st' → Good κ x y r → wpS (model prog w) A E s (jp r) Q st' := fun r st' hA g => by
    have mg := merged_of (xs := arrOf st) (lo := sa) (mid := sb) (hi := sb + nb) (p := sa + k) (q := sb + k') (by omega) (by omega) (by omega) (by omega) (by omega) s1 s2 b1 b2 g
    refine wpS_bind (wpS_modify (wpS_bind (wpS_get (wpS_pure ?_))))
    have f0 : (failedOf st').isNone = true := by rw [hA.failed, P.1.failed]; rfl
    have ea : arrOf st' = arrOf st := hA.arr.trans P.2.2
    rw [← ea] at mg
    refine f0.symm ▸ h _ ⟨mg.perm.trans (by rw [ea]; exact hB.perm), hA.kind.trans P.1.kind, hA.failed.trans P.1.failed⟩ (hA.pend.trans P.2.1) (by rw [← ea]; exact mg)
  have hx : 1 ≤ x.size := by show 1 ≤ ((arrOf st).extract (sa + k) sb).size; rw [ex_size (by omega)]; omega
  have hy : 1 ≤ y.size := by show 1 ≤ ((arrOf st).extract sb (sb + k')).size; rw [ex_size (by omega)]; omega
  exact wpS_ite (fun _ => wpS_bind (wpS_mergeLo hL P.1.kind M hx hy J)) fun _ => wpS_bind (wpS_mergeHi hL P.1.kind M hx hy J)
end
end
end Mine
set_option autoImplicit false
namespace Mine
noncomputable section
open PySem PyProof.Rows

/-- runs that lie one behind the other from `a` to `c` -/
noncomputable def Chain (κ : Keyed → Int) (xs : Array Keyed) : List (Nat × Nat) → Nat → Nat → Prop
  | [], a, c => a = c
  | t :: r, a, c => t.1 = a ∧ 0 < t.2 ∧ Seg κ xs a (a + t.2) ∧ Chain κ xs r (a + t.2) c
noncomputable def prs (p : Array (Nat × Nat × Nat)) : List (Nat × Nat) := p.toList.map fun t => (t.1, t.2.1)

section
variable {prog : Program} {w : World} {A : Around} {E : Value → Shared → Prop} {s : Shared} {kd : SortKind} {κ : Keyed → Int} {a₀ : Array Keyed} {xs ys : Array Keyed}

theorem Chain.len : ∀ {l : List (Nat × Nat)} {a c : Nat}, Chain κ xs l a c → a + l.length ≤ c
  | [], _, _, h => Nat.le_of_eq h
  | t :: r, a, c, h => by have := Chain.len h.2.2.2; have := h.2.1; rw [List.length_cons]; omega
theorem Seg.keep {a c : Nat} (h : Seg κ xs a c) (e : ∀ k, a ≤ k → k < c → ys[k]? = xs[k]?) : Seg κ ys a c := fun i j hi hij hj => by
  rw [kAt_congr (e i hi (Nat.lt_of_le_of_lt hij hj)), kAt_congr (e j (Nat.le_trans hi hij) hj)]; exact h i j hi hij hj
theorem Chain.keep : ∀ {l : List (Nat × Nat)} {a c : Nat}, Chain κ xs l a c → (∀ k, a ≤ k → k < c → ys[k]? = xs[k]?) → Chain κ ys l a c
  | [], _, _, h, _ => h
  | t :: r, a, c, h, e => ⟨h.1, h.2.1, h.2.2.1.keep fun k h1 h2 => e k h1 (Nat.lt_of_lt_of_le h2 (Nat.le_trans (Nat.le_add_right _ _) h.2.2.2.len)), Chain.keep h.2.2.2 fun k h1 h2 => e k (Nat.le_trans (Nat.le_add_right _ _) h1) h2⟩
theorem Chain.app : ∀ {l r : List (Nat × Nat)} {a b c : Nat}, Chain κ xs l a b → Chain κ xs r b c → Chain κ xs (l ++ r) a c
  | [], _, _, _, _, h, q => by cases h; exact q
  | _ :: _, _, _, _, _, h, q => ⟨h.1, h.2.1, h.2.2.1, Chain.app h.2.2.2 q⟩
theorem Chain.cut : ∀ {l r : List (Nat × Nat)} {a c : Nat}, Chain κ xs (l ++ r) a c → ∃ b, Chain κ xs l a b ∧ Chain κ xs r b c
  | [], _, a, _, h => ⟨a, rfl, h⟩
  | _ :: _, _, _, _, h => let ⟨b, h1, h2⟩ := Chain.cut h.2.2.2; ⟨b, ⟨h.1, h.2.1, h.2.2.1, h1⟩, h2⟩

theorem two_at {α : Type} {l : List α} {i : Nat} (h : i + 1 < l.length) : ∃ l1 x y l2, l = l1 ++ x :: y :: l2 ∧ l1.length = i := by
  refine ⟨l.take i, l[i], l[i + 1], l.drop (i + 2), ?_, by rw [List.length_take]; omega⟩
  rw [← List.drop_eq_getElem_cons h, ← List.drop_eq_getElem_cons (Nat.lt_of_succ_lt h), List.take_append_drop]

theorem wpS_mergeC {st : SortSt} {i lo : Nat} {Q : Bool → SortSt → Prop} (hL : LtOk prog w A E s kd κ a₀) (hB : SB kd a₀ st) (hc : Chain κ (arrOf st) (prs (pendingOf st)) 0 lo) (hlo : lo ≤ a₀.size) (hi : i + 1 < (pendingOf st).size)
    (h : ∀ st', SB kd a₀ st' → Chain κ (arrOf st') (prs (pendingOf st')) 0 lo → (pendingOf st').size + 1 = (pendingOf st).size → (∀ k, lo ≤ k → (arrOf st')[k]? = (arrOf st)[k]?) → Q true st') :
    wpS (model prog w) A E s (mergeAt' i) Q st := by
  obtain ⟨l1, ⟨sa, na, pw⟩, ⟨sb, nb, pw'⟩, l2, el, h1⟩ := two_at (l := (pendingOf st).toList) (by rw [Array.length_toList]; exact hi)
  have hc' := hc
  rw [prs, el, List.map_append, List.map_cons, List.map_cons] at hc'
  obtain ⟨b, c1, e1, n1, g1, e2, n2, g2, c2⟩ := hc'.cut
  dsimp only at e1 n1 g1 e2 n2 g2 c2
  subst e1
  have hb := c2.len
  have e3 : (pendingOf st)[i]? = some (sa, na, pw) := by rw [← Array.getElem?_toList, el, List.getElem?_append_right (Nat.le_of_eq h1), h1, Nat.sub_self]; rfl
  have e4 : (pendingOf st)[i + 1]? = some (sb, nb, pw') := by rw [← Array.getElem?_toList, el, List.getElem?_append_right (by omega), h1, Nat.add_sub_cancel_left]; rfl
  subst e2
  refine wpS_mergeAt hL hB e3 e4 rfl n1 n2 (by omega) g1 g2 fun st' hB' hp hm => ?_
  have el' : (pendingOf st').toList = l1 ++ (sa, na + nb, pw) :: l2 := by
    rw [hp, Array.toList_eraseIdxIfInBounds, Array.toList_setIfInBounds, el, ← h1, List.set_append_right _ _ (Nat.le_refl _), Nat.sub_self, List.set_cons_zero, List.eraseIdx_append_of_length_le (Nat.le_succ _), show l1.length.succ - l1.length = 1 by omega]; rfl
  have ha := c1.len
  refine h st' hB' ?_ ?_ fun k hk => hm.out k (.inr (by omega))
  · rw [prs, el', List.map_append, List.map_cons]
    exact (c1.keep fun k _ h2 => hm.out k (.inl h2)).app ⟨rfl, Nat.add_pos_left n1 _, by show Seg κ _ sa (sa + (na + nb)); rw [← Nat.add_assoc]; exact hm.seg, by show Chain κ _ _ (sa + (na + nb)) lo; rw [← Nat.add_assoc]; exact c2.keep fun k h1 _ => hm.out k (.inr h1)⟩
  · rw [← Array.length_toList, ← Array.length_toList, el', el, List.length_append, List.length_append]; rfl

theorem wpS_nfor {X : Type} {n : Nat} {f : Nat → Option Unit × X → StateT SortSt Sem (ForInStep (Option Unit × X))} {st : SortSt} {Q : Option Unit × X → SortSt → Prop} (I : Nat → X → SortSt → Prop) (K : X → SortSt → Prop) {x : X} (h0 : I 0 x st)
    (hstep : ∀ i x st (R : ForInStep (Option Unit × X) → SortSt → Prop), i < n → I i x st → (∀ x st, K x st → R (.done (none, x)) st) → (∀ x st, I (i + 1) x st → R (.yield (none, x)) st) → wpS (model prog w) A E s (f i (none, x)) R st)
    (hend : ∀ x st, I n x st → K x st) (hk : ∀ x st, K x st → Q (none, x) st) : wpS (model prog w) A E s (forIn [0:n] (none, x) f) Q st := by
  refine wpS_forRange (fun i c st => c.1 = none ∧ I i c.2 st) ?_ ?_ ⟨rfl, h0⟩
  · rintro i ⟨_, x⟩ st _ hi ⟨rfl, hI⟩
    exact hstep i x st _ hi hI hk fun x st q => ⟨rfl, q⟩
  · rintro ⟨_, x⟩ st ⟨rfl, hI⟩
    exact hk x st (hend _ _ (by rwa [Nat.zero_max] at hI))

theorem prs_push (p : Array (Nat × Nat × Nat)) (a b c : Nat) : prs (p.push (a, b, c)) = prs p ++ [(a, b)] := by rw [prs, Array.toList_push, List.map_append]; rfl
theorem prs_len (p : Array (Nat × Nat × Nat)) : (prs p).length = p.size := by rw [prs, List.length_map, Array.length_toList]
theorem prs_modify (p : Array (Nat × Nat × Nat)) (i : Nat) (f : Nat × Nat × Nat → Nat × Nat × Nat) (h : ∀ t, (f t).1 = t.1 ∧ (f t).2.1 = t.2.1) : prs (p.modify i f) = prs p := by
  apply List.ext_getElem?
  intro k
  rw [prs, prs, List.getElem?_map, List.getElem?_map, Array.getElem?_toList, Array.getElem?_toList, Array.getElem?_modify]
  split
  · cases p[k]? with
    | none => rfl
    | some t => exact congrArg some (Prod.ext (h t).1 (h t).2)
  · rfl
theorem ite_lt {c : Prop} [Decidable c] {n : Nat} (h : ¬ n ≤ 1) : (if c then n - 2 - 1 else n - 2) + 1 < n := by split <;> omega

theorem wpS_runs {st : SortSt} {Q : Unit → SortSt → Prop} (hL : LtOk prog w A E s kd κ a₀) (hB : SB kd a₀ st) (hp : pendingOf st = #[])
    (h : ∀ st', SB kd a₀ st' → Seg κ (arrOf st') 0 a₀.size → Q () st') : wpS (model prog w) A E s sortRuns' Q st := by
  rw [sortRuns'_eq]
  refine wpS_bind (wpS_get ?_)
  extract_lets size minrun lo0
  have hs : size = a₀.size := hB.size
  clear_value size minrun
  subst hs
  refine wpS_bind (wpS_nfor (fun i lo st => (SB kd a₀ st ∧ Chain κ (arrOf st) (prs (pendingOf st)) 0 lo) ∧ lo ≤ a₀.size ∧ i ≤ lo) (fun lo st => (SB kd a₀ st ∧ Chain κ (arrOf st) (prs (pendingOf st)) 0 lo) ∧ lo = a₀.size)
    ⟨⟨hB, by rw [hp]; rfl⟩, Nat.zero_le _, Nat.le_refl _⟩ ?step (fun lo st q => ⟨q.1, Nat.le_antisymm q.2.1 q.2.2⟩) ?post)
  case step =>
    clear h hB hp
    intro i lo st R hi J hD hY
    refine wpS_ite (fun z => wpS_pure (hD _ _ ⟨J.1, Nat.le_antisymm J.2.1 z⟩)) fun z => wpS_bind (wpS_count hL (Nat.le_of_eq (Nat.add_sub_cancel' J.2.1)) (Nat.sub_pos_of_lt (Nat.not_le.mp z)) J.1.1 fun m st₁ hB₁ hp₁ ha₁ hm1 hm2 sg => ?_)
    have c1 : Chain κ (arrOf st₁) (prs (pendingOf st₁)) 0 lo := by rw [hp₁]; exact J.1.2.keep fun k _ hk => ha₁ k hk
    dsimp -zeta only
    extract_lets n1 jp force
    have T : ∀ n st, SB kd a₀ st → Chain κ (arrOf st) (prs (pendingOf st)) 0 lo → 1 ≤ n → n ≤ a₀.size - lo → Seg κ (arrOf st) lo (lo + n) → wpS (model prog w) A E s (jp () n) R st := by
      clear c1 sg hm1 hm2 ha₁ hp₁ hB₁ st₁
      intro n st hB c1 h1 h2 sg
      refine wpS_bind (wpS_get ?_)
      extract_lets lo' jp2
      have U : ∀ st, SB kd a₀ st → Chain κ (arrOf st) (prs (pendingOf st)) 0 lo → Seg κ (arrOf st) lo (lo + n) → wpS (model prog w) A E s (jp2 ()) R st := fun st hB c1 sg =>
        wpS_bind (wpS_modify (wpS_pure (hY _ _ ⟨⟨⟨hB.perm, hB.kind, hB.failed⟩, by show Chain κ (arrOf st) (prs ((pendingOf st).push (lo, n, 0))) 0 (lo + n); rw [prs_push]; exact c1.app ⟨rfl, h1, sg, rfl⟩⟩, add_le_of h2 J.2.1, Nat.le_trans (Nat.succ_le_succ J.2.2) (Nat.add_le_add_left h1 _)⟩)))
      clear_value jp2
      cases (pendingOf st).back? with
      | none => exact U st hB c1 sg
      | some t =>
        refine wpS_bind (wpS_nfor (fun _ _ st => SB kd a₀ st ∧ Chain κ (arrOf st) (prs (pendingOf st)) 0 lo ∧ Seg κ (arrOf st) lo (lo + n)) (fun _ st => SB kd a₀ st ∧ Chain κ (arrOf st) (prs (pendingOf st)) 0 lo ∧ Seg κ (arrOf st) lo (lo + n)) ⟨hB, c1, sg⟩ ?istep (fun _ _ q => q) fun _ st q =>
          wpS_bind (wpS_modify (U _ ⟨q.1.perm, q.1.kind, q.1.failed⟩ (by
            have e := prs_modify (pendingOf st) ((pendingOf st).size - 1) (fun x => (x.1, x.2.1, power' a₀.size (2 * t.1 + t.2.1) (2 * t.1 + t.2.1 + t.2.1 + n) a₀.size)) fun _ => ⟨rfl, rfl⟩
            have := q.2.1
            rw [← e] at this
            exact this) q.2.2)))
        clear U sg c1 hB hD hY R
        intro _ _ st R _ q hD hY
        refine wpS_bind (wpS_get ?_)
        extract_lets p
        by_cases z : p.size > 1
        · rw [if_pos z]
          cases p[p.size - 2]? with
          | none => exact wpS_pure (hD _ _ q)
          | some t => exact wpS_ite (fun _ => wpS_pure (hD _ _ q)) fun _ => wpS_bind (wpS_mergeC hL q.1 q.2.1 J.2.1 (by show p.size - 2 + 1 < p.size; omega) fun st' a b _ d => wpS_pure (hY _ _ ⟨a, b, q.2.2.keep fun k hk _ => d k hk⟩))
        · rw [if_neg z]
          exact wpS_pure (hD _ _ q)
    refine wpS_ite (fun z => wpS_bind (wpS_lift (wpAny_rule ⟨rfl, wpS_bind (wpS_binSort hL (add_le_of (Nat.min_le_left _ _) J.2.1) (Nat.le_min.mpr ⟨hm2, Nat.le_of_lt z⟩) hB₁ sg fun st₂ hB₂ hp₂ sg₂ ha₂ => ?_)⟩))) fun z => T _ _ hB₁ c1 hm1 hm2 sg
    exact T _ _ hB₂ (by rw [hp₂]; exact c1.keep fun k _ hk => ha₂ k hk) (Nat.le_min.mpr ⟨Nat.le_trans hm1 hm2, Nat.le_trans hm1 (Nat.le_of_lt z)⟩) (Nat.min_le_left _ _) sg₂
  case post =>
    intro lo st q
    have e := q.2
    subst e
    refine wpS_bind (wpS_nfor (fun i _ st => (SB kd a₀ st ∧ Chain κ (arrOf st) (prs (pendingOf st)) 0 a₀.size) ∧ (pendingOf st).size + i ≤ a₀.size) (fun _ st => (SB kd a₀ st ∧ Chain κ (arrOf st) (prs (pendingOf st)) 0 a₀.size) ∧ (pendingOf st).size ≤ 1)
      ⟨q.1, by have := q.1.2.len; rw [prs_len, Nat.zero_add] at this; exact this⟩ ?fstep (fun _ st q => ⟨q.1, by have := q.2; omega⟩) fun _ st q => wpS_pure (h st q.1.1 ?_))
    · clear h q
      intro i _ st R _ q hD hY
      refine wpS_bind (wpS_get (wpS_ite (fun z => wpS_pure (hD _ _ ⟨q.1, z⟩)) fun z => wpS_bind (wpS_mergeC hL q.1.1 q.1.2 (Nat.le_refl _) (ite_lt z) fun st' a b c _ => wpS_pure (hY _ _ ⟨⟨a, b⟩, by have := q.2; omega⟩))))
    · have q1 := q.1.2
      have q2 := q.2
      rw [← prs_len] at q2
      generalize prs (pendingOf st) = l at q1 q2
      match l, q1, q2 with
      | [], q1, _ => rw [← show 0 = a₀.size from q1]; exact fun i j _ _ h => absurd h (Nat.not_lt_zero _)
      | [t], q1, _ => rw [← show 0 + t.2 = a₀.size from q1.2.2.2]; exact q1.2.2.1
      | _ :: _ :: _, _, q2 => exact absurd q2 (by simp)
end
end
end Mine
set_option autoImplicit false
namespace Mine
noncomputable section
open PySem PyProof.Rows

section
variable {prog : Program} {w : World} {A : Around} {E : Value → Shared → Prop} {s : Shared} {kd : SortKind} {κ : Value → Int}

/-- all objects but the one at `a` stand as they stood -/
noncomputable def Old (s : Shared) (a : Addr) (s' : Shared) : Prop := ∀ b o, b ≠ a → s.heap.get? b = some o → s'.heap.get? b = some o

theorem sorted_any_out {vs : List Value} {xs : Array Keyed} (hp : xs.Perm (pairsOf vs)) (hs : Seg (fun p => κ p.1) xs 0 (pairsOf vs).size) :
    (xs.map (·.2)).toList.Perm vs ∧ (xs.map (·.2)).toList.Pairwise fun x y => κ x ≤ κ y := by
  have hl : xs.toList.Perm (vs.zip vs) := by rw [← pairsOf_toList]; exact Array.perm_iff_toList_perm.mp hp
  have hm : ∀ p, p ∈ xs.toList → p.1 = p.2 ∧ p.1 ∈ vs := fun p q => mem_zip_self (hl.mem_iff.mp q)
  have e : (xs.map (·.2)).toList = xs.toList.map (·.1) := by rw [Array.toList_map]; exact List.map_congr_left fun p q => (hm p q).1.symm
  rw [e]
  refine ⟨?_, ?_⟩
  · have := hl.map Prod.fst
    rwa [List.map_fst_zip (Nat.le_refl _)] at this
  · rw [List.pairwise_map, List.pairwise_iff_getElem]
    intro i j hi hj hij
    rw [Array.length_toList] at hi hj
    have := hs i j (Nat.zero_le _) (Nat.le_of_lt hij) (by rw [← hp.size_eq]; exact hj)
    rwa [kAt_eq (κ := fun p => κ p.1) (Array.getElem?_eq_getElem hi), kAt_eq (κ := fun p => κ p.1) (Array.getElem?_eq_getElem hj)] at this

theorem list_sort_any {a : Addr} {vs : List Value} {n : Nat} {P : Fin → Shared → Prop} (ho : s.heap.get? a = some (seqObj "list" vs.toArray n)) (hlen : vs.length ≤ 16000000)
    (hK : ∀ s', Old s a s' → 2 ≤ vs.length → wpAny (model prog w) A (keyKind' vs.toArray) (fun k s'' => k = kd ∧ s'' = s') E s')
    (hL : ∀ s', Old s a s' → LtOk prog w A E s' kd (fun p => κ p.1) (pairsOf vs))
    (h : ∀ out : Array Value, out.toList.Perm vs → (out.toList.Pairwise fun x y => κ x ≤ κ y) → P (.done (.ret .none)) { s with heap := sortedHeap s.heap a vs out }) :
    wpAny (model prog w) A (Builtin.«list.sort» ⟨[.ref a], []⟩) P E s := by
  rw [list_sort_plain]
  have ha : a < s.heap.objs.size := Heap.lt_size ho
  refine wpAny_bind (listItems_at ho rfl ?_)
  refine wpAny_bind (listUpdate_at ho rfl ?_ (by rw [sizeLine_eq]; simp; omega))
  obtain ⟨e1, ho1⟩ : ∃ e1, (s.heap.update a (Obj.mapSeq fun _ => #[])).get? a = some (seqObj "list" #[] e1) := ⟨_, get?_update_seq ho (fun _ => #[])⟩
  refine wpAny_bind (seqEpoch_at ho1 rfl ?_)
  refine wpAny_bind (wpAny_newTuple ?_ (by rw [sizeLine_eq]; simp; omega))
  refine wpAny_bind (wpAny_newList ?_)
  refine wpAny_holding ?_
  have old : ∀ (b : Addr), b < s.heap.objs.size → ((((s.heap.update a (Obj.mapSeq fun _ => #[])).push (seqObj "tuple" vs.toArray 0)).push (seqObj "list" #[] 0))).get? b = (s.heap.update a (Obj.mapSeq fun _ => #[])).get? b := fun b hb => by
    rw [Heap.get?_push_ne _ _ _ (by rw [size_push', Heap.size_update]; exact Nat.ne_of_lt (Nat.lt_succ_of_lt hb)), Heap.get?_push_ne _ _ _ (by rw [Heap.size_update]; exact Nat.ne_of_lt hb)]
  have ho6 := (old a ha).trans ho1
  have hold : Old s a { s with heap := ((s.heap.update a (Obj.mapSeq fun _ => #[])).push (seqObj "tuple" vs.toArray 0)).push (seqObj "list" #[] 0) } := fun b o hb hg =>
    (old b (Heap.lt_size hg)).trans (by rw [Heap.get?_update_ne _ _ _ _ hb]; exact hg)
  show wpAny (model prog w) A _ P E { s with heap := ((s.heap.update a (Obj.mapSeq fun _ => #[])).push (seqObj "tuple" vs.toArray 0)).push (seqObj "list" #[] 0) }
  dsimp only
  have fin : ∀ st' : SortSt, (arrOf st').Perm (pairsOf vs) → Seg (fun p => κ p.1) (arrOf st') 0 (pairsOf vs).size →
      P (.done (.ret .none)) { s with heap := sortedHeap s.heap a vs ((arrOf st').map (·.2)) } := fun st' hp hs => h _ (sorted_any_out hp hs).1 (sorted_any_out hp hs).2
  by_cases h2 : vs.toArray.size < 2
  · rw [if_pos h2, if_pos h2]
    refine wpAny_bind (wpAny_pure ?_)
    rw [StateT.run_pure]
    refine wpAny_bind (wpAny_pure ?_)
    dsimp only
    refine wpAny_bind (seqEpoch_at ho6 rfl ?_)
    refine wpAny_bind (listUpdate_at ho6 rfl ?_ (hsz2 := by rw [Array.size_map]; show (pairsOf vs).size ≤ _; rw [pairsOf_size, sizeLine_eq]; omega))
    simp only [bne_self_eq_false, Bool.false_eq_true, if_false]
    refine wpAny_pure (fin (SortSt.mk' general' (vs.toArray.zip vs.toArray) #[] 7 none) (Array.Perm.refl _) ?_)
    intro i j _ hij hj
    have : i = j := by rw [pairsOf_size] at hj; rw [List.size_toArray] at h2; omega
    subst this; exact Int.le_refl _
  · rw [if_neg h2, if_neg h2]
    refine wpAny_bind (wpAny_mono (hK _ hold (by rw [List.size_toArray] at h2; omega)) ?_ fun _ _ e => e)
    rintro kd _ ⟨rfl, rfl⟩
    refine wpAny_bind (wpAny_mono (wpS_runs (a₀ := pairsOf vs) (st := SortSt.mk' kd (vs.toArray.zip vs.toArray) #[] 7 none)
      (Q := fun _ st' => (arrOf st').Perm (pairsOf vs) ∧ failedOf st' = none ∧ Seg (fun p => κ p.1) (arrOf st') 0 (pairsOf vs).size)
      (hL _ hold) ⟨Array.Perm.refl _, rfl, rfl⟩ rfl fun st' a1 a2 => ⟨a1.perm, a1.failed, a2⟩) ?_ fun _ _ e => e)
    rintro ⟨⟨⟩, st'⟩ s' ⟨rfl, hp, hf, hs⟩
    dsimp only
    refine wpAny_bind (seqEpoch_at ho6 rfl ?_)
    refine wpAny_bind (listUpdate_at ho6 rfl ?_ (hsz2 := by refine Nat.le_trans (Nat.le_of_eq ((Array.size_map ..).trans (hp.size_eq.trans (pairsOf_size _)))) ?_; rw [sizeLine_eq]; omega))
    rw [hf]
    simp only [bne_self_eq_false, Bool.false_eq_true, if_false]
    exact wpAny_pure (fin st' hp hs)

/-- `sorted` of any list, for items that are compared by keys -/
theorem sorted_any {l : Addr} {vs : List Value} {Q : Value → Shared → Prop} (hl : s.heap.IsList l vs.toArray) (hlen : vs.length ≤ 16000000)
    (hK : ∀ s', (∀ b o, s.heap.get? b = some o → s'.heap.get? b = some o) → 2 ≤ vs.length → wpAny (model prog w) A.in1.in1 (keyKind' vs.toArray) (fun k s'' => k = kd ∧ s'' = s') E s')
    (hL : ∀ s', (∀ b o, s.heap.get? b = some o → s'.heap.get? b = some o) → LtOk prog w A.in1.in1 E s' kd (fun p => κ p.1) (pairsOf vs))
    (h : ∀ out : Array Value, out.toList.Perm vs → (out.toList.Pairwise fun x y => κ x ≤ κ y) → Q (.ref (s.heap.objs.size + 1)) { s with heap := sortedAll s.heap vs out }) :
    wpAny (model prog w) A (call (.builtin "sorted") [.ref l]) Q E s := by
  refine Calls.call_function_entry kind_sorted plain_sorted entry_sorted (args_sorted1 _) ?_
  unfold Builtin.«sorted»
  refine wpAny_bind (m := checkCount "sorted" 1 1 _) (wpAny_pure ?_)
  refine wpAny_bind (collect_list hl ?_ (by rw [sizeLine_eq]; omega))
  refine wpAny_bind (wpAny_newList ?_ (by rw [sizeLine_eq]; omega))
  have hsz : ((s.heap.push (seqObj "list" #[] 0)).update s.heap.objs.size (Obj.mapSeq (· ++ vs.toArray))).objs.size = s.heap.objs.size + 1 := by
    rw [Heap.size_update, size_push']
  have hoL : (((s.heap.push (seqObj "list" #[] 0)).update s.heap.objs.size (Obj.mapSeq (· ++ vs.toArray))).push (seqObj "list" vs.toArray 0)).get? (s.heap.objs.size + 1) = some (seqObj "list" vs.toArray 0) := by
    rw [← hsz]; exact Heap.get?_push_size _ rfl
  have old : ∀ b o, s.heap.get? b = some o → b ≠ s.heap.objs.size + 1 ∧ (((s.heap.push (seqObj "list" #[] 0)).update s.heap.objs.size (Obj.mapSeq (· ++ vs.toArray))).push (seqObj "list" vs.toArray 0)).get? b = some o := fun b o hb => by
    have hlt := Heap.lt_size hb
    refine ⟨Nat.ne_of_lt (Nat.lt_succ_of_lt hlt), ?_⟩
    rw [Heap.get?_push_ne _ _ _ (by rw [hsz]; exact Nat.ne_of_lt (Nat.lt_succ_of_lt hlt)), Heap.get?_update_ne _ _ _ _ (Nat.ne_of_lt hlt)]
    exact Heap.get?_push_of_some _ hb
  show wpAny _ _ _ _ _ { s with heap := ((s.heap.push (seqObj "list" #[] 0)).update s.heap.objs.size (Obj.mapSeq (· ++ vs.toArray))).push (seqObj "list" vs.toArray 0) }
  rw [hsz]
  refine wpAny_bind (wpAny_holding (wpAny_call_entry slot_list_sort ⟨_, hoL, rfl⟩ entry_list_sort (list_sort_any (κ := κ) hoL hlen (fun s' q => hK s' fun b o hb => q b o (old b o hb).1 (old b o hb).2) (fun s' q => hL s' fun b o hb => q b o (old b o hb).1 (old b o hb).2) fun out a1 a2 => ⟨_, rfl, ?_⟩) (args_list_sort _)))
  exact wpAny_pure ⟨_, rfl, h out a1 a2⟩
end
end
end Mine
set_option autoImplicit false
set_option maxRecDepth 100000
namespace Mine
noncomputable section
open PySem PySem.W PyProof.Rows

/-- what is asked of an exception class, of what is written of it -/
noncomputable def excLook (K : Frag) (D : Addr) : Bool :=
  findIn K (.ref D) "__getattribute__" == some (some (.builtin "BaseException.__getattribute__")) && findIn K (.ref D) "__getattr__" == some none && (clsIn K D).isSome &&
  findIn K (.ref D) "__class__" == some (some (.builtin "object.__class__")) && specialIn K (.builtin "object.__class__") "__get__" == some (some (.builtin "getset_descriptor.__get__")) && takesIn K (.builtin "object.__class__") == some true &&
  mroIn K D (.type "object") == some true && subIn K (.ref D) (.type "BaseException") == some true

section
variable {prog : Program} {w : World} {A : Around} {E : Value → Shared → Prop} {s : Shared} {K : Frag} {x D : Addr} {ox : Obj}
theorem exc_entry {tk : Tok} {Q : Fin → Shared → Prop} (X : K.In s.heap) (I : InstAt s.heap x ox D none) (hf : findObj K D none "__class__" = some (.bind (.builtin "getset_descriptor.__get__") (.builtin "object.__class__"))) (hm : mroIn K D (.type "object") = some true)
    (hq : Q (.done (.ret (.ref D))) s) : wpAny (model prog w) A (Builtin.«object.__getattribute__» ⟨[.ref x, .str "__class__" tk], []⟩) Q E s := by
  obtain ⟨hh, gg, d, t, os⟩ := s
  have L0 := I.type (M := model prog w)
  have L1 := looks_find (M := model prog w) X I hf
  unfold Builtin.«object.__getattribute__»
  refine wpAny_bind (wpAny_pure ?_)
  refine wpAny_bind (wpAny_pure (wpAny_bind (L0.at (wpAny_bind (L1.at ?_)))))
  show wpAny _ _ (holding [_] (call _ [_, .ref x, .ref D]) >>= ret) _ _ _
  refine wpAny_bind (wpAny_holding (wpAny_call (class_get (s := ⟨hh, gg, d, t, os⟩) (ox := ox) (od := none) X I hm ?_)))
  exact wpAny_pure hq

theorem exc_check {tk : Tok} {Q : Unit → Shared → Prop} {M : Model} (X : K.In s.heap) (I : InstAt s.heap x ox D none) (hb : subIn K (.ref D) (.type "BaseException") = some true) (hq : Q () s) :
    wpAny M A (checkBuiltinCall "BaseException.__getattribute__" ⟨[.ref x, .str "__class__" tk], []⟩) Q E s := by
  have hk : builtinKind "BaseException.__getattribute__" = some .slot := by decide +kernel
  have hsplit : splitId "BaseException.__getattribute__" = some ("BaseException", "__getattribute__") := by decide +kernel
  have ha := PySem.F.args_bexc_ga (.ref x) (.str "__class__" tk)
  have L : Looks M s.heap (isInstance (.ref x) (.type "BaseException")) true := I.type.andThen (looks_subIn X hb)
  simp only [checkBuiltinCall, hk, hsplit]
  refine wpAny_bind (L.at ?_)
  repeat (any_goals (first | assumption | wp_step))

theorem exc_class {Q : Option Value → Shared → Prop} (X : K.In s.heap) (I : InstAt s.heap x ox D none) (e : excLook K D = true) (h : Q (some (.ref D)) { s with toks := s.toks + 1 }) : wpAny (model prog w) A (getAttr? (.ref x) "__class__") Q E s := by
  simp only [excLook, Bool.and_eq_true, beq_iff_eq] at e
  obtain ⟨⟨⟨⟨⟨⟨⟨e1, e2⟩, e3⟩, e4⟩, e5⟩, e6⟩, e7⟩, e8⟩ := e
  have hf : findObj K D none "__class__" = some (.bind (.builtin "getset_descriptor.__get__") (.builtin "object.__class__")) := by
    obtain ⟨cd, hcd⟩ := Option.isSome_iff_exists.mp e3
    unfold findObj
    rw [hcd, Option.bind_some, e4, Option.bind_some]
    dsimp only
    rw [e5, Option.bind_some]
    dsimp only
    rw [e6, Option.bind_some]
  obtain ⟨hh, gg, d, t, os⟩ := s
  have L0 := I.type (M := model prog w)
  have L1 := looks_findIn (M := model prog w) X e1
  have L2 := looks_findIn (M := model prog w) X e2
  unfold getAttr? getAttrBy? getAttrBy
  refine wpAny_bind (wpAny_mkText (wpAny_bind (wpAny_attempt (wpAny_holding (wpAny_bind (L0.at (wpAny_bind (L1.at ?_))))))))
  show wpAny _ _ (getAttrByItsOwn _ _ _ _ _ _) _ _ _
  unfold getAttrByItsOwn
  refine wpAny_bind ?_
  show wpAny _ _ (typeLookup (.ref D) "__getattr__") _ _ _
  refine L2.at (wpAny_bind (wpAny_attempt (wpAny_holding ?_)))
  show wpAny _ _ (boundAndCalled _ _ _) _ _ _
  unfold boundAndCalled
  rw [PySem.F.attr_ValueError.ga.bind (.ref x)]
  refine wpAny_bind (wpAny_pure ?_)
  show wpAny _ _ (call _ [.ref x, _]) _ _ _
  refine wpAny_call (codeAny_call_builtin PySem.F.attr_ValueError.ga.plain PySem.F.entry_bexc_ga (exc_check (s := ⟨hh, gg, d, t + 1, os⟩) X I e8 (exc_entry (s := ⟨hh, gg, d, t + 1, os⟩) X I hf e7 ?_)))
  exact handed_on rfl (wpAny_pure h)

theorem kitx_exc (e : excLook K D = true) : KitX K (.ref x) (.ref D) (fun h => ∃ ox, InstAt h x ox D none) where
  ty := fun _ _ _ ⟨_, I⟩ => I.type
  it := fun _ _ X _ => by
    simp only [excLook, Bool.and_eq_true, beq_iff_eq] at e
    obtain ⟨cdD, hcD⟩ := Option.isSome_iff_exists.mp e.1.1.1.1.1.2
    unfold clsIn at hcD
    split at hcD
    · rename_i c' d' cd' sl' ho
      intro A' Q' E' s' k q
      unfold isType loadHead
      exact wpAny_bind (wpAny_loadPart (k _ _ (X _ _ ho)) (wpAny_pure q))
    · cases hcD
  ne := fun h tp dd its n sl X htp => by
    simp only [excLook, Bool.and_eq_true, beq_iff_eq] at e
    obtain ⟨cdD, hcD⟩ := Option.isSome_iff_exists.mp e.1.1.1.1.1.2
    refine Bool.eq_false_iff.mpr fun q => ?_
    have e : D = tp := Value.ref.inj (beq_iff_eq.mp q)
    subst e
    unfold clsIn at hcD
    split at hcD
    · rename_i c' d' cd' sl' ho
      have z := (X _ _ ho).symm.trans htp
      cases z
    · cases hcD
  ca := fun X ⟨_, I⟩ k => exc_class X I e k

/-- isinstance of an exception -/
theorem exc_isi {c : Value} {b : Bool} {Q : Value → Shared → Prop} (X : K.In s.heap) (I : InstAt s.heap x ox D none) (e : excLook K D = true) (q : kitOne K (.ref D) c = some b) (h : ∀ tk, Q (.bool b) { s with toks := tk }) :
    wpAny (model prog w) A (call (.builtin "isinstance") [.ref x, c]) Q E s := kia_one (kitx_exc e) X ⟨ox, I⟩ q (fun z => by cases z) h

/-- what is asked of a class that is named behind `except` -/
noncomputable def matchLook (K : Frag) (D C : Addr) : Bool := (clsIn K C).isSome && instIn K (.ref C) (.type "tuple") == some false && subIn K (.ref C) (.type "BaseException") == some true && subIn K (.ref D) (.ref C) == some true
end
end
end Mine
set_option autoImplicit false
set_option genSizeOf false
set_option genSizeOfSpec false
namespace Mine
noncomputable section
open PySem

/-- Plain values: what a Python value reads as. `lst` is a list that is changed no more, `loc i` the i-th object of the table of objects that may be changed. -/
inductive V where
  | none
  | bool (b : Bool)
  | int (i : Int)
  | str (s : List Nat)
  | tup (vs : List V)
  | lst (vs : List V)
  | rng (a b c : Int)
  | loc (i : Nat)

/-- built-in functions, and methods of the built-in types -/
inductive BN where
  | len | str | int | range | list | sorted
inductive MN where
  | append | startswith
noncomputable def BN.name (f : BN) : String := BN.rec "len" "str" "int" "range" "list" "sorted" f
noncomputable def MN.name (f : MN) : String := MN.rec "append" "startswith" f

inductive HO where
  | list (vs : List V)
  | inst (c : String)
  | dead

structure St where
  s : String → Option V
  H : List HO

noncomputable def St.set (st : St) (x : String) (v : V) : St := ⟨fun y => if y = x then some v else st.s y, st.H⟩
/-- a name goes -/
noncomputable def St.unset (st : St) (x : String) : St := ⟨fun y => if y = x then .none else st.s y, st.H⟩

inductive Flow where
  | next | brk | cont
  | ret (v : V)

set_option genCtorIdx false in
set_option genInjectivity false in
mutual
inductive E where
  | stuck | omit
  | none | bool (b : Bool) | int (i : Int) | str (s : List Nat)
  | var (x : String)
  | glo (x : String)
  | tup (es : Es)
  | list (es : Es)
  | bin (op : Operator) (a b : E)
  | neg (a : E)
  | not (a : E)
  | and (es : Es)
  | or (es : Es)
  | cmp (op : CmpOp) (a b : E)
  | cmp2 (op op' : CmpOp) (a b c : E)
  | idx (a i : E)
  | slc (a lo hi : E)
  | call (f : String) (es : Es)
  | blt (f : BN) (es : Es)
  | isi (a : E) (t : String)
  | mth (m : MN) (a : E) (es : Es)
  | comp (elt : E) (x : String) (it : E)
  | compIf (elt : E) (x : String) (it : E) (c : E)
  | isiC (a : E) (c : String)
  | isiV (a : E)
inductive Es where
  | nil
  | cons (e : E) (es : Es)
end

set_option genCtorIdx false in
set_option genInjectivity false in
mutual
inductive S where
  | stuck
  | ex (e : E)
  | asg (x : String) (e : E)
  | asgSub (o i e : E)
  | ite (c : E) (t f : Ss)
  | whl (c : E) (b : Ss)
  | for_ (x : String) (it : E) (b : Ss)
  | ret (e : E)
  | cont
  | pass
  | raise (cls : String)
  | tryE (e : E) (c : String) (h : Ss)
  | tryAs (e : E) (c : String) (x : String) (h : Ss)
inductive Ss where
  | nil
  | cons (s : S) (ss : Ss)
end

noncomputable def E.isOmit : E → Bool
  | .omit => true
  | _ => false

/-- signs of a plain value that holds no other -/
noncomputable def V.flat : V → Bool
  | .none => true
  | .bool _ => true
  | .int _ => true
  | .str _ => true
  | _ => false
noncomputable def V.parts : V → Option (List V)
  | .tup vs => some vs
  | .lst vs => some vs
  | _ => .none
/-- plain: no object that may be changed, and no deeper than n -/
noncomputable def pl : Nat → V → Bool
  | 0, v => v.flat
  | n + 1, v => v.flat || v.parts.any fun vs => vs.all (pl n)

mutual
noncomputable def toPy : V → PyData
  | .none => .none
  | .bool b => .bool b
  | .int i => .int i
  | .str cs => .str ⟨cs.toArray⟩
  | .tup vs => .tuple (toPys vs)
  | .lst vs => .list (toPys vs)
  | .rng _ _ _ => .none
  | .loc _ => .none
noncomputable def toPys : List V → List PyData
  | [] => []
  | v :: vs => toPy v :: toPys vs
end
/-- Python's == over plain values -/
noncomputable def eqB (a b : V) : Bool := PyData.eqv (toPy a) (toPy b)
noncomputable def V.num : V → Option Int
  | .int i => some i
  | _ => .none
noncomputable def V.txt : V → Option (List Nat)
  | .str s => some s
  | _ => .none
noncomputable def V.tupP : V → Option (List V)
  | .tup vs => some vs
  | _ => .none
mutual
noncomputable def leV : V → V → Bool
  | .int i => fun b => b.num.any fun j => decide (i ≤ j)
  | .str s => fun b => b.txt.any fun t => decide (s ≤ t)
  | .tup vs => fun b => b.tupP.any fun us => leVs vs us
  | .none => fun _ => false
  | .bool _ => fun _ => false
  | .lst _ => fun _ => false
  | .rng _ _ _ => fun _ => false
  | .loc _ => fun _ => false
noncomputable def leVs : List V → List V → Bool
  | [] => fun _ => true
  | v :: vs => fun us => us.head?.any fun u => if eqB v u then leVs vs us.tail else leV v u
end

/-- the items of a list, whether it may be changed or not -/
inductive View (H : List HO) : V → List V → Prop
  | lst (vs : List V) : View H (.lst vs) vs
  | loc {i : Nat} {vs : List V} : H[i]? = some (.list vs) → View H (.loc i) vs
/-- a list that may be changed, looked at as it is now -/
inductive Deref (H : List HO) : V → V → Prop
  | self (v : V) : Deref H v v
  | loc {i : Nat} {vs : List V} : H[i]? = some (.list vs) → Deref H (.loc i) (.lst vs)

noncomputable def rngItems (a b c : Int) : List Int := (List.range ((b - a + c - 1) / c).toNat).map fun (k : Nat) => a + c * (k : Int)
/-- the items of a value that a loop walks over -/
inductive Items : V → List V → Prop
  | rng {a b c : Int} : (0 < c ∧ c ≤ 1000000) → (-1000000 ≤ a ∧ a ≤ 1000000) → (-1000000 ≤ b ∧ b ≤ 1000000) → Items (.rng a b c) ((rngItems a b c).map .int)
  | lst (vs : List V) : Items (.lst vs) vs --#itLst

/-- a new list: by value, or as a new object -/
noncomputable def newL (vs : List V) (st : St) (Q : V → St → Prop) : Prop := Q (.lst vs) st ∨ Q (.loc st.H.length) ⟨st.s, st.H ++ [.list vs]⟩
/-- a value as it is; or a list is changed no more from here on -/
noncomputable def frzW (v : V) (st : St) (Q : V → St → Prop) : Prop := Q v st ∨ ∃ (i : Nat) (vs : List V), v = .loc i ∧ st.H[i]? = some (.list vs) ∧ Q (.lst vs) ⟨st.s, st.H.set i .dead⟩

inductive Bin : Operator → V → V → V → Prop
  | add (a b : Int) : Bin .Add (.int a) (.int b) (.int (a + b))
  | sub (a b : Int) : Bin .Sub (.int a) (.int b) (.int (a - b))
  | mul {a b : Int} : a.natAbs < 2 ^ 63 ∨ b.natAbs < 2 ^ 63 → Bin .Mult (.int a) (.int b) (.int (a * b))
  | div {a b : Int} : 0 < b → b < 2 ^ 29 → Bin .FloorDiv (.int a) (.int b) (.int (a / b)) --#div
  | mod {a b : Int} : 0 < b → Bin .Mod (.int a) (.int b) (.int (a % b))
  | pow {a b : Int} : 0 ≤ b → b ≤ 1000 → a.natAbs < 2 ^ 63 → Bin .Pow (.int a) (.int b) (.int (a ^ b.toNat)) --#pow
  | cat {a b : List Nat} : a.length + b.length ≤ 16000000 → Bin .Add (.str a) (.str b) (.str (a ++ b))

inductive IsR : V → V → Bool → Prop
  | nn : IsR .none .none true
  | xn {v : V} : v ≠ .none → IsR v .none false
inductive InR (H : List HO) : V → V → Bool → Prop
  | int {i : Int} {o : V} {ns : List Int} : View H o (ns.map .int) → InR H (.int i) o (decide (i ∈ ns))
  | sign (c : Nat) (cs : List Nat) : InR H (.str [c]) (.str cs) (decide (c ∈ cs))
  | txt {s : List Nat} {o : V} {ss : List (List Nat)} : View H o (ss.map .str) → InR H (.str s) o (decide (s ∈ ss))
inductive Cmp (H : List HO) : CmpOp → V → V → Bool → Prop
  | lt (a b : Int) : Cmp H .Lt (.int a) (.int b) (decide (a < b))
  | le (a b : Int) : Cmp H .LtE (.int a) (.int b) (decide (a ≤ b))
  | gt (a b : Int) : Cmp H .Gt (.int a) (.int b) (decide (b < a))
  | ge (a b : Int) : Cmp H .GtE (.int a) (.int b) (decide (b ≤ a))
  | geS (a b : List Nat) : Cmp H .GtE (.str a) (.str b) (decide (b ≤ a)) --#geS
  | eq {a b a' b' : V} : Deref H a a' → Deref H b b' → pl 6 a' = true → pl 6 b' = true → Cmp H .Eq a b (eqB a' b')
  | ne {a b a' b' : V} : Deref H a a' → Deref H b b' → pl 6 a' = true → pl 6 b' = true → Cmp H .NotEq a b (!eqB a' b')
  | is {a b : V} {r : Bool} : IsR a b r → Cmp H .Is a b r --#is
  | isNot {a b : V} {r : Bool} : IsR a b r → Cmp H .IsNot a b (!r) --#is
  | inn {a b : V} {r : Bool} : InR H a b r → Cmp H .In a b r --#in
  | nin {a b : V} {r : Bool} : InR H a b r → Cmp H .NotIn a b (!r) --#in

inductive Idx (H : List HO) : V → V → V → Prop
  | seq {a v : V} {xs : List V} {i : Int} : View H a xs → 0 ≤ i → xs[i.toNat]? = some v → Idx H a (.int i) v
  | tup {v : V} {xs : List V} {i : Int} : 0 ≤ i → xs[i.toNat]? = some v → Idx H (.tup xs) (.int i) v
  | str {cs : List Nat} {c : Nat} {i : Int} : 0 ≤ i → cs[i.toNat]? = some c → Idx H (.str cs) (.int i) (.str [c])

/-- a place in a slice: from behind where it is below nought, cut to the length -/
noncomputable def cut (n : Nat) (i : Int) : Nat := if i < 0 then (i + n).toNat else min i.toNat n
noncomputable def slice {α : Type} (xs : List α) (lo hi : Nat) : List α := (xs.take hi).drop lo
noncomputable def loOf (n : Nat) (l : Option Int) : Nat := l.elim 0 (cut n)
noncomputable def hiOf (n : Nat) (h : Option Int) : Nat := h.elim n (cut n)
noncomputable def slcW (v : V) (l h : Option Int) (st : St) (Q : V → St → Prop) : Prop :=
  (∃ cs, v = .str cs ∧ Q (.str (slice cs (loOf cs.length l) (hiOf cs.length h))) st) ∨ ∃ xs, View st.H v xs ∧ newL (slice xs (loOf xs.length l) (hiOf xs.length h)) st Q

inductive Kind (H : List HO) : V → String → Prop
  | int (i : Int) : Kind H (.int i) "int"
  | bool (b : Bool) : Kind H (.bool b) "bool"
  | str (s : List Nat) : Kind H (.str s) "str"
  | none : Kind H .none "NoneType"
  | tup (vs : List V) : Kind H (.tup vs) "tuple"
  | seq {v : V} {vs : List V} : View H v vs → Kind H v "list"
noncomputable def subT (X T : String) : Bool := X == T || (X == "bool" && T == "int")

/-- the signs of a whole number, as Python writes it -/
noncomputable def digits (i : Int) : List Nat := (toString i).toList.map Char.toNat

inductive LenR (H : List HO) : V → Nat → Prop
  | str (s : List Nat) : LenR H (.str s) s.length
  | tup (vs : List V) : LenR H (.tup vs) vs.length
  | seq {v : V} {vs : List V} : View H v vs → LenR H v vs.length
/-- built-in functions that make no list -/
inductive Blt (H : List HO) : BN → List V → V → Prop
  | len {v : V} {n : Nat} : LenR H v n → Blt H .len [v] (.int n)
  | str {i : Int} : i.natAbs < 10 ^ 100 → Blt H .str [.int i] (.str (digits i)) --#str
  | int (b : Bool) : Blt H .int [.bool b] (.int (if b then 1 else 0)) --#int
  | range1 (b : Int) : Blt H .range [.int b] (.rng 0 b 1)
  | range2 (a b : Int) : Blt H .range [.int a, .int b] (.rng a b 1) --#range2
  | range3 {a b c : Int} : 0 < c → c < 1000 → Blt H .range [.int a, .int b, .int c] (.rng a b c) --#range3
/-- what `sorted` takes -/
inductive Sortable : List V → Prop
  | nums {xs : List V} : (∀ v ∈ xs, ∃ i, v = .int i) → Sortable xs
  | duos {xs : List V} : (∀ v ∈ xs, ∃ i j, v = .tup [.int i, .int j]) → Sortable xs --#sortPrs
/-- built-in functions that make a list -/
inductive BltL (H : List HO) : BN → List V → List V → Prop
  | list {v : V} {xs : List V} : View H v xs → BltL H .list [v] xs --#list
  | sorted {v : V} {xs ys : List V} : View H v xs → Sortable xs → xs.length ≤ 1000000 → ys.Perm xs → (ys.Pairwise fun a b => leV a b = true) → BltL H .sorted [v] ys --#sorted
noncomputable def bltW (f : BN) (vs : List V) (st : St) (Q : V → St → Prop) : Prop := (∃ v, Blt st.H f vs v ∧ Q v st) ∨ ∃ xs, BltL st.H f vs xs ∧ newL xs st Q

inductive R where
  | ok (v : V)
  | err (c : String)
abbrev Orc := String → List V → List HO → R → List HO → Prop

/-- the kind of thing whose method is asked -/
inductive Rcv (H : List HO) : V → MN → Prop
  | append {v : V} {vs : List V} : View H v vs → Rcv H v .append --#append
  | starts (s : List Nat) : Rcv H (.str s) .startswith --#starts
/-- methods that change nothing -/
inductive Mth (H : List HO) : MN → V → List V → V → Prop
  | starts (a b : List Nat) : Mth H .startswith (.str a) [.str b] (.bool (b.isPrefixOf a)) --#starts
noncomputable def mthW (m : MN) (o : V) (vs : List V) (st : St) (Q : V → St → Prop) : Prop :=
  (∃ v, Mth st.H m o vs v ∧ Q v st) ∨
  (∃ (i : Nat) (xs : List V) (v : V), (m = .append ∧ o = .loc i ∧ vs = [v]) ∧ st.H[i]? = some (.list xs) ∧ xs.length < 16000000 ∧ Q .none ⟨st.s, st.H.set i (.list (xs ++ [v]))⟩) ∨ --#append
  False

/-- one comprehension: `f` takes an item and gives what it adds -/
noncomputable def compL (f : V → St → (List V → St → Prop) → Prop) : List V → List V → St → (List V → St → Prop) → Prop
  | [] => fun acc st K => K acc st
  | v :: r => fun acc st K => f v st fun a st' => compL f r (acc ++ a) st' K
noncomputable def flowK (Q : Flow → St → Prop) (K : St → Prop) (f : Flow) (st : St) : Prop := (f = .next ∧ K st) ∨ (f = .cont ∧ K st) ∨ (f = .brk ∧ Q .next st) ∨ ∃ v, f = .ret v ∧ Q (.ret v) st
noncomputable def forL (f : V → St → (Flow → St → Prop) → Prop) : List V → St → (Flow → St → Prop) → Prop
  | [] => fun st Q => Q .next st
  | v :: r => fun st Q => f v st (flowK Q fun st' => forL f r st' Q)
noncomputable def whileN (t : St → (Bool → St → Prop) → Prop) (f : St → (Flow → St → Prop) → Prop) : Nat → St → (Flow → St → Prop) → Prop
  | 0 => fun _ _ => False
  | n + 1 => fun st Q => t st fun b st' => (b = true ∧ f st' (flowK Q fun st'' => whileN t f n st'' Q)) ∨ (b = false ∧ Q .next st')
/-- a walk over a value's items; a list that may be changed is held meanwhile -/
noncomputable def walkW {β : Type} (v : V) (st : St) (loop : List V → St → (β → St → Prop) → Prop) (K : β → St → Prop) : Prop :=
  (∃ items, Items v items ∧ loop items st K) ∨
  (∃ (i : Nat) (items : List V), v = .loc i ∧ st.H[i]? = some (.list items) ∧ loop items ⟨st.s, st.H.set i .dead⟩ fun b st' => st'.H[i]? = some .dead ∧ K b ⟨st'.s, st'.H.set i (.list items)⟩) ∨ --#itLoc
  False
/-- the class of an exception in the table -/
inductive ExcOf (H : List HO) : V → String → Prop
  | mk {i : Nat} {c : String} : H[i]? = some (.inst c) → ExcOf H (.loc i) c
noncomputable def catches (h c : String) : Bool := h == c || h == "RoomError"

section
variable (Φ : Orc) (G : String → Option V)
mutual
noncomputable def wE : E → St → (V → St → Prop) → (String → St → Prop) → Prop
  | .stuck => fun _ _ _ => False
  | .omit => fun _ _ _ => False
  | .none => fun st Q _ => Q .none st
  | .bool b => fun st Q _ => Q (.bool b) st
  | .int i => fun st Q _ => Q (.int i) st
  | .str s => fun st Q _ => Q (.str s) st
  | .var x => fun st Q _ => ∃ v, st.s x = some v ∧ frzW v st Q
  | .glo x => fun st Q _ => ∃ v, G x = some v ∧ Q v st
  | .tup es => fun st Q X => wEs es st (fun vs st => Q (.tup vs) st) X
  | .list es => fun st Q X => wEs es st (fun vs st => newL vs st Q) X
  | .bin op a b => fun st Q X => wE a st (fun va st => wE b st (fun vb st => (∃ v, Bin op va vb v ∧ Q v st) ∨
      ∃ xs ys, op = .Add ∧ View st.H va xs ∧ View st.H vb ys ∧ xs.length + ys.length ≤ 16000000 ∧ newL (xs ++ ys) st Q) X) X
  | .neg a => fun st Q X => wE a st (fun v st => ∃ i, v = .int i ∧ Q (.int (-i)) st) X
  | .not a => fun st Q X => wE a st (fun v st => ∃ b, v = .bool b ∧ Q (.bool (!b)) st) X
  | .and es => fun st Q X => wAnd es st Q X
  | .or es => fun st Q X => wOr es st Q X
  | .cmp op a b => fun st Q X => wE a st (fun va st => wE b st (fun vb st => ∃ r, Cmp st.H op va vb r ∧ Q (.bool r) st) X) X
  | .cmp2 op op' a b c => fun st Q X => wE a st (fun va st => wE b st (fun vb st => ∃ r, Cmp st.H op va vb r ∧
      ((r = true ∧ wE c st (fun vc st => ∃ r', Cmp st.H op' vb vc r' ∧ Q (.bool r') st) X) ∨ (r = false ∧ Q (.bool false) st))) X) X
  | .idx a i => fun st Q X => wE a st (fun va st => wE i st (fun vi st => ∃ v, Idx st.H va vi v ∧ Q v st) X) X
  | .slc a lo hi => fun st Q X => wE a st (fun va st =>
      (lo.isOmit = true ∧ ((hi.isOmit = true ∧ slcW va .none .none st Q) ∨ (hi.isOmit = false ∧ wE hi st (fun h st => ∃ j, h = .int j ∧ slcW va .none (some j) st Q) X))) ∨
      (lo.isOmit = false ∧ wE lo st (fun l st => ∃ i, l = .int i ∧ ((hi.isOmit = true ∧ slcW va (some i) .none st Q) ∨ (hi.isOmit = false ∧ wE hi st (fun h st => ∃ j, h = .int j ∧ slcW va (some i) (some j) st Q) X))) X)) X
  | .call f es => fun st Q X => wEs es st (fun vs st => (∃ v H', Φ f vs st.H (.ok v) H' ∧ Q v ⟨st.s, H'⟩) ∨ ∃ c H', Φ f vs st.H (.err c) H' ∧ X c ⟨st.s, H'⟩) X
  | .blt f es => fun st Q X => wEs es st (fun vs st => bltW f vs st Q) X
  | .isi a t => fun st Q X => wE a st (fun v st => ∃ k, Kind st.H v k ∧ Q (.bool (subT k t)) st) X
  | .mth m a es => fun st Q X => wE a st (fun o st => Rcv st.H o m ∧ wEs es st (fun vs st => mthW m o vs st Q) X) X
  | .comp elt x it => fun st Q X => wE it st (fun vi st => ∃ items, Items vi items ∧ compL (fun v st₁ K => wE elt (st₁.set x v) (fun r st' => K [r] ⟨st₁.s, st'.H⟩) fun _ _ => False) items [] st fun out st => newL out st Q) X
  | .compIf elt x it c => fun st Q X => wE it st (fun vi st => ∃ items, Items vi items ∧ compL (fun v st₁ K => wE c (st₁.set x v) (fun b st' => (b = .bool true ∧ wE elt st' (fun r st' => K [r] ⟨st₁.s, st'.H⟩) fun _ _ => False) ∨ (b = .bool false ∧ K [] ⟨st₁.s, st'.H⟩)) fun _ _ => False)
        items [] st fun out st => newL out st Q) X
  | .isiC a c => fun st Q X => wE a st (fun v st => ∃ c', ExcOf st.H v c' ∧ Q (.bool (catches c c')) st) X
  | .isiV a => fun st Q X => wE a st (fun v st => ∃ c', ExcOf st.H v c' ∧ Q (.bool true) st) X
noncomputable def wEs : Es → St → (List V → St → Prop) → (String → St → Prop) → Prop
  | .nil => fun st Q _ => Q [] st
  | .cons e es => fun st Q X => wE e st (fun v st => wEs es st (fun vs st => Q (v :: vs) st) X) X
noncomputable def wAnd : Es → St → (V → St → Prop) → (String → St → Prop) → Prop
  | .nil => fun st Q _ => Q (.bool true) st
  | .cons e es => fun st Q X => wE e st (fun v st => ∃ b, v = .bool b ∧ ((b = true ∧ wAnd es st Q X) ∨ (b = false ∧ Q (.bool false) st))) X
noncomputable def wOr : Es → St → (V → St → Prop) → (String → St → Prop) → Prop
  | .nil => fun st Q _ => Q (.bool false) st
  | .cons e es => fun st Q X => wE e st (fun v st => ∃ b, v = .bool b ∧ ((b = true ∧ Q (.bool true) st) ∨ (b = false ∧ wOr es st Q X))) X
end

noncomputable def wT (e : E) (st : St) (Q : Bool → St → Prop) (X : String → St → Prop) : Prop := wE Φ G e st (fun v st => ∃ b, v = .bool b ∧ Q b st) X
noncomputable def andThen (K : St → Prop) (Q : Flow → St → Prop) (f : Flow) (st : St) : Prop := (f = .next ∧ K st) ∨ (f ≠ .next ∧ Q f st)
noncomputable def noX : String → St → Prop := fun _ _ => False
mutual
noncomputable def wS : S → St → (Flow → St → Prop) → (String → St → Prop) → Prop
  | .stuck => fun _ _ _ => False
  | .ex e => fun st Q X => wE Φ G e st (fun _ st => Q .next st) X
  | .asg x e => fun st Q X => wE Φ G e st (fun v st => Q .next (st.set x v)) X
  | .asgSub o i e => fun st Q X => wE Φ G e st (fun v st => wE Φ G o st (fun vo st => wE Φ G i st (fun vi st => ∃ (j : Nat) (k : Int) (xs : List V), (vo = .loc j ∧ vi = .int k) ∧ st.H[j]? = some (.list xs) ∧ 0 ≤ k ∧ k.toNat < xs.length ∧ Q .next ⟨st.s, st.H.set j (.list (xs.set k.toNat v))⟩) X) X) X
  | .ite c t f => fun st Q X => wT Φ G c st (fun b st => (b = true ∧ wSs t st Q X) ∨ (b = false ∧ wSs f st Q X)) X
  | .whl c b => fun st Q _ => ∃ n, whileN (fun st Q => wT Φ G c st Q noX) (fun st Q => wSs b st Q noX) n st Q
  | .for_ x it b => fun st Q X => wE Φ G it st (fun vi st => walkW vi st (fun items st Q => forL (fun v st Q => wSs b (st.set x v) Q noX) items st Q) Q) X
  | .ret e => fun st Q X => wE Φ G e st (fun v st => Q (.ret v) st) X
  | .cont => fun st Q _ => Q .cont st
  | .pass => fun st Q _ => Q .next st
  | .raise c => fun st _ X => st.H = [] ∧ X c st
  | .tryE e c h => fun st Q _ => st.H = [] ∧ wE Φ G e st (fun _ st => Q .next st) fun c' st' => st'.H = [] ∧ catches c c' = true ∧ wSs h ⟨st'.s, [.inst c']⟩ (fun f st => f = .next ∧ Q .next ⟨fun y => (st.s y).bind fun v => if pl 6 v then some v else .none, []⟩) noX
  | .tryAs e c x h => fun st Q _ => st.H = [] ∧ wE Φ G e st (fun _ st => Q .next st) fun c' st' => st'.H = [] ∧ catches c c' = true ∧
      wSs h ((St.mk st'.s [.inst c']).set x (.loc 0)) (fun f st => f = .next ∧ Q .next ⟨fun y => ((st.unset x).s y).bind fun v => if pl 6 v then some v else .none, []⟩) noX
noncomputable def wSs : Ss → St → (Flow → St → Prop) → (String → St → Prop) → Prop
  | .nil => fun st Q _ => Q .next st
  | .cons s ss => fun st Q X => wS s st (andThen (fun st => wSs ss st Q X) Q) X
end
end
end
end Mine
set_option autoImplicit false
set_option genInjectivity false
set_option genSizeOf false
namespace Mine
noncomputable section
open PySem

noncomputable def bltNames : List String := ["len", "isinstance", "sorted", "max", "min", "str", "int", "range", "list", "bool", "tuple", "ValueError"]
noncomputable def bltVal (f : String) : Value := if ["len", "isinstance", "sorted", "max", "min"].contains f then .builtin f else .type f

noncomputable def veMro : List Value := [.type "ValueError", .type "Exception", .type "BaseException", .type "object"]
/-- an exception class of the text -/
noncomputable def ExcCls (base : Heap) (mg : Str → Option Value) (exs : List String) (c : String) (cls : Addr) : Prop :=
  PyProof.Rows.OwnCls (c : Str) cls veMro "ValueError.__new__" mg base ∧ ∃ K : PySem.W.Frag, K.In base ∧ excLook K cls = true ∧ PySem.W.kitOne K (.ref cls) (.type "ValueError") = some true ∧
    ∀ c' ∈ exs, ∃ cls', mg (c' : Str) = some (.ref cls') ∧ PySem.W.kitOne K (.ref cls) (.ref cls') = some (catches c' c) ∧ (catches c' c = true → matchLook K cls cls' = true)

/-- the static side of a run: the text, the world, the heap as the call found it -/
structure Cx where
  prog : Program
  w : World
  base : Heap
  os : OsState
  mg : Str → Option Value
  mb : Str → Option Value
  g : base.Ns mainGlobals mg
  b : base.Ns builtinsNs mb
  nolimit : base.NoLimit
  glo : String → Option V
  hglo : ∀ (x : String) v, glo x = some v → ∃ i t, v = .int i ∧ mg x = some (.int i t)
  fns : List String
  hfns : ∀ f ∈ fns, ∃ fa o fd, mg (f : Str) = some (.ref fa) ∧ base.get? fa = some o ∧ o.data = .func fd
  exs : List String
  hexs : ∀ c ∈ exs, ∃ cls, ExcCls base mg exs c cls
  blts : ∀ f ∈ bltNames, mg (f : Str) = none ∧ mb (f : Str) = some (bltVal f)

abbrev Cx.M (C : Cx) : Model := model C.prog C.w

noncomputable def HO.isLive : HO → Bool
  | .dead => false
  | .inst _ => false
  | _ => true

/-- the addresses of the objects that may be changed -/
noncomputable def Lv (ρ : List Addr) (H : List HO) (a : Addr) : Prop := ∃ (i : Nat) (o : HO), ρ[i]? = some a ∧ H[i]? = some o ∧ o.isLive = true

/-- what the run itself holds, which of it are frames, what is handled, and which lists are held while a loop walks over them -/
structure Gh where
  h : Addr → Prop
  f : Addr → Prop
  fh : ∀ a, f a → h a
  e : Addr → Prop
  b : Addr → Prop
  bh : ∀ a, b a → h a

/-- besides these, what the run itself holds: γ -/
noncomputable def Nl (γ : Gh) (ρ : List Addr) (H : List HO) (a : Addr) : Prop := Lv ρ H a ∨ γ.h a

noncomputable def maxLen : Nat := 16777216

mutual
inductive Rel (h : Heap) (ρ : List Addr) (N : Addr → Prop) : V → Value → Prop
  | none : Rel h ρ N .none .none
  | bool (b : Bool) : Rel h ρ N (.bool b) (.bool b)
  | int (i : Int) (t : Tok) : Rel h ρ N (.int i) (.int i t)
  | str {cs : List Nat} (t : Tok) : cs.length ≤ maxLen → (∀ c ∈ cs, c < 128) → Rel h ρ N (.str cs) (.str ⟨cs.toArray⟩ t)
  | tup {a : Addr} {vs : List V} {ms : List Value} : h.IsTuple a ms.toArray → ¬ N a → vs.length ≤ maxLen → RelL h ρ N vs ms → Rel h ρ N (.tup vs) (.ref a)
  | lst {a : Addr} {vs : List V} {ms : List Value} : h.PlainList a ms.toArray → ¬ N a → vs.length ≤ maxLen → RelL h ρ N vs ms → Rel h ρ N (.lst vs) (.ref a)
  | rng {r : Addr} {a b c : Int} {t u v : Tok} : IsRange h r a b c t u v → ¬ N r → Rel h ρ N (.rng a b c) (.ref r)
  | loc {i : Nat} {a : Addr} : ρ[i]? = some a → Rel h ρ N (.loc i) (.ref a)
inductive RelL (h : Heap) (ρ : List Addr) (N : Addr → Prop) : List V → List Value → Prop
  | nil : RelL h ρ N [] []
  | cons {v : V} {m : Value} {vs : List V} {ms : List Value} : Rel h ρ N v m → RelL h ρ N vs ms → RelL h ρ N (v :: vs) (m :: ms)
end

/-- the same object, or a namespace whose own notes alone have turned -/
noncomputable def Alike (o o' : Obj) : Prop := o' = o ∨ ∃ es n sl, o.data = .dict es n ∧ o' = { o with slots := sl }
theorem Alike.refl (o : Obj) : Alike o o := .inl rfl
theorem Alike.trans {a b c : Obj} (x : Alike a b) (y : Alike b c) : Alike a c := by
  rcases x with rfl | ⟨es, n, sl, hd, rfl⟩
  · exact y
  · rcases y with rfl | ⟨es', n', sl', hd', rfl⟩
    · exact .inr ⟨es, n, sl, hd, rfl⟩
    · exact .inr ⟨es, n, sl', hd, rfl⟩
theorem Alike.same {o o' : Obj} (x : Alike o o') (h : ∀ es n, o.data ≠ .dict es n) : o' = o := by
  rcases x with e | ⟨es, n, sl, hd, _⟩
  · exact e
  · exact absurd hd (h es n)

structure Kept (h : Heap) (ρ : List Addr) (N : Addr → Prop) (h' : Heap) (ρ' : List Addr) (N' : Addr → Prop) : Prop where
  keep : ∀ a o, h.get? a = some o → ¬ N a → ∃ o', h'.get? a = some o' ∧ Alike o o'
  live : ∀ a, N' a → N a ∨ h.get? a = none
  pre : ∀ (i : Nat) a, ρ[i]? = some a → ρ'[i]? = some a

theorem Kept.notLive {h h' : Heap} {ρ ρ' : List Addr} {N N' : Addr → Prop} (k : Kept h ρ N h' ρ' N') {a : Addr} {o : Obj} (ho : h.get? a = some o) (hn : ¬ N a) : ¬ N' a := fun q => by
  rcases k.live a q with e | e
  · exact hn e
  · rw [ho] at e; cases e
theorem Kept.same {h h' : Heap} {ρ ρ' : List Addr} {N N' : Addr → Prop} (k : Kept h ρ N h' ρ' N') {a : Addr} {o : Obj} (ho : h.get? a = some o) (hn : ¬ N a) (hd : ∀ es n, o.data ≠ .dict es n) : h'.get? a = some o := by
  obtain ⟨o', e, q⟩ := k.keep a o ho hn
  rw [e, q.same hd]

theorem Kept.gh {γ : Gh} {h h' : Heap} {ρ ρ' : List Addr} {H H' : List HO} (k : Kept h ρ (Lv ρ H) h' ρ' (Lv ρ' H')) : Kept h ρ (Nl γ ρ H) h' ρ' (Nl γ ρ' H') :=
  ⟨fun a o e n => k.keep a o e fun q => n (.inl q), fun a q => by
    rcases q with q | q
    · exact (k.live a q).imp .inl id
    · exact .inl (.inr q), k.pre⟩

theorem Rel.both {h : Heap} {ρ : List Addr} {N : Addr → Prop} {P : V → Value → Prop} {L : List V → List Value → Prop} (h1 : P .none .none) (h2 : ∀ b, P (.bool b) (.bool b)) (h3 : ∀ i t, P (.int i) (.int i t))
    (h4 : ∀ {cs : List Nat} (t : Tok), cs.length ≤ maxLen → (∀ c ∈ cs, c < 128) → P (.str cs) (.str ⟨cs.toArray⟩ t))
    (h5 : ∀ {a : Addr} {vs : List V} {ms : List Value}, h.IsTuple a ms.toArray → ¬ N a → vs.length ≤ maxLen → L vs ms → P (.tup vs) (.ref a))
    (h6 : ∀ {a : Addr} {vs : List V} {ms : List Value}, h.PlainList a ms.toArray → ¬ N a → vs.length ≤ maxLen → L vs ms → P (.lst vs) (.ref a))
    (h7 : ∀ {r : Addr} {a b c : Int} {t u v : Tok}, IsRange h r a b c t u v → ¬ N r → P (.rng a b c) (.ref r)) (h8 : ∀ {i : Nat} {a : Addr}, ρ[i]? = some a → P (.loc i) (.ref a))
    (h9 : L [] []) (h10 : ∀ {v : V} {m : Value} {vs : List V} {ms : List Value}, P v m → L vs ms → L (v :: vs) (m :: ms)) :
    (∀ {v : V} {m : Value}, Rel h ρ N v m → P v m) ∧ ∀ {vs : List V} {ms : List Value}, RelL h ρ N vs ms → L vs ms :=
  ⟨fun r => Rel.rec (motive_1 := fun v m _ => P v m) (motive_2 := fun vs ms _ => L vs ms) h1 h2 h3 (fun t a b => h4 t a b) (fun a b c _ x => h5 a b c x) (fun a b c _ x => h6 a b c x) (fun a b => h7 a b) (fun a => h8 a) h9 (fun _ _ x y => h10 x y) r,
   fun r => RelL.rec (motive_1 := fun v m _ => P v m) (motive_2 := fun vs ms _ => L vs ms) h1 h2 h3 (fun t a b => h4 t a b) (fun a b c _ x => h5 a b c x) (fun a b c _ x => h6 a b c x) (fun a b => h7 a b) (fun a => h8 a) h9 (fun _ _ x y => h10 x y) r⟩

theorem Rel.kept2 {h h' : Heap} {ρ ρ' : List Addr} {N N' : Addr → Prop} (k : Kept h ρ N h' ρ' N') : (∀ {v : V} {m : Value}, Rel h ρ N v m → Rel h' ρ' N' v m) ∧ ∀ {vs : List V} {ms : List Value}, RelL h ρ N vs ms → RelL h' ρ' N' vs ms :=
  Rel.both .none .bool .int .str (fun ⟨o, ho, hc, n, hd⟩ hn hl r => .tup ⟨o, k.same ho hn (fun es n' e => by rw [hd] at e; cases e), hc, n, hd⟩ (k.notLive ho hn) hl r)
    (fun ⟨n, ho⟩ hn hl r => .lst ⟨n, k.same ho hn (fun es n' e => by cases e)⟩ (k.notLive ho hn) hl r) (fun hr hn => .rng (k.same hr hn (fun es n' e => by cases e)) (k.notLive hr hn)) (fun e => .loc (k.pre _ _ e)) .nil .cons
theorem Rel.kept {h h' : Heap} {ρ ρ' : List Addr} {N N' : Addr → Prop} (k : Kept h ρ N h' ρ' N') {v : V} {m : Value} (r : Rel h ρ N v m) : Rel h' ρ' N' v m := (Rel.kept2 k).1 r
theorem RelL.kept {h h' : Heap} {ρ ρ' : List Addr} {N N' : Addr → Prop} (k : Kept h ρ N h' ρ' N') {vs : List V} {ms : List Value} (r : RelL h ρ N vs ms) : RelL h' ρ' N' vs ms := (Rel.kept2 k).2 r

theorem RelL.walk {h : Heap} {ρ : List Addr} {N : Addr → Prop} {L : List V → List Value → Prop} (h1 : L [] []) (h2 : ∀ {v : V} {m : Value} {vs : List V} {ms : List Value}, Rel h ρ N v m → RelL h ρ N vs ms → L vs ms → L (v :: vs) (m :: ms)) {vs : List V} {ms : List Value} (r : RelL h ρ N vs ms) : L vs ms := by
  induction vs generalizing ms with
  | nil => cases r; exact h1
  | cons v vs ih => cases r with | cons a r => exact h2 a r (ih r)
theorem RelL.length {h : Heap} {ρ : List Addr} {N : Addr → Prop} {vs : List V} {ms : List Value} (r : RelL h ρ N vs ms) : vs.length = ms.length :=
  r.walk (L := fun vs ms => vs.length = ms.length) rfl fun _ _ ih => congrArg Nat.succ ih
theorem RelL.get {h : Heap} {ρ : List Addr} {N : Addr → Prop} {vs : List V} {ms : List Value} (r : RelL h ρ N vs ms) {i : Nat} {v : V} (e : vs[i]? = some v) : ∃ m, ms[i]? = some m ∧ Rel h ρ N v m :=
  r.walk (L := fun vs ms => ∀ (i : Nat) (v : V), vs[i]? = some v → ∃ m, ms[i]? = some m ∧ Rel h ρ N v m) (fun i v e => by simp at e) (fun a _ ih i v e => by
    cases i with
    | zero => simp at e; subst e; exact ⟨_, rfl, a⟩
    | succ i => exact ih i v e) i v e
theorem RelL.get' {h : Heap} {ρ : List Addr} {N : Addr → Prop} {vs : List V} {ms : List Value} (r : RelL h ρ N vs ms) {i : Nat} {m : Value} (e : ms[i]? = some m) : ∃ v, vs[i]? = some v ∧ Rel h ρ N v m :=
  r.walk (L := fun vs ms => ∀ (i : Nat) (m : Value), ms[i]? = some m → ∃ v, vs[i]? = some v ∧ Rel h ρ N v m) (fun i v e => by simp at e) (fun a _ ih i v e => by
    cases i with
    | zero => simp at e; subst e; exact ⟨_, rfl, a⟩
    | succ i => exact ih i v e) i m e
theorem RelL.append {h : Heap} {ρ : List Addr} {N : Addr → Prop} {vs ws : List V} {ms ns : List Value} (r : RelL h ρ N vs ms) (q : RelL h ρ N ws ns) : RelL h ρ N (vs ++ ws) (ms ++ ns) :=
  r.walk (L := fun vs ms => RelL h ρ N (vs ++ ws) (ms ++ ns)) q fun a _ ih => .cons a ih
theorem RelL.take {h : Heap} {ρ : List Addr} {N : Addr → Prop} {vs : List V} {ms : List Value} (r : RelL h ρ N vs ms) : ∀ n : Nat, RelL h ρ N (vs.take n) (ms.take n) :=
  r.walk (L := fun vs ms => ∀ n : Nat, RelL h ρ N (vs.take n) (ms.take n)) (fun n => by rw [List.take_nil, List.take_nil]; exact .nil) fun a _ ih n => by
    cases n with
    | zero => exact .nil
    | succ n => exact .cons a (ih n)
theorem RelL.drop {h : Heap} {ρ : List Addr} {N : Addr → Prop} {vs : List V} {ms : List Value} (r : RelL h ρ N vs ms) : ∀ n : Nat, RelL h ρ N (vs.drop n) (ms.drop n) :=
  r.walk (L := fun vs ms => ∀ n : Nat, RelL h ρ N (vs.drop n) (ms.drop n)) (fun n => by rw [List.drop_nil, List.drop_nil]; exact .nil) fun a r ih n => by
    cases n with
    | zero => exact .cons a r
    | succ n => exact ih n

section
variable {h : Heap} {ρ : List Addr} {N : Addr → Prop} {m : Value}
theorem Rel.none_inv (r : Rel h ρ N .none m) : m = .none := by cases r; rfl
theorem Rel.bool_inv {b : Bool} (r : Rel h ρ N (.bool b) m) : m = .bool b := by cases r; rfl
theorem Rel.int_inv {i : Int} (r : Rel h ρ N (.int i) m) : ∃ t, m = .int i t := by cases r; exact ⟨_, rfl⟩
theorem Rel.str_inv {cs : List Nat} (r : Rel h ρ N (.str cs) m) : ∃ t, m = .str ⟨cs.toArray⟩ t ∧ cs.length ≤ maxLen ∧ ∀ c ∈ cs, c < 128 := by cases r with | str t a b => exact ⟨t, rfl, a, b⟩
theorem Rel.tup_inv {vs : List V} (r : Rel h ρ N (.tup vs) m) : ∃ a ms, m = .ref a ∧ h.IsTuple a ms.toArray ∧ ¬ N a ∧ vs.length ≤ maxLen ∧ RelL h ρ N vs ms := by cases r with | tup a b c d => exact ⟨_, _, rfl, a, b, c, d⟩
theorem Rel.lst_inv {vs : List V} (r : Rel h ρ N (.lst vs) m) : ∃ a ms, m = .ref a ∧ h.PlainList a ms.toArray ∧ ¬ N a ∧ vs.length ≤ maxLen ∧ RelL h ρ N vs ms := by cases r with | lst a b c d => exact ⟨_, _, rfl, a, b, c, d⟩
theorem Rel.rng_inv {a b c : Int} (r : Rel h ρ N (.rng a b c) m) : ∃ x t u v, m = .ref x ∧ IsRange h x a b c t u v ∧ ¬ N x := by cases r with | rng p q => exact ⟨_, _, _, _, rfl, p, q⟩
theorem Rel.loc_inv {i : Nat} (r : Rel h ρ N (.loc i) m) : ∃ a, m = .ref a ∧ ρ[i]? = some a := by cases r with | loc a => exact ⟨_, rfl, a⟩
theorem RelL.nil_inv {ms : List Value} (r : RelL h ρ N [] ms) : ms = [] := by cases r; rfl
theorem RelL.cons_inv {v : V} {vs : List V} {ms : List Value} (r : RelL h ρ N (v :: vs) ms) : ∃ m r', ms = m :: r' ∧ Rel h ρ N v m ∧ RelL h ρ N vs r' := by cases r with | cons a r => exact ⟨_, _, rfl, a, r⟩
end

mutual
/-- no place of the table at `n` or above -/
noncomputable def low (n : Nat) : V → Prop
  | .loc i => i < n
  | .tup vs => lows n vs
  | .lst vs => lows n vs
  | _ => True
noncomputable def lows (n : Nat) : List V → Prop
  | [] => True
  | v :: vs => low n v ∧ lows n vs
end

theorem Rel.low2 {h : Heap} {ρ : List Addr} {N : Addr → Prop} : (∀ {v : V} {m : Value}, Rel h ρ N v m → Mine.low ρ.length v) ∧ ∀ {vs : List V} {ms : List Value}, RelL h ρ N vs ms → Mine.lows ρ.length vs :=
  Rel.both trivial (fun _ => trivial) (fun _ _ => trivial) (fun _ _ _ => trivial) (fun _ _ _ r => r) (fun _ _ _ r => r) (fun _ _ => trivial) (fun e => (List.getElem?_eq_some_iff.mp e).1) trivial fun a r => ⟨a, r⟩
theorem RelL.lows {h : Heap} {ρ : List Addr} {N : Addr → Prop} {vs : List V} {ms : List Value} (r : RelL h ρ N vs ms) : Mine.lows ρ.length vs := Rel.low2.2 r

/-- the table is cut behind `n` -/
theorem Rel.cut2 {h : Heap} {ρ : List Addr} {N N' : Addr → Prop} {n : Nat} (hN : ∀ a, N' a → N a) : (∀ {v : V} {m : Value}, Rel h ρ N v m → Mine.low n v → Rel h (ρ.take n) N' v m) ∧ ∀ {vs : List V} {ms : List Value}, RelL h ρ N vs ms → Mine.lows n vs → RelL h (ρ.take n) N' vs ms :=
  Rel.both (fun _ => .none) (fun b _ => .bool b) (fun i t _ => .int i t) (fun t a b _ => .str t a b) (fun a b c r l => .tup a (fun q => b (hN _ q)) c (r l)) (fun a b c r l => .lst a (fun q => b (hN _ q)) c (r l)) (fun a b _ => .rng a fun q => b (hN _ q))
    (fun {i _} e l => .loc (by rw [List.getElem?_take, if_pos (show i < n from l)]; exact e)) (fun _ => .nil) fun a r l => .cons (a l.1) (r l.2)
theorem Rel.cut {h : Heap} {ρ : List Addr} {N N' : Addr → Prop} {n : Nat} (hN : ∀ a, N' a → N a) {v : V} {m : Value} (r : Rel h ρ N v m) (l : Mine.low n v) : Rel h (ρ.take n) N' v m := (Rel.cut2 hN).1 r l
theorem RelL.cut {h : Heap} {ρ : List Addr} {N N' : Addr → Prop} {n : Nat} (hN : ∀ a, N' a → N a) {vs : List V} {ms : List Value} (r : RelL h ρ N vs ms) (l : Mine.lows n vs) : RelL h (ρ.take n) N' vs ms := (Rel.cut2 hN).2 r l

noncomputable def ORel (C : Cx) (h : Heap) (ρ : List Addr) (N : Addr → Prop) : HO → Addr → Prop
  | .list vs, a => ∃ ms : List Value, h.PlainList a ms.toArray ∧ RelL h ρ N vs ms ∧ vs.length ≤ maxLen
  | .inst c, a => c ∈ C.exs ∧ ∃ o cls vs, h.get? a = some o ∧ C.mg c = some (.ref cls) ∧ o.cls = .ref cls ∧ o.dict = none ∧ o.data = .fields vs
  | .dead, _ => True

section
variable {γ : Gh}
structure Inv (C : Cx) (γ : Gh) (ρ : List Addr) (H : List HO) (s : Shared) : Prop where
  base : ∀ b o, C.base.get? b = some o → s.heap.get? b = some o
  len : ρ.length = H.length
  nodup : ρ.Nodup
  fresh : ∀ a ∈ ρ, C.base.get? a = none
  there : ∀ a ∈ ρ, ∃ o, s.heap.get? a = some o
  obj : ∀ (i : Nat) a o, ρ[i]? = some a → H[i]? = some o → ORel C s.heap ρ (Nl γ ρ H) o a
  apart : ∀ a ∈ ρ, γ.h a → γ.b a
  bor : ∀ (i : Nat) a o, ρ[i]? = some a → γ.b a → H[i]? = some o → o = .dead
  held : ∀ a, γ.h a → ∃ o, s.heap.get? a = some o
  off : ∀ a, γ.h a → C.base.get? a = none
  frm : ∀ a, γ.f a → ∃ o es n, s.heap.get? a = some o ∧ o.data = .dict es n
  hdl : ∀ a, γ.e a → (∃ o vs, s.heap.get? a = some o ∧ o.data = .fields vs ∧ vs[2]? = some .none) ∧ ¬ Lv ρ H a ∧ ¬ γ.h a
  hq : H = [] → ∀ a, ¬ γ.e a
  gens : s.gens = #[]
  os : s.os = C.os

/-- what a step of the run leaves: all but the objects that may be changed -/
structure Stp (ρ : List Addr) (H : List HO) (s : Shared) (ρ' : List Addr) (H' : List HO) (s' : Shared) : Prop where
  kep : Kept s.heap ρ (Lv ρ H) s'.heap ρ' (Lv ρ' H')
theorem Stp.kept {ρ ρ' : List Addr} {H H' : List HO} {s s' : Shared} (S : Stp ρ H s ρ' H' s') : Kept s.heap ρ (Nl γ ρ H) s'.heap ρ' (Nl γ ρ' H') := S.kep.gh

theorem Stp.refl (ρ : List Addr) (H : List HO) (s : Shared) : Stp ρ H s ρ H s := ⟨⟨fun _ o e _ => ⟨o, e, .refl o⟩, fun _ e => .inl e, fun _ _ e => e⟩⟩
theorem Stp.trans {ρ ρ' ρ'' : List Addr} {H H' H'' : List HO} {s s' s'' : Shared} (x : Stp ρ H s ρ' H' s') (y : Stp ρ' H' s' ρ'' H'' s'') : Stp ρ H s ρ'' H'' s'' := by
  refine ⟨⟨fun a o e n => ?_, fun a e => ?_, fun i a e => y.kep.pre _ _ (x.kep.pre _ _ e)⟩⟩
  · obtain ⟨o', e', q⟩ := x.kep.keep a o e n
    obtain ⟨o'', e'', q'⟩ := y.kep.keep a o' e' (x.kep.notLive e n)
    exact ⟨o'', e'', q.trans q'⟩
  · rcases y.kep.live a e with q | q
    · exact x.kep.live a q
    · by_cases hL : Lv ρ H a
      · exact .inl hL
      · right
        cases hg : s.heap.get? a with
        | none => rfl
        | some o =>
          obtain ⟨o', e', _⟩ := x.kep.keep a o hg hL
          rw [q] at e'; cases e'

theorem Inv.hdl' {C : Cx} {ρ ρ' : List Addr} {H H' : List HO} {s s' : Shared} (I : Inv C γ ρ H s) (K : Kept s.heap ρ (Lv ρ H) s'.heap ρ' (Lv ρ' H')) (a : Addr) (q : γ.e a) : (∃ o vs, s'.heap.get? a = some o ∧ o.data = .fields vs ∧ vs[2]? = some .none) ∧ ¬ Lv ρ' H' a ∧ ¬ γ.h a :=
  let ⟨⟨o, vs, e, d, v⟩, l, nh⟩ := I.hdl a q
  ⟨⟨o, vs, K.same e l (fun es n z => by rw [d] at z; cases z), d, v⟩, K.notLive e l, nh⟩
/-- a step that changes no old object and opens none -/
theorem Stp.of_keep {ρ : List Addr} {H : List HO} {s s' : Shared} (k : ∀ a o, s.heap.get? a = some o → s'.heap.get? a = some o) : Stp ρ H s ρ H s' :=
  ⟨⟨fun _ o e _ => ⟨o, k _ _ e, .refl o⟩, fun _ e => .inl e, fun _ _ e => e⟩⟩

theorem ORel.kept {C : Cx} {h h' : Heap} {ρ ρ' : List Addr} {N N' : Addr → Prop} (k : Kept h ρ N h' ρ' N') {o : HO} {a : Addr} (r : ORel C h ρ N o a) (e : ∀ x, h.get? a = some x → h'.get? a = some x) : ORel C h' ρ' N' o a := by
  cases o with
  | list vs =>
    obtain ⟨ms, ⟨n, hx⟩, r2, r3⟩ := r
    exact ⟨ms, ⟨n, e _ hx⟩, r2.kept k, r3⟩
  | inst _ => exact ⟨r.1, let ⟨o, cls, vs, h1, h2⟩ := r.2; ⟨o, cls, vs, e _ h1, h2⟩⟩
  | dead => trivial

theorem Inv.of_keep {C : Cx} {ρ : List Addr} {H : List HO} {s s' : Shared} (I : Inv C γ ρ H s) (k : ∀ a o, s.heap.get? a = some o → s'.heap.get? a = some o)
    (hg : s'.gens = s.gens) (ho : s'.os = s.os) : Inv C γ ρ H s' :=
  ⟨fun b o e => k _ _ (I.base b o e), I.len, I.nodup, I.fresh, fun a e => let ⟨o, q⟩ := I.there a e; ⟨o, k _ _ q⟩, fun i a o e1 e2 => (I.obj i a o e1 e2).kept (Stp.of_keep k).kept fun x hx => k _ _ hx, I.apart, I.bor, fun a q => let ⟨o, e⟩ := I.held a q; ⟨o, k _ _ e⟩, I.off, (fun a q => let ⟨o, es, n, e, d⟩ := I.frm a q; ⟨o, es, n, k _ _ e, d⟩), (fun a q => let ⟨⟨o, vs, e, d⟩, q2⟩ := I.hdl a q; ⟨⟨o, vs, k _ _ e, d⟩, q2⟩), I.hq, hg.trans I.gens, ho.trans I.os⟩

/-- the names of a frame -/
structure Fra (γ : Gh) (env : Env) (st : St) (ρ : List Addr) (s : Shared) : Prop where
  kind : env.scope.kind = .function
  glob : env.globals = mainGlobals
  blt : env.builtins = builtinsNs
  nl : ¬ Lv ρ st.H env.locals
  own : γ.h env.locals
  ns : ∃ m, s.heap.Ns env.locals m ∧ ∀ (x : String) v, env.kindOf x = some .local → (x : Str) ≠ (".0" : Str) → st.s x = some v → ∃ mv, m x = some mv ∧ Rel s.heap ρ (Nl γ ρ st.H) v mv
  cell : ∀ n : Str, (env.kindOf n = some .cell ∨ env.kindOf n = some .free) → ∃ c ov, env.cells.lookup n = some c ∧ (¬ Lv ρ st.H c ∧ γ.h c) ∧ s.heap.IsCell c ov ∧
    ∀ (x : String), (x : Str) = n → ∀ v, st.s x = some v → ∃ mv, ov = some mv ∧ Rel s.heap ρ (Nl γ ρ st.H) v mv
  apart : ∀ (n n' : Str) c, env.cells.lookup n = some c → env.cells.lookup n' = some c → n = n'
  nb : ¬ γ.b env.locals
  nbc : ∀ (n : Str) c, env.cells.lookup n = some c → γ.h c ∧ ¬ γ.b c

theorem Heap_Ns_alike {h h' : Heap} {a : Addr} {m : Str → Option Value} (hn : h.Ns a m) (e : ∀ o, h.get? a = some o → ∃ o', h'.get? a = some o' ∧ Alike o o') : h'.Ns a m := by
  obtain ⟨o, es, ep, ho, hd, hk, hf⟩ := hn
  obtain ⟨o', ho', q⟩ := e o ho
  rcases q with rfl | ⟨_, _, sl, _, rfl⟩
  · exact ⟨_, es, ep, ho', hd, hk, hf⟩
  · exact ⟨_, es, ep, ho', hd, hk, hf⟩
theorem Heap_Ns_get {h : Heap} {a : Addr} {m : Str → Option Value} (hn : h.Ns a m) : ∃ o, h.get? a = some o := by obtain ⟨o, es, ep, ho, hd, hk, hf⟩ := hn; exact ⟨o, ho⟩

theorem Heap_Ns_dict {h : Heap} {a : Addr} {m : Str → Option Value} (hn : h.Ns a m) : ∃ o es n, h.get? a = some o ∧ o.data = .dict es n := by obtain ⟨o, es, ep, ho, hd, hk, hf⟩ := hn; exact ⟨o, _, _, ho, hd⟩

theorem Fra.step {env : Env} {st st' : St} {ρ ρ' : List Addr} {s s' : Shared} (F : Fra γ env st ρ s) (S : Stp ρ st.H s ρ' st'.H s') (e : st'.s = st.s) : Fra γ env st' ρ' s' := by
  obtain ⟨m, hm, hv⟩ := F.ns
  obtain ⟨oL, hoL⟩ := Heap_Ns_get hm
  refine ⟨F.kind, F.glob, F.blt, S.kep.notLive hoL F.nl, F.own, ⟨m, Heap_Ns_alike hm fun o ho => S.kep.keep _ o ho F.nl, fun x v k kz q => ?_⟩, fun x k => ?_, F.apart, F.nb, F.nbc⟩
  · obtain ⟨mv, e1, e2⟩ := hv x v k kz (e ▸ q)
    exact ⟨mv, e1, e2.kept S.kept⟩
  · obtain ⟨c, ov, h1, h2, ⟨oc, hoc, hdc⟩, h4⟩ := F.cell x k
    refine ⟨c, ov, h1, ⟨S.kep.notLive hoc h2.1, h2.2⟩, ⟨oc, S.kep.same hoc h2.1 (fun es n q => by rw [hdc] at q; cases q), hdc⟩, fun y hy v q => ?_⟩
    obtain ⟨mv, e1, e2⟩ := h4 y hy v (e ▸ q)
    exact ⟨mv, e1, e2.kept S.kept⟩

structure Room (k : Nat) (A : Around) (γ : Gh) : Prop where
  depth : A.depth + k < 900
  units : A.units + 4 * k < 9000
  hdl : ∀ v, A.handled = some v → ∃ e, v = .ref e ∧ γ.e e
  frs : ∃ l, A.frames = some l ∧ ∀ env ∈ l, env.scope.kind ≠ .module ∧ ∃ L, env.frame = some L ∧ γ.f L

theorem Room.mono {k j : Nat} {A : Around} (r : Room k A γ) (h : j ≤ k) : Room j A γ := ⟨by have := r.depth; omega, by have := r.units; omega, r.hdl, r.frs⟩
theorem Room.more {k : Nat} {A : Around} {γ' : Gh} (r : Room k A γ) (h : ∀ a, γ.f a → γ'.f a) (he : ∀ a, γ.e a → γ'.e a) : Room k A γ' :=
  ⟨r.depth, r.units, (fun v q => let ⟨e, h1, h2⟩ := r.hdl v q; ⟨e, h1, he e h2⟩), let ⟨l, h1, h2⟩ := r.frs; ⟨l, h1, fun env he => let ⟨a, L, b, c⟩ := h2 env he; ⟨a, L, b, h L c⟩⟩⟩
theorem Room.deeper {k : Nat} {A : Around} {γ' : Gh} (r : Room (k + 1) A γ) (env : Env) (hf : ∀ a, γ.f a → γ'.f a) (he : ∀ a, γ.e a → γ'.e a) (hk : env.scope.kind ≠ .module) {L : Addr} (hL : env.frame = some L) (hfL : γ'.f L) : Room k (A.deeper env) γ' :=
  ⟨by have := r.depth; show A.depth + 1 + k < 900; omega, by have := r.units; show A.units + 3 + 4 * k < 9000; omega, (fun v q => let ⟨e, h1, h2⟩ := r.hdl v q; ⟨e, h1, he e h2⟩), by
    obtain ⟨l, h1, h2⟩ := r.frs
    refine ⟨env :: l, Around.frames_deeper h1, fun e he => ?_⟩
    rcases List.mem_cons.mp he with rfl | he
    · exact ⟨hk, L, hL, hfL⟩
    · obtain ⟨a, L, b, c⟩ := h2 e he
      exact ⟨a, L, b, hf L c⟩⟩

/-- an exception and its trace, as they stand: no context -/
noncomputable def ExcAt (h : Heap) (e T cls : Addr) (fl : Value) : Prop := ∃ oe vs oT ts, h.get? e = some oe ∧ (oe.cls = .ref cls ∧ oe.dict = none ∧ oe.data = .fields vs) ∧ (vs[1]? = some (.ref T) ∧ vs[2]? = some .none) ∧ T ≠ e ∧ h.get? T = some oT ∧ oT.data = .fields ts ∧ ts[3]? = some fl
noncomputable def ExcIs (C : Cx) (b : Heap) (s' : Shared) (ev : Value) (c : String) : Prop := ∃ e cls T, ev = .ref e ∧ (c ∈ C.exs ∧ C.mg c = some (.ref cls)) ∧ b.get? e = none ∧ b.get? T = none ∧ ExcAt s'.heap e T cls .none
noncomputable def RawIs (C : Cx) (b : Heap) (s' : Shared) (ev : Value) (c : String) : Prop := ∃ e cls t, ev = .ref e ∧ (c ∈ C.exs ∧ C.mg c = some (.ref cls)) ∧ b.get? e = none ∧ s'.heap.get? e = some { cls := .ref cls, data := .fields #[.ref t, .none, .none, .none, .bool false, .none] }
theorem ExcIs.back {C : Cx} {b b' : Heap} {s' : Shared} {ev : Value} {c : String} (h : ∀ a, b'.get? a = none → b.get? a = none) (x : ExcIs C b' s' ev c) : ExcIs C b s' ev c := by
  obtain ⟨e, cls, T, h1, h2, h3, h4, h5⟩ := x
  exact ⟨e, cls, T, h1, h2, h e h3, h T h4, h5⟩
theorem RawIs.back {C : Cx} {b b' : Heap} {s' : Shared} {ev : Value} {c : String} (h : ∀ a, b'.get? a = none → b.get? a = none) (x : RawIs C b' s' ev c) : RawIs C b s' ev c := by
  obtain ⟨e, cls, t, h1, h2, h3, h4⟩ := x
  exact ⟨e, cls, t, h1, h2, h e h3, h4⟩
theorem Stp.back {C : Cx} {ρ ρ₁ : List Addr} {H H₁ : List HO} {s s₁ : Shared} (S : Stp ρ H s ρ₁ H₁ s₁) (I : Inv C γ ρ₁ H₁ s₁) (a : Addr) (h : s₁.heap.get? a = none) : s.heap.get? a = none := by
  cases e : s.heap.get? a with
  | none => rfl
  | some o =>
    exfalso
    by_cases q : Lv ρ H a
    · obtain ⟨i, _, q1, _⟩ := q
      obtain ⟨o', e'⟩ := I.there a (List.mem_of_getElem? (S.kep.pre i a q1))
      rw [h] at e'; cases e'
    · obtain ⟨o', e', _⟩ := S.kep.keep a o e q
      rw [h] at e'; cases e'

noncomputable def Post (C : Cx) (γ : Gh) (ρ : List Addr) (st : St) (s : Shared) (Q : V → St → Prop) (mv : Value) (s' : Shared) : Prop :=
  ∃ v st' ρ', Q v st' ∧ st'.s = st.s ∧ Rel s'.heap ρ' (Nl γ ρ' st'.H) v mv ∧ Inv C γ ρ' st'.H s' ∧ Stp ρ st.H s ρ' st'.H s'
noncomputable def PostX (C : Cx) (γ : Gh) (ρ : List Addr) (st : St) (s : Shared) (X : String → St → Prop) (ev : Value) (s' : Shared) : Prop :=
  ∃ c st' ρ', X c st' ∧ st'.s = st.s ∧ ExcIs C s.heap s' ev c ∧ Inv C γ ρ' st'.H s' ∧ Stp ρ st.H s ρ' st'.H s'

theorem PostX.step {C : Cx} {ρ ρ₁ : List Addr} {st st₁ : St} {s s₁ : Shared} {X : String → St → Prop} {ev : Value} {s' : Shared} (I : Inv C γ ρ₁ st₁.H s₁) (S : Stp ρ st.H s ρ₁ st₁.H s₁) (e : st₁.s = st.s) (p : PostX C γ ρ₁ st₁ s₁ X ev s') : PostX C γ ρ st s X ev s' := by
  obtain ⟨c, st', ρ', h1, h2, h3, h4, h5⟩ := p
  exact ⟨c, st', ρ', h1, h2.trans e, h3.back (S.back I), h4, S.trans h5⟩
theorem Post.step {C : Cx} {ρ ρ₁ : List Addr} {st st₁ : St} {s s₁ : Shared} {Q : V → St → Prop} {mv : Value} {s' : Shared} (S : Stp ρ st.H s ρ₁ st₁.H s₁) (e : st₁.s = st.s) (p : Post C γ ρ₁ st₁ s₁ Q mv s') : Post C γ ρ st s Q mv s' := by
  obtain ⟨v, st', ρ', h1, h2, h3, h4, h5⟩ := p
  exact ⟨v, st', ρ', h1, h2.trans e, h3, h4, S.trans h5⟩

/-- what a call of a def of the text does -/
noncomputable def Calls (C : Cx) (k : Nat) : Orc := fun f args H r H' => ∀ (A : Around) (s : Shared) (γ : Gh) (ρ : List Addr) (ms : List Value) (fa : Addr), Room k A γ → Inv C γ ρ H s → RelL s.heap ρ (Nl γ ρ H) args ms → C.mg f = some (.ref fa) →
  codeAny C.M A (.call (.ref fa) ⟨ms, []⟩) (fun res s' => match r, res with
    | .ok v, .ok (.ret mv) => ∃ ρ', Rel s'.heap ρ' (Nl γ ρ' H') v mv ∧ Inv C γ ρ' H' s' ∧ Stp ρ H s ρ' H' s'
    | .err c, .error ev => ∃ ρ', ExcIs C s.heap s' ev c ∧ Inv C γ ρ' H' s' ∧ Stp ρ H s ρ' H' s'
    | _, _ => False) s

theorem Calls.mono {C : Cx} {k j : Nat} {f : String} {args : List V} {H H' : List HO} {r : R} (x : Calls C k f args H r H') (h : k ≤ j) : Calls C j f args H r H' :=
  fun A s γ ρ ms fa hr => x A s γ ρ ms fa (hr.mono h)

end
end
end Mine
set_option autoImplicit false
set_option genInjectivity false
set_option genSizeOf false
namespace Mine
noncomputable section
open PySem PyProof.Rows
variable {γ : Gh}

theorem sizeLine_is : sizeLine = maxLen := rfl
/-- a value comes back, the heap stays -/
noncomputable def Same (s : Shared) (P : Value → Prop) (mv : Value) (s' : Shared) : Prop := P mv ∧ ∃ tk, s' = { s with toks := tk }
theorem Same.now {s : Shared} {P : Value → Prop} {mv : Value} (h : P mv) : Same s P mv s := ⟨h, s.toks, rfl⟩

section
variable {prog : Program} {w : World} {A : Around} {E : Value → Shared → Prop} {s : Shared} {ρ : List Addr} {N : Addr → Prop}

theorem str_len (a : List Nat) : ((⟨a.toArray⟩ : Str)).length = a.length := by rw [Str.length, List.size_toArray]
theorem str_append_lists (a b : List Nat) : (⟨a.toArray⟩ : Str) ++ (⟨b.toArray⟩ : Str) = ⟨(a ++ b).toArray⟩ := by
  show Str.append _ _ = _
  simp [Str.append]
theorem prim_bin {op : Operator} {va vb v : V} {ma mb : Value} (e : Bin op va vb v) (ra : Rel s.heap ρ N va ma) (rb : Rel s.heap ρ N vb mb) :
    wpAny (model prog w) A (binaryOp op ma mb) (Same s fun mv => Rel s.heap ρ N v mv) E s := by
  cases e with
  | add a b =>
    obtain ⟨t, rfl⟩ := ra.int_inv
    obtain ⟨u, rfl⟩ := rb.int_inv
    exact P.add_int ⟨.int _ _, _, rfl⟩
  | sub a b =>
    obtain ⟨t, rfl⟩ := ra.int_inv
    obtain ⟨u, rfl⟩ := rb.int_inv
    exact P.sub_int ⟨.int _ _, _, rfl⟩
  | mul h =>
    obtain ⟨t, rfl⟩ := ra.int_inv
    obtain ⟨u, rfl⟩ := rb.int_inv
    refine P.mul_int ⟨.int _ _, _, rfl⟩ ?_
    rcases h with h | h
    · exact IntMulOk.of_left (intBits_le_64 (by omega) (by omega))
    · exact IntMulOk.of_right (intBits_le_64 (by omega) (by omega))
  | div h0 h1 =>
    obtain ⟨t, rfl⟩ := ra.int_inv
    obtain ⟨u, rfl⟩ := rb.int_inv
    exact floordiv_int (fun q => by rw [q] at h0; cases h0) ⟨by rw [Int.fdiv_eq_ediv_of_nonneg _ (Int.le_of_lt h0)]; exact .int _ _, _, rfl⟩ (.inl (PyProof.noPylong_small (by omega)))
  | mod h0 =>
    obtain ⟨t, rfl⟩ := ra.int_inv
    obtain ⟨u, rfl⟩ := rb.int_inv
    exact mod_int' (fun q => by rw [q] at h0; cases h0) ⟨by rw [Int.fmod_eq_emod_of_nonneg _ (Int.le_of_lt h0)]; exact .int _ _, _, rfl⟩
  | pow h0 h1 h2 =>
    obtain ⟨t, rfl⟩ := ra.int_inv
    obtain ⟨u, rfl⟩ := rb.int_inv
    exact pow_int_small h0 (by omega) (by omega) ⟨.int _ _, _, rfl⟩
  | @cat a b hs =>
    obtain ⟨t, rfl, ha, ha'⟩ := ra.str_inv
    obtain ⟨u, rfl, hb, hb'⟩ := rb.str_inv
    have fits : (a ++ b).length ≤ maxLen := by rw [List.length_append]; unfold maxLen; omega
    have all : ∀ c ∈ a ++ b, c < 128 := fun c hc => (List.mem_append.mp hc).elim (ha' c) (hb' c)
    refine P.add_str ?_
    rw [str_len, str_len]
    by_cases h0 : (a.length == 0) = true
    · rw [if_pos h0]
      obtain rfl : a = [] := List.eq_nil_of_length_eq_zero (beq_iff_eq.mp h0)
      exact .now (.str _ fits all)
    · rw [if_neg h0]
      by_cases h1 : (b.length == 0) = true
      · rw [if_pos h1]
        obtain rfl : b = [] := List.eq_nil_of_length_eq_zero (beq_iff_eq.mp h1)
        exact .now (by rw [List.append_nil]; exact .str _ ha ha')
      · rw [if_neg h1]
        rw [str_append_lists]
        refine ⟨by rw [str_len]; exact fits, ?_⟩
        exact ⟨.str _ fits all, _, rfl⟩
end
end
end Mine
set_option autoImplicit false
set_option genInjectivity false
set_option genSizeOf false
namespace Mine
noncomputable section
open PySem PyProof.Rows PySem.Spec PySem.SeqAt Builtin.Str
variable {γ : Gh}

theorem Inv.view {C : Cx} {ρ : List Addr} {H : List HO} {s : Shared} (I : Inv C γ ρ H s) {v : V} {m : Value} {xs : List V} (r : Rel s.heap ρ (Nl γ ρ H) v m) (e : View H v xs) :
    ∃ a ms, m = .ref a ∧ s.heap.PlainList a ms.toArray ∧ RelL s.heap ρ (Nl γ ρ H) xs ms ∧ xs.length ≤ maxLen := by
  cases e with
  | lst _ =>
    obtain ⟨a, ms, rfl, h1, _, h2, h3⟩ := r.lst_inv
    exact ⟨a, ms, rfl, h1, h3, h2⟩
  | loc h =>
    obtain ⟨a, rfl, ha⟩ := r.loc_inv
    obtain ⟨ms, h1, h2, h3⟩ := I.obj _ _ _ ha h
    exact ⟨a, ms, rfl, h1, h2, h3⟩

section
variable {prog : Program} {w : World} {A : Around} {E : Value → Shared → Prop} {s : Shared}

theorem subscripted_ops (slice : Expr) (o i : Value) : ∃ ops, subscripted slice false o i = operate ops (getItem o i) := by
  unfold subscripted
  split
  · exact ⟨_, rfl⟩
  · rename_i h; cases h
  · exact ⟨_, rfl⟩

theorem my_tail {value slice : Expr} {o i : Value} {T id : String} {Q : Value → Shared → Prop} (hT : s.TypeIs o T)
    (hl : typeLookup (.type T) "__getitem__" = pure (some (.builtin id))) (h : wpAny (model prog w) A (getItem o i) Q E s) : wpAny (model prog w) A (subscriptTail value slice o i) Q E s := by
  unfold subscriptTail
  refine wpAny_bind ?_
  rw [getitemInPython_of_ne hT.not_modules]
  refine wpAny_bind (wpAny_specialOf hT hl ?_)
  obtain ⟨ops, hs⟩ := subscripted_ops slice o i
  have fin : wpAny (model prog w) A (subscripted slice false o i) (fun r s₃ => wpAny (model prog w) A (letTemporaryGo value o r >>= fun _ => pure r) Q E s₃) E s := by
    rw [hs]
    exact wpAny_operating (wpAny_mono h (fun r s₃ h₃ => wpAny_bind (wpAny_letTemporaryGo (wpAny_pure h₃))) fun _ _ x => x)
  first
    | exact wpAny_pure (wpAny_bind fin)
    | exact wpAny_bind (wpAny_pure (wpAny_bind fin))
    | exact wpAny_bind fin

end

theorem Lv_snoc {ρ : List Addr} {H : List HO} {a b : Addr} {o : HO} (hl : ρ.length = H.length) (ho : o.isLive = true) : Lv (ρ ++ [a]) (H ++ [o]) b ↔ Lv ρ H b ∨ b = a := by
  constructor
  · rintro ⟨i, x, h1, h2, h3⟩
    rcases Nat.lt_trichotomy i ρ.length with h | h | h
    · rw [List.getElem?_append_left h] at h1
      rw [List.getElem?_append_left (hl ▸ h)] at h2
      exact .inl ⟨i, x, h1, h2, h3⟩
    · subst h
      simp at h1
      exact .inr h1.symm
    · have : (ρ ++ [a])[i]? = none := List.getElem?_eq_none (by rw [List.length_append, List.length_singleton]; omega)
      rw [this] at h1; cases h1
  · rintro (⟨i, x, h1, h2, h3⟩ | rfl)
    · refine ⟨i, x, ?_, ?_, h3⟩
      · rw [List.getElem?_append_left (List.getElem?_eq_some_iff.mp h1).1]; exact h1
      · rw [List.getElem?_append_left (List.getElem?_eq_some_iff.mp h2).1]; exact h2
    · exact ⟨ρ.length, o, by simp, by simp [hl], ho⟩

structure Grew (s s' : Shared) : Prop where
  keep : ∀ b o, s.heap.get? b = some o → s'.heap.get? b = some o
  gens : s'.gens = s.gens
  os : s'.os = s.os

theorem Grew.refl (s : Shared) : Grew s s := ⟨fun _ _ e => e, rfl, rfl⟩
theorem Grew.trans {a b c : Shared} (x : Grew a b) (y : Grew b c) : Grew a c := ⟨fun _ _ e => y.keep _ _ (x.keep _ _ e), y.gens.trans x.gens, y.os.trans x.os⟩
theorem Grew.push (s : Shared) (o : Obj) (tk : Nat) : Grew s { s with heap := s.heap.push o, toks := tk } := ⟨fun _ _ e => Heap.get?_push_of_some _ e, rfl, rfl⟩
theorem Grew.toks (s : Shared) (tk : Nat) : Grew s { s with toks := tk } := ⟨fun _ _ e => e, rfl, rfl⟩
theorem Grew.stp {ρ : List Addr} {H : List HO} {s s' : Shared} (g : Grew s s') : Stp ρ H s ρ H s' := .of_keep g.keep
theorem Grew.inv {C : Cx} {ρ : List Addr} {H : List HO} {s s' : Shared} (g : Grew s s') (I : Inv C γ ρ H s) : Inv C γ ρ H s' := I.of_keep g.keep g.gens g.os

theorem Inv.none_above {C : Cx} {ρ : List Addr} {H : List HO} {s : Shared} (I : Inv C γ ρ H s) {a : Addr} (h : s.heap.get? a = none) : C.base.get? a = none := by
  cases e : C.base.get? a with
  | none => rfl
  | some o => rw [I.base _ _ e] at h; cases h
theorem Inv.not_live {C : Cx} {ρ : List Addr} {H : List HO} {s : Shared} (I : Inv C γ ρ H s) {a : Addr} (h : s.heap.get? a = none) : ¬ Nl γ ρ H a := fun q => by
  rcases q with q | q
  case inr => obtain ⟨o, e⟩ := I.held a q; rw [h] at e; cases e
  obtain ⟨i, o, h1, _, _⟩ := q
  obtain ⟨o, e⟩ := I.there _ (List.mem_of_getElem? h1)
  rw [h] at e; cases e
theorem get_size (h : Heap) : h.get? h.objs.size = none := by
  cases e : h.get? h.objs.size with
  | none => rfl
  | some o => exact absurd (Heap.lt_size e) (Nat.lt_irrefl _)

theorem kept_snoc {C : Cx} {ρ : List Addr} {H : List HO} {s s' : Shared} (I : Inv C γ ρ H s) (g : Grew s s') {a : Addr} {o : HO} (ha : s.heap.get? a = none) (ho : o.isLive = true) :
    Kept s.heap ρ (Lv ρ H) s'.heap (ρ ++ [a]) (Lv (ρ ++ [a]) (H ++ [o])) :=
  ⟨fun _ x e _ => ⟨x, g.keep _ _ e, .refl x⟩, fun b e => ((Lv_snoc I.len ho).mp e).imp id fun (q : b = a) => by rw [q]; exact ha, fun i b e => by rw [List.getElem?_append_left (List.getElem?_eq_some_iff.mp e).1]; exact e⟩

theorem Inv.snoc {C : Cx} {ρ : List Addr} {H : List HO} {s s' : Shared} (I : Inv C γ ρ H s) (g : Grew s s') {a : Addr} {o : HO} (ha : s.heap.get? a = none) (ha' : ∃ x, s'.heap.get? a = some x) (ho : o.isLive = true)
    (r : ORel C s'.heap (ρ ++ [a]) (Nl γ (ρ ++ [a]) (H ++ [o])) o a) : Inv C γ (ρ ++ [a]) (H ++ [o]) s' ∧ Stp ρ H s (ρ ++ [a]) (H ++ [o]) s' := by
  have k := kept_snoc I g (o := o) ha ho
  refine ⟨⟨fun b x e => g.keep _ _ (I.base b x e), by simp [I.len], ?_, ?_, ?_, ?_, ?_, ?_, fun b q => (let ⟨o, e⟩ := I.held b q; ⟨o, g.keep _ _ e⟩), I.off, (fun b q => let ⟨o, es, n, e, d⟩ := I.frm b q; ⟨o, es, n, g.keep _ _ e, d⟩), I.hdl' k, (fun z => by simp at z), g.gens.trans I.gens, g.os.trans I.os⟩, ⟨k⟩⟩
  · refine List.nodup_append.mpr ⟨I.nodup, by simp, fun x hx y hy q => ?_⟩
    obtain ⟨z, hz⟩ := I.there x hx
    simp at hy; subst hy; subst q
    rw [ha] at hz; cases hz
  · intro b hb
    rcases List.mem_append.mp hb with h | h
    · exact I.fresh b h
    · simp at h; subst h; exact I.none_above ha
  · intro b hb
    rcases List.mem_append.mp hb with h | h
    · obtain ⟨z, hz⟩ := I.there b h; exact ⟨z, g.keep _ _ hz⟩
    · simp at h; subst h; exact ha'
  · intro i b x e1 e2
    rcases Nat.lt_trichotomy i ρ.length with h | h | h
    · rw [List.getElem?_append_left h] at e1
      rw [List.getElem?_append_left (I.len ▸ h)] at e2
      exact (I.obj i b x e1 e2).kept k.gh fun y hy => g.keep _ _ hy
    · subst h
      rw [List.getElem?_append_right (Nat.le_refl _)] at e1
      rw [I.len, List.getElem?_append_right (Nat.le_refl _)] at e2
      simp at e1 e2
      subst e1; subst e2
      exact r
    · have : (ρ ++ [a])[i]? = none := List.getElem?_eq_none (by rw [List.length_append, List.length_singleton]; omega)
      rw [this] at e1; cases e1
  · intro b hb q
    rcases List.mem_append.mp hb with h | h
    · exact I.apart b h q
    · simp at h; subst h; obtain ⟨o, e⟩ := I.held _ q; rw [ha] at e; cases e
  · intro i b o' e1 q e2
    rcases Nat.lt_trichotomy i ρ.length with h | h | h
    · rw [List.getElem?_append_left h] at e1
      rw [List.getElem?_append_left (I.len ▸ h)] at e2
      exact I.bor i b o' e1 q e2
    · subst h
      rw [List.getElem?_append_right (Nat.le_refl _), Nat.sub_self] at e1
      cases e1
      obtain ⟨o, e⟩ := I.held _ (γ.bh _ q); rw [ha] at e; cases e
    · rw [List.getElem?_eq_none (by rw [List.length_append, List.length_singleton]; omega)] at e1; cases e1

/-- a new list has come -/
noncomputable def NewList (s : Shared) (ρ : List Addr) (N : Addr → Prop) (vs : List V) (mv : Value) (s' : Shared) : Prop :=
  ∃ a ms, mv = .ref a ∧ s.heap.get? a = none ∧ Grew s s' ∧ s'.heap.PlainList a ms.toArray ∧ RelL s.heap ρ N vs ms ∧ vs.length ≤ maxLen

theorem IsList_there {h : Heap} {a : Addr} {xs : Array Value} (x : h.PlainList a xs) : ∃ o, h.get? a = some o := let ⟨_, ho⟩ := x; ⟨_, ho⟩

theorem NewList.post {C : Cx} {ρ : List Addr} {st : St} {s s' : Shared} {vs : List V} {Q : V → St → Prop} {mv : Value} (I : Inv C γ ρ st.H s) (h : newL vs st Q) (n : NewList s ρ (Nl γ ρ st.H) vs mv s') : Post C γ ρ st s Q mv s' := by
  obtain ⟨a, ms, rfl, ha, g, hl, hr, hlen⟩ := n
  rcases h with h | h
  · exact ⟨_, st, ρ, h, rfl, .lst hl (I.not_live ha) hlen (hr.kept g.stp.kept), g.inv I, g.stp⟩
  · have k := kept_snoc I g (o := .list vs) ha rfl
    obtain ⟨I', S'⟩ := I.snoc g (o := .list vs) ha (IsList_there hl) rfl ⟨ms, hl, hr.kept k.gh, hlen⟩
    exact ⟨_, _, ρ ++ [a], h, rfl, .loc (by rw [← I.len]; simp), I', S'⟩

theorem Same.post {C : Cx} {ρ : List Addr} {st : St} {s s' : Shared} {v : V} {Q : V → St → Prop} {mv : Value} (I : Inv C γ ρ st.H s) (h : Q v st) (n : Same s (fun mv => Rel s.heap ρ (Nl γ ρ st.H) v mv) mv s') : Post C γ ρ st s Q mv s' := by
  obtain ⟨r, tk, rfl⟩ := n
  exact ⟨v, st, ρ, h, rfl, r, (Grew.toks s tk).inv I, (Grew.toks s tk).stp⟩

section
variable {C : Cx} {A : Around} {E : Value → Shared → Prop} {s : Shared} {ρ : List Addr} {N : Addr → Prop} {H : List HO}

theorem prim_newList {vs : List V} {ms : List Value} (r : RelL s.heap ρ N vs ms) (hlen : vs.length ≤ maxLen) : wpAny C.M A (newList ms) (NewList s ρ N vs) E s := by
  unfold newList
  refine wpAny_newObj_type ?_ ?_
  · exact ⟨_, ms, rfl, get_size _, Grew.push s _ s.toks, ⟨_, Heap.get?_push_size _ rfl⟩, r, hlen⟩
  · show ms.toArray.size ≤ sizeLine
    rw [sizeLine_is, List.size_toArray, ← r.length]; exact hlen

theorem prim_newTuple {vs : List V} {ms : List Value} (I : Inv C γ ρ H s) (r : RelL s.heap ρ (Nl γ ρ H) vs ms) (hlen : vs.length ≤ maxLen) :
    wpAny C.M A (newTuple ms) (fun mv s' => Rel s'.heap ρ (Nl γ ρ H) (.tup vs) mv ∧ Grew s s') E s := by
  unfold newTuple
  refine wpAny_newObj_type ?_ ?_
  · have g := Grew.push s { cls := .type "tuple", data := .seq ms.toArray } s.toks
    exact ⟨.tup ⟨_, Heap.get?_push_size _ rfl, rfl, _, rfl⟩ (I.not_live (get_size _)) hlen (r.kept g.stp.kept), g⟩
  · show ms.toArray.size ≤ sizeLine
    rw [sizeLine_is, List.size_toArray, ← r.length]; exact hlen

theorem prim_listOf {vs : List V} {a : Addr} {ms : List Value} (hl : s.heap.PlainList a ms.toArray) (r : RelL s.heap ρ N vs ms) (hlen : vs.length ≤ maxLen) : wpAny C.M A (call (.type "list") [.ref a]) (NewList s ρ N vs) E s := by
  obtain ⟨o, ho, hc, n, hd⟩ := hl.isList
  refine call_list_seq (hsz := by rw [sizeLine_is, List.size_toArray, ← r.length]; exact hlen) a (.inl rfl) ho hc hd fun h' c' hk hD => ?_
  · exact ⟨_, ms, rfl, get_size _, ⟨hk, rfl, rfl⟩, ⟨c', hD⟩, r, hlen⟩
theorem prim_cat {a b : Addr} {xs ys : List V} {ms ns : List Value} (hl : s.heap.PlainList a ms.toArray) (hb : s.heap.PlainList b ns.toArray) (r : RelL s.heap ρ N xs ms) (q : RelL s.heap ρ N ys ns) (hlen : xs.length + ys.length ≤ 16000000) :
    wpAny C.M A (binaryOp .Add (.ref a) (.ref b)) (NewList s ρ N (xs ++ ys)) E s := by
  obtain ⟨n, ho⟩ := hl
  obtain ⟨n2, ho2⟩ := hb
  have e : ms.toArray ++ ns.toArray = (ms ++ ns).toArray := by simp
  refine concat_meets ⟨_, ho, rfl⟩ ⟨_, ho2, rfl⟩ noFill_list_add seq_list_add PySem.F.slot_list_add PySem.F.entry_list_add (PySem.F.args_list_add_2 _ _)
    (list_addW a b ms.toArray ns.toArray n n2 none none #[] #[] ?_) ⟨ho, ho2, ?_⟩
  · rw [sizeLine_is]; simp only [List.size_toArray, ← r.length, ← q.length, maxLen]; omega
  · rw [e]
    exact ⟨_, ms ++ ns, rfl, get_size _, Grew.push s _ s.toks, ⟨_, Heap.get?_push_size _ rfl⟩, r.append q, by simp only [List.length_append, maxLen]; omega⟩

theorem prim_range1 {n : Int} {t : Tok} (I : Inv C γ ρ H s) : wpAny C.M A (call (.type "range") [.int n t]) (fun mv s' => Rel s'.heap ρ (Nl γ ρ H) (.rng 0 n 1) mv ∧ Grew s s') E s :=
  call_range_1 ⟨.rng (IsRange.new ..) (I.not_live (get_size _)), Grew.push s _ _⟩
theorem prim_range2 {a b : Int} {t u : Tok} (I : Inv C γ ρ H s) : wpAny C.M A (call (.type "range") [.int a t, .int b u]) (fun mv s' => Rel s'.heap ρ (Nl γ ρ H) (.rng a b 1) mv ∧ Grew s s') E s :=
  call_range_2 ⟨.rng (IsRange.new ..) (I.not_live (get_size _)), Grew.push s _ _⟩
theorem prim_range3 {a b c : Int} {t u v : Tok} (I : Inv C γ ρ H s) (hc : 0 < c) (hc' : c < 2 ^ 29) : wpAny C.M A (call (.type "range") [.int a t, .int b u, .int c v]) (fun mv s' => Rel s'.heap ρ (Nl γ ρ H) (.rng a b c) mv ∧ Grew s s') E s :=
  call_range_3 (by omega) ⟨.rng (IsRange.new ..) (I.not_live (get_size _)), Grew.push s _ _⟩ (.inl (PyProof.noPylong_small (by omega)))
end


section
variable {C : Cx} {A : Around} {E : Value → Shared → Prop} {s : Shared} {ρ : List Addr} {H : List HO}

theorem seqIndex_nat {k : Int} {n : Nat} (h0 : 0 ≤ k) (h : k.toNat < n) : seqIndex? k n = some k.toNat := by
  unfold seqIndex?
  have h1 : ¬ k < 0 := by omega
  simp only [h1, if_false]
  simp
  omega
theorem small {xs : List V} {i : Int} {x : V} (hl : xs.length ≤ maxLen) (he : xs[i.toNat]? = some x) : i < 2 ^ 63 := by
  have := (List.getElem?_eq_some_iff.mp he).1
  unfold maxLen at hl; omega
theorem prim_idx {value slice : Expr} {va vi v : V} {ma mi : Value} (I : Inv C γ ρ H s) (e : Idx H va vi v) (ra : Rel s.heap ρ (Nl γ ρ H) va ma) (ri : Rel s.heap ρ (Nl γ ρ H) vi mi) :
    wpAny C.M A (subscriptTail value slice ma mi) (Same s fun mv => Rel s.heap ρ (Nl γ ρ H) v mv) E s := by
  obtain ⟨i, u, rfl, rfl⟩ : ∃ i u, vi = .int i ∧ mi = .int i u := by cases e <;> exact let ⟨t, h⟩ := ri.int_inv; ⟨_, t, rfl, h⟩
  cases e with
  | seq w h0 hx =>
    obtain ⟨a, ms, rfl, hl, hr, hlen⟩ := I.view ra w
    obtain ⟨m, hm, hrm⟩ := hr.get hx
    exact my_tail hl.isList.typeIs slot_list_getitem.lookup (wpAny_getItem_list hl.isList h0 (small hlen hx) (by rw [List.getElem?_toArray]; exact hm) (.now hrm))
  | tup h0 hx =>
    obtain ⟨a, ms, rfl, hl, _, hlen, hr⟩ := ra.tup_inv
    obtain ⟨m, hm, hrm⟩ := hr.get hx
    exact my_tail (T := "tuple") (let ⟨o, ho, hc, _⟩ := hl; ⟨o, ho, hc⟩) slot_tuple_getitem.lookup (getItem_tuple (items := _) hl (Int.le_trans (by decide) h0) (small hlen hx) (j := i.toNat) (seqIndex_nat h0 (by rw [List.size_toArray]; exact (List.getElem?_eq_some_iff.mp hm).1)) (by rw [List.getElem?_toArray]; exact hm) (.now hrm))
  | @str cs c _ h0 hx =>
    obtain ⟨t, rfl, hlen, ha⟩ := ra.str_inv
    have hlt := (List.getElem?_eq_some_iff.mp hx).1
    refine my_tail (typeIs_str _ _ _) F.slot_str_getitem.lookup (P.getItem_str (c := c) ?_ ?_ ⟨?_, _, rfl⟩)
    · unfold maxLen at hlen; simp; omega
    · rw [str_len, seqIndex_nat h0 hlt]; simpa using hx
    · exact .str (cs := [c]) _ (show 1 ≤ 16777216 by decide) fun x hc => by rw [List.mem_singleton.mp hc]; exact ha c (List.mem_of_getElem? hx)

theorem prim_len {v : V} {n : Nat} {m : Value} (I : Inv C γ ρ H s) (e : LenR H v n) (q : Rel s.heap ρ (Nl γ ρ H) v m) :
    wpAny C.M A (call (.builtin "len") [m]) (Same s fun mv => Rel s.heap ρ (Nl γ ρ H) (.int n) mv) E s := by
  cases e with
  | str cs =>
    obtain ⟨t, rfl, hlen, _⟩ := q.str_inv
    exact P.len_str (by rw [str_len]; unfold maxLen at hlen; omega) ⟨by rw [str_len]; exact .int _ _, _, rfl⟩
  | tup vs =>
    obtain ⟨a, ms, rfl, hl, _, hlen, hr⟩ := q.tup_inv
    exact len_tuple hl (by rw [List.size_toArray, ← hr.length]; unfold maxLen at hlen; omega) ⟨by rw [List.size_toArray, ← hr.length]; exact .int _ _, _, rfl⟩
  | seq w =>
    obtain ⟨a, ms, rfl, hl, hr, hlen⟩ := I.view q w
    exact len_list hl.isList (by rw [List.size_toArray, ← hr.length]; unfold maxLen at hlen; omega) ⟨by rw [List.size_toArray, ← hr.length]; exact .int _ _, _, rfl⟩
end

noncomputable def tyNames : List String := ["int", "bool", "str", "list", "tuple"]
theorem meta_of {T : String} (h : T ∈ tyNames) : typeOf (.type T) = pure (.type "type") := by
  simp only [tyNames, List.mem_cons, List.not_mem_nil, or_false] at h
  rcases h with rfl | rfl | rfl | rfl | rfl
  · exact F.isi_meta_int
  · exact F.isi_meta_bool
  · exact F.isi_meta_str
  · exact F.isi_meta_list
  · exact F.isi_meta_tuple
theorem sub_of {X T : String} (hX : X ∈ ("NoneType" :: tyNames)) (h : T ∈ tyNames) : isSubtype (.type X) (.type T) = pure (subT X T) := by
  simp only [tyNames, List.mem_cons, List.not_mem_nil, or_false] at h hX
  rcases h with rfl | rfl | rfl | rfl | rfl <;> rcases hX with rfl | rfl | rfl | rfl | rfl | rfl <;> (rw [isSubtype_type]; kernel_rfl)


section
variable {C : Cx} {A : Around} {E : Value → Shared → Prop} {s : Shared} {ρ : List Addr} {H : List HO}

theorem ne_of_sub {X T : String} (h : subT X T = false) : (Value.type X == Value.type T) = false := by
  cases q : (Value.type X == Value.type T) with
  | false => rfl
  | true =>
    have e := beq_iff_eq.mp q
    injection e with e
    subst e
    simp [subT] at h
theorem prim_isi {v : V} {X T : String} {m : Value} (I : Inv C γ ρ H s) (hT : T ∈ tyNames) (e : Kind H v X) (r : Rel s.heap ρ (Nl γ ρ H) v m) :
    wpAny C.M A (call (.builtin "isinstance") [m, .type T]) (Same s fun mv => Rel s.heap ρ (Nl γ ρ H) (.bool (subT X T)) mv) E s := by
  have fin : X ∈ "NoneType" :: tyNames → s.TypeIs m X → (subT X T = false → wpAny C.M A (call (.builtin "isinstance") [m, .type T]) (Same s fun mv => Rel s.heap ρ (Nl γ ρ H) (.bool false) mv) E s) →
      wpAny C.M A (call (.builtin "isinstance") [m, .type T]) (Same s fun mv => Rel s.heap ρ (Nl γ ρ H) (.bool (subT X T)) mv) E s := fun hX hx no => by
    cases hb : subT X T with
    | true => exact call_isinstance (isinstance_true (Tx := X) (meta_of hT) (by rw [sub_of hX hT, hb])) ⟨hx, .now (.bool _)⟩
    | false => exact no hb
  cases e with
  | int i => obtain ⟨t, rfl⟩ := r.int_inv; exact fin (by decide) (typeIs_int ..) fun q => call_isinstance (isinstance_false_int (ne_of_sub q) (meta_of hT) (by rw [sub_of (by decide) hT, q])) (.now (.bool _))
  | bool b => obtain rfl := r.bool_inv; exact fin (by decide) rfl fun q => call_isinstance (isinstance_false_bool (ne_of_sub q) (meta_of hT) (by rw [sub_of (by decide) hT, q])) (.now (.bool _))
  | str cs => obtain ⟨t, rfl, _⟩ := r.str_inv; exact fin (by decide) (typeIs_str ..) fun q => call_isinstance (isinstance_false_str (ne_of_sub q) (meta_of hT) (by rw [sub_of (by decide) hT, q])) (.now (.bool _))
  | none => obtain rfl := r.none_inv; exact fin (by decide) rfl fun q => call_isinstance (isinstance_false_none (ne_of_sub q) (meta_of hT) (by rw [sub_of (by decide) hT, q])) (.now (.bool _))
  | tup vs =>
    obtain ⟨a, ms, rfl, ⟨o, ho, hc, _⟩, _⟩ := r.tup_inv
    exact fin (by decide) ⟨o, ho, hc⟩ fun q => call_isinstance (isinstance_false_tuple (ne_of_sub q) (meta_of hT) (by rw [sub_of (by decide) hT, q])) ⟨⟨o, ho, hc⟩, .now (.bool _)⟩
  | seq w =>
    obtain ⟨a, ms, rfl, hl, _⟩ := I.view r w
    obtain ⟨o, ho, hc, _⟩ := hl.isList
    exact fin (by decide) ⟨o, ho, hc⟩ fun q => call_isinstance (isinstance_false_list (ne_of_sub q) (meta_of hT) (by rw [sub_of (by decide) hT, q])) ⟨⟨o, ho, hc⟩, .now (.bool _)⟩

theorem prim_strInt {i : Int} {t : Tok} (h : i.natAbs < 10 ^ 100) : wpAny C.M A (call (.type "str") [.int i t]) (Same s fun mv => Rel s.heap ρ (Nl γ ρ H) (.str (digits i)) mv) E s := by
  have hl : i.natAbs.log2 < 1920 := by
    by_cases h0 : i.natAbs = 0
    · rw [h0]; decide
    · exact (Nat.log2_lt h0).mpr (Nat.lt_trans h (by decide +kernel))
  refine P.str_of_int hl ⟨?_, _, rfl⟩
  have e : Str.ofString (toString i) = ⟨(digits i).toArray⟩ := by rw [Str.ofString_eq_toList]; rfl
  rw [e]
  have fits := int_text_fits hl
  rw [e] at fits
  refine .str _ (by rw [← sizeLine_is]; simpa [Str.length] using fits) fun c hc => ?_
  unfold digits at hc
  obtain ⟨ch, hch, rfl⟩ := List.mem_map.mp hc
  exact int_ascii i ch hch

theorem prim_intBool {b : Bool} : wpAny C.M A (call (.type "int") [.bool b]) (Same s fun mv => Rel s.heap ρ (Nl γ ρ H) (.int (if b then 1 else 0)) mv) E s :=
  call_int_bool ⟨.int _ _, _, rfl⟩
end

theorem reads_both {h : Heap} {ρ : List Addr} {N : Addr → Prop} : (∀ {v : V} {m : Value}, Rel h ρ N v m → ∀ n : Nat, pl n v = true → (∃ as, Reads h m (toPy v) as) ∧ (toPy v).canLay0 = true ∧ (toPy v).depth ≤ n) ∧
    ∀ {vs : List V} {ms : List Value}, RelL h ρ N vs ms → ∀ n : Nat, vs.all (pl n) = true → (∃ as, ReadsAll h ms (toPys vs) as) ∧ PyData.canLayAll0 (toPys vs) = true ∧ PyData.depthAll (toPys vs) ≤ n :=
  Rel.both (fun n _ => ⟨⟨_, .none⟩, rfl, Nat.zero_le n⟩) (fun b n _ => ⟨⟨_, .bool b⟩, rfl, Nat.zero_le n⟩) (fun i t n _ => ⟨⟨_, .int i t⟩, rfl, Nat.zero_le n⟩)
    (fun {cs} t _ ha n _ => ⟨⟨_, .str _ t⟩, by
      simp only [toPy, PyData.canLay0, PyData.strOk]
      rw [← Array.all_toList]
      simp only [List.all_eq_true]
      intro c hc
      have := ha c hc
      simp; omega, Nat.zero_le n⟩)
    (fun ⟨o, ho, hc, _, hd⟩ _ _ r n e => by
      cases n with
      | zero => cases e
      | succ n => obtain ⟨⟨as, x⟩, h1, h2⟩ := r n e; exact ⟨⟨_, .tuple ho hc hd x⟩, h1, by simp only [toPy, PyData.depth]; omega⟩)
    (fun ⟨_, ho⟩ _ _ r n e => by
      cases n with
      | zero => cases e
      | succ n => obtain ⟨⟨as, x⟩, h1, h2⟩ := r n e; exact ⟨⟨_, .list ho rfl rfl x⟩, h1, by simp only [toPy, PyData.depth]; omega⟩)
    (fun _ _ n e => by cases n <;> cases e) (fun _ n e => by cases n <;> cases e) (fun n _ => ⟨⟨_, .nil⟩, rfl, Nat.zero_le n⟩) fun a r n e => by
      obtain ⟨e1, e2⟩ := Bool.and_eq_true_iff.mp e
      obtain ⟨⟨as, x⟩, a1, a2⟩ := a n e1
      obtain ⟨⟨bs, y⟩, r1, r2⟩ := r n e2
      refine ⟨⟨_, .cons x y⟩, ?_⟩
      simp only [toPys, PyData.canLayAll0, PyData.depthAll, a1, r1, Bool.and_self, true_and]
      omega

theorem deref_reads {C : Cx} {ρ : List Addr} {H : List HO} {s : Shared} (I : Inv C γ ρ H s) {v v' : V} {m : Value} (r : Rel s.heap ρ (Nl γ ρ H) v m) (d : Deref H v v') (e : pl 6 v' = true) : (∃ as, Reads s.heap m (toPy v') as) ∧ shaped (toPy v') = true := by
  cases d with
  | self _ =>
    obtain ⟨h1, h2, h3⟩ := reads_both.1 r 6 e
    exact ⟨h1, by rw [shaped, h2, Bool.true_and, decide_eq_true_eq]; omega⟩
  | loc h =>
    obtain ⟨a, ms, rfl, hl, hr, hlen⟩ := I.view r (.loc h)
    obtain ⟨o, ho, hc, k, hd⟩ := hl.isList
    obtain ⟨⟨as, x⟩, h1, h2⟩ := reads_both.2 hr 5 e
    refine ⟨⟨_, .list ho hc hd x⟩, ?_⟩
    simp only [shaped, toPy, PyData.canLay0, PyData.depth, h1, Bool.true_and, decide_eq_true_eq]; omega

theorem str_eq_lists (a b : List Nat) : ((⟨a.toArray⟩ : Str) == ⟨b.toArray⟩) = (a == b) := by
  rw [Bool.eq_iff_iff]
  simp

theorem any_int (i : Int) : ∀ ns : List Int, ((toPys (ns.map .int)).any fun y => PyData.eqv y (.int i)) = decide (i ∈ ns) ∧ (ns.map V.int).all (pl 1) = true
  | [] => ⟨rfl, rfl⟩
  | n :: ns => by
    refine ⟨?_, (any_int i ns).2⟩
    show ((n == i) || (toPys (ns.map .int)).any fun y => PyData.eqv y (.int i)) = _
    rw [(any_int i ns).1, Bool.eq_iff_iff]
    simp only [Bool.or_eq_true, beq_iff_eq, decide_eq_true_eq, List.mem_cons]
    exact ⟨fun h => h.imp Eq.symm id, fun h => h.imp Eq.symm id⟩
theorem any_str (t : List Nat) : ∀ ss : List (List Nat), ((toPys (ss.map .str)).any fun y => PyData.eqv y (.str ⟨t.toArray⟩)) = decide (t ∈ ss) ∧ (ss.map V.str).all (pl 1) = true
  | [] => ⟨rfl, rfl⟩
  | n :: ns => by
    refine ⟨?_, (any_str t ns).2⟩
    show (((⟨n.toArray⟩ : Str) == ⟨t.toArray⟩) || (toPys (ns.map .str)).any fun y => PyData.eqv y (.str ⟨t.toArray⟩)) = _
    rw [(any_str t ns).1, Bool.eq_iff_iff, str_eq_lists]
    simp only [Bool.or_eq_true, beq_iff_eq, decide_eq_true_eq, List.mem_cons]
    exact ⟨fun h => h.imp Eq.symm id, fun h => h.imp Eq.symm id⟩

section
variable {C : Cx} {A : Around} {E : Value → Shared → Prop} {s : Shared} {ρ : List Addr} {H : List HO}

theorem Rel.not_none {h : Heap} {N : Addr → Prop} {v : V} {m : Value} (r : Rel h ρ N v m) (hv : v ≠ .none) : m ≠ .none := by
  cases r <;> first | exact absurd rfl hv | (intro x; cases x)

theorem prim_in {va vb : V} {r : Bool} {ma mb : Value} (I : Inv C γ ρ H s) (hu : A.units + 65 < cLine) (e : InR H va vb r) (ra : Rel s.heap ρ (Nl γ ρ H) va ma) (rb : Rel s.heap ρ (Nl γ ρ H) vb mb) :
    (∀ Q : Value → Shared → Prop, Q (.bool r) s → wpAny C.M A (compareOp .In ma mb) Q E s) ∧ ∀ Q : Value → Shared → Prop, Q (.bool !r) s → wpAny C.M A (compareOp .NotIn ma mb) Q E s := by
  have go : ∀ {d : PyData} {xs : List V}, View H vb xs → xs.all (pl 1) = true → Reads s.heap ma d [] → d.canLay0 = true → d.depth = 0 → ((toPys xs).any fun y => PyData.eqv y d) = r →
      (∀ Q : Value → Shared → Prop, Q (.bool r) s → wpAny C.M A (compareOp .In ma mb) Q E s) ∧ ∀ Q : Value → Shared → Prop, Q (.bool !r) s → wpAny C.M A (compareOp .NotIn ma mb) Q E s := fun {d xs} w h2 rd hd d0 h1 => by
    obtain ⟨a, ms, rfl, hl, hr, hlen⟩ := I.view rb w
    obtain ⟨o, ho, hc, n, hdd⟩ := hl.isList
    obtain ⟨⟨as, x⟩, s1, s2⟩ := reads_both.2 hr 1 h2
    have room : A.units + 1 + min (PyData.depthAll (toPys xs)) d.depth < cLine := by rw [d0, Nat.min_zero]; omega
    exact ⟨fun Q hq => in_list_reads (.list ho hc hdd x) rd s1 hd room (by rw [h1]; exact hq), fun Q hq => notIn_list_reads (.list ho hc hdd x) rd s1 hd room (by rw [h1]; exact hq)⟩
  cases e with
  | @int i _ ns w => obtain ⟨t, rfl⟩ := ra.int_inv; exact go w (any_int i ns).2 (.int i t) rfl rfl (any_int i ns).1
  | sign c cs =>
    obtain ⟨t, rfl, _⟩ := ra.str_inv
    obtain ⟨u, rfl, _⟩ := rb.str_inv
    have q := StrLaws.found_one ⟨cs.toArray⟩ c
    exact ⟨fun Q hq => P.in_str (by rw [show (⟨[c].toArray⟩ : Str) = ⟨#[c]⟩ from rfl, q]; exact hq), fun Q hq => P.notIn_str (by rw [show (⟨[c].toArray⟩ : Str) = ⟨#[c]⟩ from rfl, q]; exact hq)⟩
  | @txt t _ ss w =>
    have := (reads_both.1 ra 1 rfl).2.1
    obtain ⟨u, rfl, _⟩ := ra.str_inv
    exact go w (any_str t ss).2 (.str _ u) this rfl (any_str t ss).1

theorem prim_cmp {op : CmpOp} {va vb : V} {r : Bool} {ma mb : Value} (I : Inv C γ ρ H s) (hu : A.units + 65 < cLine) (e : Cmp H op va vb r) (ra : Rel s.heap ρ (Nl γ ρ H) va ma) (rb : Rel s.heap ρ (Nl γ ρ H) vb mb) :
    wpAny C.M A (compareOp op ma mb) (fun mv s' => mv = .bool r ∧ s' = s) E s := by
  cases e with
  | lt a b => obtain ⟨t, rfl⟩ := ra.int_inv; obtain ⟨u, rfl⟩ := rb.int_inv; exact P.lt_int ⟨rfl, rfl⟩
  | le a b => obtain ⟨t, rfl⟩ := ra.int_inv; obtain ⟨u, rfl⟩ := rb.int_inv; exact P.le_int ⟨rfl, rfl⟩
  | gt a b => obtain ⟨t, rfl⟩ := ra.int_inv; obtain ⟨u, rfl⟩ := rb.int_inv; exact P.gt_int ⟨rfl, rfl⟩
  | ge a b => obtain ⟨t, rfl⟩ := ra.int_inv; obtain ⟨u, rfl⟩ := rb.int_inv; exact P.ge_int ⟨rfl, rfl⟩
  | geS a b =>
    obtain ⟨t, rfl, _⟩ := ra.str_inv; obtain ⟨u, rfl, _⟩ := rb.str_inv
    refine P.ge_str ⟨?_, rfl⟩
    show Value.bool (!decide (a < b)) = _
    rw [show (!decide (a < b)) = decide (b ≤ a) by rw [Bool.eq_iff_iff]; simp]
  | eq d1 d2 p1 p2 =>
    obtain ⟨⟨as, xa⟩, sa⟩ := deref_reads I ra d1 p1
    obtain ⟨⟨bs, xb⟩, sb⟩ := deref_reads I rb d2 p2
    exact eq_dataH xa xb sa sb (Nat.lt_of_succ_lt hu) ⟨rfl, rfl⟩
  | ne d1 d2 p1 p2 =>
    obtain ⟨⟨as, xa⟩, sa⟩ := deref_reads I ra d1 p1
    obtain ⟨⟨bs, xb⟩, sb⟩ := deref_reads I rb d2 p2
    exact ne_dataH xa xb sa sb (Nat.lt_of_succ_lt hu) ⟨rfl, rfl⟩
  | is h =>
    obtain rfl : mb = .none := by cases h <;> exact rb.none_inv
    cases h with
    | nn => rw [ra.none_inv]; exact is_none_none ⟨rfl, rfl⟩
    | xn h => exact is_none_ne (ra.not_none h) ⟨rfl, rfl⟩
  | isNot h =>
    obtain rfl : mb = .none := by cases h <;> exact rb.none_inv
    cases h with
    | nn => rw [ra.none_inv]; exact isnot_none_none ⟨rfl, rfl⟩
    | xn h => exact isnot_none_ne (ra.not_none h) ⟨rfl, rfl⟩
  | inn h => exact (prim_in I hu h ra rb).1 _ ⟨rfl, rfl⟩
  | nin h => exact (prim_in I hu h ra rb).2 _ ⟨rfl, rfl⟩
end

theorem clipAt_cut (n : Nat) (i : Int) : min (cut n i) n = clipAt n i := by
  have h := clipAt_cast n i
  unfold cut
  split at h <;> rename_i h1
  · rw [if_pos h1]; omega
  · rw [if_neg h1]; omega

theorem slice_cut {α : Type} (xs : List α) (lo hi : Nat) : slice xs lo hi = (xs.drop (min lo xs.length)).take (min hi xs.length - min lo xs.length) := by
  unfold slice
  rw [List.drop_take]
  rcases Nat.le_total lo xs.length with h | h
  · rw [Nat.min_eq_left h]
    rcases Nat.le_total hi xs.length with h' | h'
    · rw [Nat.min_eq_left h']
    · rw [Nat.min_eq_right h', List.take_of_length_le (by simp; omega), List.take_of_length_le (by simp)]
  · rw [Nat.min_eq_right h, List.drop_eq_nil_of_le h, List.drop_eq_nil_of_le (Nat.le_refl _)]
    simp


theorem slicePick_slice (ms : List Value) (lo hi : Option Int) : slicePick ms.toArray lo hi none = (slice ms (loOf ms.length lo) (hiOf ms.length hi)).toArray := by
  rw [slicePick_plain, slice_cut]
  simp only [List.size_toArray]
  congr 1
  have e1 : lo.elim 0 (clipAt ms.length) = min (loOf ms.length lo) ms.length := by
    cases lo with
    | none => simp [loOf]
    | some i => exact (clipAt_cut _ _).symm
  have e2 : hi.elim ms.length (clipAt ms.length) = min (hiOf ms.length hi) ms.length := by
    cases hi with
    | none => simp [hiOf]
    | some i => exact (clipAt_cut _ _).symm
  rw [e1, e2]

theorem picked_eq (cs : List Nat) (l u : Option (Int × Tok)) :
    slicePicked ⟨cs.toArray⟩ l u none = (List.range (min (hiOf cs.length (u.map (·.1))) cs.length - min (loOf cs.length (l.map (·.1))) cs.length)).map (min (loOf cs.length (l.map (·.1))) cs.length + ·) := by
  rw [← sliceRange_one]
  have hlen := str_len cs
  have c : ∀ i : Int, max 0 (min (if i < 0 then i + (cs.length : Int) else i) cs.length) = ((min (cut cs.length i) cs.length : Nat) : Int) := fun i => by rw [clipAt_cut, clipAt_cast]
  unfold slicePicked
  rw [hlen]
  show strSliceIndices _ _ 1 _ = _
  unfold strSliceIndices
  cases l <;> cases u <;> simp only [show ((1 : Int) > 0) = True from by simp, if_true, Option.map_none, Option.map_some, c, loOf, hiOf, Option.elim_none, Option.elim_some] <;> congr 1 <;> simp

theorem strPick_slice (cs : List Nat) (l u : Option (Int × Tok)) : (slicePicked ⟨cs.toArray⟩ l u none).filterMap (cs.toArray[·]?) = slice cs (loOf cs.length (l.map (·.1))) (hiOf cs.length (u.map (·.1))) := by
  rw [slice_cut, picked_eq, pick_run]

section
variable {C : Cx} {A : Around} {E : Value → Shared → Prop} {s : Shared} {ρ : List Addr} {H : List HO}

theorem len_slice_le {α : Type} (xs : List α) (lo hi : Nat) : (slice xs lo hi).length ≤ xs.length := by
  unfold slice; simp; omega
theorem mem_slice {α : Type} {xs : List α} {lo hi : Nat} {x : α} (h : x ∈ slice xs lo hi) : x ∈ xs := List.mem_of_mem_take (List.mem_of_mem_drop h)
theorem RelL.slice {h : Heap} {ρ : List Addr} {N : Addr → Prop} {vs : List V} {ms : List Value} (r : RelL h ρ N vs ms) (lo hi : Nat) : RelL h ρ N (Mine.slice vs lo hi) (Mine.slice ms lo hi) := (r.take hi).drop lo

/-- a part of a slice: not written, or an int -/
noncomputable def PartR (v : Option V) (m : Value) (i : Option Int) : Prop := (v = none ∧ m = .none ∧ i = none) ∨ ∃ k t, v = some (.int k) ∧ m = .int k t ∧ i = some k

theorem prim_slice_str {value slice : Expr} {cs : List Nat} {t : Tok} {vl vu : Option V} {ml mu : Value} {lo hi : Option Int} (hlen : cs.length ≤ maxLen) (ha : ∀ c ∈ cs, c < 128) (pl : PartR vl ml lo) (pu : PartR vu mu hi) :
    wpAny C.M A (subscriptTail value slice (.str ⟨cs.toArray⟩ t) (.ref s.heap.objs.size)) (fun mv s' => Rel s.heap ρ (Nl γ ρ H) (.str (Mine.slice cs (loOf cs.length lo) (hiOf cs.length hi))) mv ∧ Grew s s') E
      { s with heap := s.heap.push { cls := .type "slice", data := .fields #[ml, mu, .none] } } := by
  obtain ⟨l, e1, e2⟩ : ∃ l : Option (Int × Tok), ml = partValue l ∧ lo = l.map (·.1) := by
    rcases pl with ⟨_, rfl, rfl⟩ | ⟨k, t, _, rfl, rfl⟩
    · exact ⟨none, rfl, rfl⟩
    · exact ⟨some (k, t), rfl, rfl⟩
  obtain ⟨u, f1, f2⟩ : ∃ l : Option (Int × Tok), mu = partValue l ∧ hi = l.map (·.1) := by
    rcases pu with ⟨_, rfl, rfl⟩ | ⟨k, t, _, rfl, rfl⟩
    · exact ⟨none, rfl, rfl⟩
    · exact ⟨some (k, t), rfl, rfl⟩
  subst e1 e2 f1 f2
  refine my_tail (typeIs_str _ _ _) F.slot_str_getitem.lookup (wpAny_getItem_str_slice (l := l) (u := u) (st := none) ⟨_, Heap.get?_push_size _ rfl, rfl, rfl⟩ rfl ?_)
  have key := strPick_slice cs l u
  unfold sliceMade
  split
  · rename_i hc
    refine ⟨?_, Grew.push s _ s.toks⟩
    have hx := str_len cs
    simp only [Bool.and_eq_true, beq_iff_eq] at hc
    have : Mine.slice cs (loOf cs.length (l.map (·.1))) (hiOf cs.length (u.map (·.1))) = cs := by
      rw [← key]
      unfold Mine.slice at key
      have h2 := hc.2
      rw [hx] at h2
      have h3 : (slicePicked ⟨cs.toArray⟩ l u none).filterMap (cs.toArray[·]?) = cs := by
        rw [key]
        have hl : ((List.take (hiOf cs.length (u.map (·.1))) cs).drop (loOf cs.length (l.map (·.1)))).length = cs.length := by
          have k1 := picked_eq cs l u
          rw [k1, List.length_map, List.length_range] at h2
          have k2 := slice_cut cs (loOf cs.length (l.map (·.1))) (hiOf cs.length (u.map (·.1)))
          unfold Mine.slice at k2
          rw [k2, List.length_take, List.length_drop]
          omega
        have hs : ((List.take (hiOf cs.length (u.map (·.1))) cs).drop (loOf cs.length (l.map (·.1)))).Sublist cs := (List.drop_sublist _ _).trans (List.take_sublist _ _)
        exact hs.eq_of_length hl
      exact h3
    rw [this]
    exact .str _ hlen ha
  · refine ⟨?_, ?_, ?_⟩
    · show (((slicePicked ⟨cs.toArray⟩ l u none).filterMap (cs.toArray[·]?)).toArray).size ≤ sizeLine
      rw [key, sizeLine_is, List.size_toArray]
      exact Nat.le_trans (len_slice_le _ _ _) hlen
    · show Rel _ _ _ _ (Value.str ⟨((slicePicked ⟨cs.toArray⟩ l u none).filterMap (cs.toArray[·]?)).toArray⟩ _)
      rw [key]
      exact .str _ (Nat.le_trans (len_slice_le _ _ _) hlen) fun c hc => ha c (mem_slice hc)
    · exact Grew.push s _ _
end

section
variable {C : Cx} {A : Around} {E : Value → Shared → Prop} {s : Shared} {ρ : List Addr} {N : Addr → Prop} {H : List HO}

theorem prim_slice_list {value slice : Expr} {a : Addr} {xs : List V} {ms : List Value} {vl vu : Option V} {ml mu : Value} {lo hi : Option Int} (hl : s.heap.PlainList a ms.toArray) (r : RelL s.heap ρ N xs ms) (hlen : xs.length ≤ maxLen)
    (pl : PartR vl ml lo) (pu : PartR vu mu hi) :
    wpAny C.M A (subscriptTail value slice (.ref a) (.ref s.heap.objs.size)) (NewList s ρ N (Mine.slice xs (loOf xs.length lo) (hiOf xs.length hi))) E
      { s with heap := s.heap.push { cls := .type "slice", data := .fields #[ml, mu, .none] } } := by
  have il : IsPart ml lo := by
    rcases pl with ⟨_, rfl, rfl⟩ | ⟨k, t, _, rfl, rfl⟩
    · exact .none
    · exact .int k t
  have iu : IsPart mu hi := by
    rcases pu with ⟨_, rfl, rfl⟩ | ⟨k, t, _, rfl, rfl⟩
    · exact .none
    · exact .int k t
  refine my_tail (T := "list") (hl.isList.push _).typeIs slot_list_getitem.lookup (wpAny_getItem_list_slice (hl.isList.push _) (Heap.IsSliceOf.new ..) il iu .none (by simp) ?_ (by rw [sizeLine_is, List.size_toArray, ← r.length]; exact hlen))
  have g1 := Grew.push s { cls := .type "slice", data := .fields #[ml, mu, .none] } s.toks
  have g2 := Grew.push { s with heap := s.heap.push { cls := .type "slice", data := .fields #[ml, mu, .none] } } { cls := .type "list", data := .seq (slicePick ms.toArray lo hi none) } s.toks
  have hf : s.heap.get? (s.heap.push { cls := .type "slice", data := .fields #[ml, mu, .none] }).objs.size = none := by
    rw [Heap.size_push]
    cases e : s.heap.get? (s.heap.objs.size + 1) with
    | none => rfl
    | some o => exact absurd (Heap.lt_size e) (Nat.not_lt.mpr (Nat.le_succ _))
  refine ⟨_, Mine.slice ms (loOf ms.length lo) (hiOf ms.length hi), rfl, hf, g1.trans g2, ⟨0, ?_⟩, ?_, ?_⟩
  · rw [slicePick_slice]; exact Heap.get?_push_size _ rfl
  · rw [r.length]; exact r.slice _ _
  · exact Nat.le_trans (len_slice_le _ _ _) hlen

end
end
end Mine
set_option autoImplicit false
set_option genInjectivity false
set_option genSizeOf false
namespace Mine
noncomputable section
open PySem PyProof.Rows
variable {γ : Gh}

noncomputable def kd (sc : Scope) (x : String) : Option NameKind := sc.names.lookup (x : Str)
noncomputable def isVar (sc : Scope) (x : String) : Bool := kd sc x == some .local || kd sc x == some .cell || kd sc x == some .free
noncomputable def isGlo (sc : Scope) (x : String) : Bool := kd sc x == some .globalImplicit && !((x : Str) == ("__debug__" : Str))
noncomputable def isSetE : Expr → Bool
  | .Set .. => true
  | _ => false
/-- what may stand as an argument, and where a method is asked of -/
noncomputable def headOk (e : Expr) : Bool :=
  match e with
  | .Starred _ _ => false
  | .Call _ es _ _ => !es.isEmpty
  | _ => true
/-- where an evaluation stands: behind (ρ₀, st₀, s₀), in the frame `env` -/
structure At (C : Cx) (γ : Gh) (env : Env) (ρ₀ : List Addr) (st₀ : St) (s₀ : Shared) (ρ : List Addr) (st : St) (s : Shared) : Prop where
  inv : Inv C γ ρ st.H s
  fra : Fra γ env st ρ s
  stp : Stp ρ₀ st₀.H s₀ ρ st.H s
  same : st.s = st₀.s
theorem At.start {C : Cx} {env : Env} {ρ : List Addr} {st : St} {s : Shared} (I : Inv C γ ρ st.H s) (F : Fra γ env st ρ s) : At C γ env ρ st s ρ st s := ⟨I, F, .refl .., rfl⟩
section
variable {C : Cx} {env : Env} {ρ₀ : List Addr} {st₀ : St} {s₀ : Shared} {ρ : List Addr} {st : St} {s s' : Shared} {Q : V → St → Prop} {mv : Value}
theorem At.post {v : V} (a : At C γ env ρ₀ st₀ s₀ ρ st s) (h : Q v st) (r : Rel s.heap ρ (Nl γ ρ st.H) v mv) : Post C γ ρ₀ st₀ s₀ Q mv s := ⟨v, st, ρ, h, a.same, r, a.inv, a.stp⟩
theorem At.thenPost (a : At C γ env ρ₀ st₀ s₀ ρ st s) (p : Post C γ ρ st s Q mv s') : Post C γ ρ₀ st₀ s₀ Q mv s' := p.step a.stp a.same
theorem At.grew (a : At C γ env ρ₀ st₀ s₀ ρ st s) (g : Grew s s') : At C γ env ρ₀ st₀ s₀ ρ st s' := ⟨g.inv a.inv, a.fra.step g.stp rfl, a.stp.trans g.stp, a.same⟩
theorem At.sameP {v : V} (a : At C γ env ρ₀ st₀ s₀ ρ st s) (h : Q v st) (p : Same s (fun mv => Rel s.heap ρ (Nl γ ρ st.H) v mv) mv s') : Post C γ ρ₀ st₀ s₀ Q mv s' := a.thenPost (p.post a.inv h)
theorem At.newP {vs : List V} (a : At C γ env ρ₀ st₀ s₀ ρ st s) (h : newL vs st Q) (p : NewList s ρ (Nl γ ρ st.H) vs mv s') : Post C γ ρ₀ st₀ s₀ Q mv s' := a.thenPost (p.post a.inv h)
theorem At.grewP {v : V} (a : At C γ env ρ₀ st₀ s₀ ρ st s) (h : Q v st) (p : Rel s'.heap ρ (Nl γ ρ st.H) v mv ∧ Grew s s') : Post C γ ρ₀ st₀ s₀ Q mv s' := (a.grew p.2).post h p.1
end

section
variable (C : Cx) (k : Nat) (sc : Scope)
noncomputable def SE (e : E) (pe : Expr) : Prop := ∀ (env : Env) (A : Around) (s : Shared) (γ : Gh) (ρ : List Addr) (st : St) (Q : V → St → Prop) (X : String → St → Prop), env.scope = sc → Room k A γ → Inv C γ ρ st.H s → Fra γ env st ρ s →
  wE (Calls C k) C.glo e st Q X → wpAny C.M A (eval pe env) (Post C γ ρ st s Q) (PostX C γ ρ st s X) s
noncomputable def PostB (γ : Gh) (ρ : List Addr) (st : St) (s : Shared) (Q : Bool → St → Prop) (b : Bool) (s' : Shared) : Prop := ∃ st' ρ', Q b st' ∧ st'.s = st.s ∧ Inv C γ ρ' st'.H s' ∧ Stp ρ st.H s ρ' st'.H s'
noncomputable def ST (e : E) (pe : Expr) : Prop := ∀ (env : Env) (A : Around) (s : Shared) (γ : Gh) (ρ : List Addr) (st : St) (Q : Bool → St → Prop) (X : String → St → Prop), env.scope = sc → Room k A γ → Inv C γ ρ st.H s → Fra γ env st ρ s →
  wT (Calls C k) C.glo e st Q X → wpAny C.M A (isTrue pe env (eval pe env)) (PostB C γ ρ st s Q) (PostX C γ ρ st s X) s
noncomputable def PostL (γ : Gh) (n : Nat) (ρ : List Addr) (st : St) (s : Shared) (Q : List V → St → Prop) (ms : List Value) (s' : Shared) : Prop :=
  ms.length = n ∧ ∃ vs st' ρ', Q vs st' ∧ st'.s = st.s ∧ RelL s'.heap ρ' (Nl γ ρ' st'.H) vs ms ∧ Inv C γ ρ' st'.H s' ∧ Stp ρ st.H s ρ' st'.H s'
noncomputable def SEs (es : Es) (pes : List Expr) : Prop := (∀ pe ∈ pes, headOk pe = true) ∧ ∀ (pos : Pos) (env : Env) (A : Around) (s : Shared) (γ : Gh) (ρ : List Addr) (st : St) (Q : List V → St → Prop) (X : String → St → Prop), env.scope = sc → Room k A γ → Inv C γ ρ st.H s → Fra γ env st ρ s →
  wEs (Calls C k) C.glo es st Q X → wpAny C.M A (spliced (backTo pos (starEach pes env))) (PostL C γ pes.length ρ st s Q) (PostX C γ ρ st s X) s
end

section
variable {C : Cx} {k : Nat} {sc : Scope} {env : Env} {A : Around} {ρ₀ : List Addr} {st₀ : St} {s₀ : Shared} {ρ : List Addr} {st : St} {s : Shared} {X : String → St → Prop}

theorem SE.at {e : E} {pe : Expr} {W : V → St → Prop} {K : Value → Shared → Prop} (ih : SE C k sc e pe) (hs : env.scope = sc) (hr : Room k A γ) (a : At C γ env ρ₀ st₀ s₀ ρ st s) (w : wE (Calls C k) C.glo e st W X)
    (h : ∀ mv s' v st' ρ', W v st' → Rel s'.heap ρ' (Nl γ ρ' st'.H) v mv → At C γ env ρ₀ st₀ s₀ ρ' st' s' → Stp ρ st.H s ρ' st'.H s' → K mv s') : wpAny C.M A (eval pe env) K (PostX C γ ρ₀ st₀ s₀ X) s :=
  wpAny_mono (ih env A s γ ρ st W X hs hr a.inv a.fra w) (fun mv s' p => by
    obtain ⟨v, st', ρ', h1, h2, h3, h4, h5⟩ := p
    exact h mv s' v st' ρ' h1 h3 ⟨h4, a.fra.step h5 h2, a.stp.trans h5, h2.trans a.same⟩ h5) fun _ _ p => p.step a.inv a.stp a.same
theorem ST.at {e : E} {pe : Expr} {W : Bool → St → Prop} {K : Bool → Shared → Prop} (ih : ST C k sc e pe) (hs : env.scope = sc) (hr : Room k A γ) (a : At C γ env ρ₀ st₀ s₀ ρ st s) (w : wT (Calls C k) C.glo e st W X)
    (h : ∀ b s' st' ρ', W b st' → At C γ env ρ₀ st₀ s₀ ρ' st' s' → Stp ρ st.H s ρ' st'.H s' → K b s') : wpAny C.M A (isTrue pe env (eval pe env)) K (PostX C γ ρ₀ st₀ s₀ X) s :=
  wpAny_mono (ih env A s γ ρ st W X hs hr a.inv a.fra w) (fun mv s' p => by
    obtain ⟨st', ρ', h1, h2, h4, h5⟩ := p
    exact h mv s' st' ρ' h1 ⟨h4, a.fra.step h5 h2, a.stp.trans h5, h2.trans a.same⟩ h5) fun _ _ p => p.step a.inv a.stp a.same
theorem SEs.at {es : Es} {pes : List Expr} {pos : Pos} {W : List V → St → Prop} {K : List Value → Shared → Prop} (ih : SEs C k sc es pes) (hs : env.scope = sc) (hr : Room k A γ) (a : At C γ env ρ₀ st₀ s₀ ρ st s) (w : wEs (Calls C k) C.glo es st W X)
    (h : ∀ ms s' vs st' ρ', ms.length = pes.length → W vs st' → RelL s'.heap ρ' (Nl γ ρ' st'.H) vs ms → At C γ env ρ₀ st₀ s₀ ρ' st' s' → Stp ρ st.H s ρ' st'.H s' → K ms s') : wpAny C.M A (spliced (backTo pos (starEach pes env))) K (PostX C γ ρ₀ st₀ s₀ X) s :=
  wpAny_mono (ih.2 pos env A s γ ρ st W X hs hr a.inv a.fra w) (fun ms s' p => by
    obtain ⟨hn, v, st', ρ', h1, h2, h3, h4, h5⟩ := p
    exact h ms s' v st' ρ' hn h1 h3 ⟨h4, a.fra.step h5 h2, a.stp.trans h5, h2.trans a.same⟩ h5) fun _ _ p => p.step a.inv a.stp a.same

theorem nodup_idx {l : List Addr} {i j : Nat} {a : Addr} (h : l.Nodup) (hi : l[i]? = some a) (hj : l[j]? = some a) : i = j := by
  obtain ⟨hi', e1⟩ := List.getElem?_eq_some_iff.mp hi
  obtain ⟨hj', e2⟩ := List.getElem?_eq_some_iff.mp hj
  exact (List.getElem_inj h).mp (e1.trans e2.symm)
theorem set_cases {H : List HO} {i j : Nat} {o x : HO} (h : (H.set i o)[j]? = some x) : (i = j ∧ x = o ∧ i < H.length) ∨ (i ≠ j ∧ H[j]? = some x) := by
  rw [List.getElem?_set] at h
  by_cases e : i = j
  · rw [if_pos e] at h
    by_cases l : i < H.length
    · rw [if_pos l] at h; exact .inl ⟨e, (Option.some.inj h).symm, l⟩
    · rw [if_neg l] at h; cases h
  · rw [if_neg e] at h; exact .inr ⟨e, h⟩

theorem Inv.live_nh {H : List HO} {a : Addr} (I : Inv C γ ρ H s) (h : Lv ρ H a) : ¬ γ.h a := fun q => by
  obtain ⟨i, o, h1, h2, h3⟩ := h
  rw [I.bor i a o h1 (I.apart a (List.mem_of_getElem? h1) q) h2] at h3; cases h3
/-- a list is changed no more -/
theorem freeze_ok {i : Nat} {vs : List V} {m : Value} {Q : V → St → Prop} (a : At C γ env ρ₀ st₀ s₀ ρ st s) (hH : st.H[i]? = some (.list vs)) (r : Rel s.heap ρ (Nl γ ρ st.H) (.loc i) m) (w : Q (.lst vs) ⟨st.s, st.H.set i .dead⟩) : Post C γ ρ₀ st₀ s₀ Q m s := by
  obtain ⟨x, rfl, hx⟩ := r.loc_inv
  obtain ⟨ms, hl, hr', hlen⟩ := a.inv.obj i _ _ hx hH
  have lv : ∀ b, Lv ρ (st.H.set i .dead) b → Lv ρ st.H b ∧ b ≠ x := fun b ⟨j, o, h1, h2, h3⟩ => by
    rcases set_cases h2 with ⟨_, rfl, _⟩ | ⟨ne, h2⟩
    · cases h3
    · exact ⟨⟨j, o, h1, h2, h3⟩, fun e => ne (nodup_idx a.inv.nodup hx (e ▸ h1))⟩
  have kd : Kept s.heap ρ (Lv ρ st.H) s.heap ρ (Lv ρ (st.H.set i .dead)) := ⟨fun _ o e _ => ⟨o, e, .refl o⟩, fun b q => .inl (lv b q).1, fun _ _ e => e⟩
  have nl : ¬ Nl γ ρ (st.H.set i .dead) x := fun q => q.elim (fun q => (lv x q).2 rfl) fun q => a.inv.live_nh ⟨i, _, hx, hH, rfl⟩ q
  refine ⟨_, _, ρ, w, a.same, .lst hl nl hlen (hr'.kept kd.gh), ⟨a.inv.base, by rw [List.length_set]; exact a.inv.len, a.inv.nodup, a.inv.fresh, a.inv.there, fun j b o h1 h2 => ?_, a.inv.apart, ?_, a.inv.held, a.inv.off, a.inv.frm, a.inv.hdl' kd, (fun z => a.inv.hq (by simpa using z)), a.inv.gens, a.inv.os⟩, a.stp.trans ⟨kd⟩⟩
  · rcases set_cases h2 with ⟨_, rfl, _⟩ | ⟨_, h2⟩
    · trivial
    · exact (a.inv.obj j b o h1 h2).kept kd.gh fun _ q => q
  · intro j b o h1 q h2
    rcases set_cases h2 with ⟨_, rfl, _⟩ | ⟨_, h2⟩
    · rfl
    · exact a.inv.bor j b o h1 q h2

theorem se_stuck {pe : Expr} : SE C k sc .stuck pe := fun _ _ _ _ _ _ _ _ _ _ _ _ w => False.elim w
theorem se_var {x : String} {p : Pos} (hk : isVar sc x = true) (hd : (!((x : Str) == ("__debug__" : Str)) && !((x : Str) == ("__classdict__" : Str)) && !((x : Str) == (".0" : Str))) = true) : SE C k sc (.var x) (.Name (x : Str) p) := by
  rintro env A s γ ρ st Q X rfl hr I F ⟨v, hv, w⟩
  simp only [Bool.and_eq_true, beq_iff_eq, Bool.not_eq_true', isVar, Bool.or_eq_true, kd] at hk hd
  have hz : (x : Str) ≠ (".0" : Str) := fun e => by rw [e] at hd; cases hd.2
  refine wpAny_Name ?_ hd.1.1
  have fin : ∀ {mv : Value}, Rel s.heap ρ (Nl γ ρ st.H) v mv → Post C γ ρ st s Q mv s := fun r => by
    rcases w with w | ⟨i, vs, rfl, hH, w⟩
    · exact (At.start I F).post w r
    · exact freeze_ok (At.start I F) hH r w
  rcases hk with (hk | hk) | hk
  · obtain ⟨m, hn, hl⟩ := F.ns
    obtain ⟨mv, e1, e2⟩ := hl x v hk hz hv
    exact wpAny_loadName_local F.kind hk hn e1 (fin e2)
  · obtain ⟨c, ov, h1, h2, h3, h4⟩ := F.cell x (.inl hk)
    obtain ⟨mv, rfl, e2⟩ := h4 x rfl v hv
    exact wpAny_loadName_cell F.kind hk h1 h3 (fin e2)
  · obtain ⟨c, ov, h1, h2, h3, h4⟩ := F.cell x (.inr hk)
    obtain ⟨mv, rfl, e2⟩ := h4 x rfl v hv
    exact wpAny_loadName_free F.kind hk h1 h3 (fin e2) hd.1.2
theorem se_glo {x : String} {p : Pos} (hk : isGlo sc x = true) : SE C k sc (.glo x) (.Name (x : Str) p) := by
  rintro env A s γ ρ st Q X rfl hr I F ⟨v, hv, w⟩
  simp only [Bool.and_eq_true, beq_iff_eq, Bool.not_eq_true', isGlo, kd] at hk
  obtain ⟨i, t, rfl, hg⟩ := C.hglo x v hv
  exact Calls.Name_function_global F.kind hk.1 (Calls.loadGlobal_global (mg := C.mg) (by rw [F.glob]; exact C.g.keeps I.base) hg ((At.start I F).post w (.int _ _))) hk.2
theorem se_none {p : Pos} {u : Nat} : SE C k sc .none (.Constant .none u p) := fun _ _ _ _ _ _ _ _ _ _ I F w => Constant_none ((At.start I F).post w .none)
theorem se_bool {b : Bool} {p : Pos} {u : Nat} : SE C k sc (.bool b) (.Constant (.bool b) u p) := fun _ _ _ _ _ _ _ _ _ _ I F w => Constant_bool ((At.start I F).post w (.bool _))
theorem se_int {i : Int} {p : Pos} {u : Nat} : SE C k sc (.int i) (.Constant (.int i) u p) := fun _ _ s _ _ _ _ _ _ _ I F w => wpAny_Constant_int ((At.start I F).grew (Grew.toks s _) |>.post w (.int _ _))
theorem se_str {x : Str} {p : Pos} {u : Nat} (h : (decide (x.cps.toList.length ≤ 1000) && x.cps.toList.all (· < 128)) = true) : SE C k sc (.str x.cps.toList) (.Constant (.str x) u p) := fun env A s γ ρ st Q X _ _ I F w => by
  obtain ⟨h1, h2⟩ := Bool.and_eq_true_iff.mp h
  refine Calls.Constant_str ((At.start I F).grew (Grew.toks s _) |>.post w ?_)
  exact .str (cs := x.cps.toList) _ (Nat.le_trans (of_decide_eq_true h1) (by decide)) fun c hc => of_decide_eq_true (List.all_eq_true.mp h2 c hc)

theorem se_bin {op : Operator} {a b : E} {pa pb : Expr} {p : Pos} (ha : SE C k sc a pa) (hb : SE C k sc b pb) : SE C k sc (.bin op a b) (.BinOp pa op pb p) := fun env A s γ ρ st Q X hs hr I F w =>
  wpAny_BinOp (ha.at hs hr (At.start I F) w fun ma s₁ va st₁ ρ₁ w₁ r₁ a₁ S₁ => hb.at hs hr a₁ w₁ fun mb s₂ vb st₂ ρ₂ w₂ r₂ a₂ S₂ => by
    rcases w₂ with ⟨v, e, hQ⟩ | ⟨xs, ys, rfl, e1, e2, hl, hQ⟩
    · exact wpAny_mono (prim_bin e (r₁.kept S₂.kept) r₂) (fun _ _ p => a₂.sameP hQ p) fun _ _ x => x
    · obtain ⟨p, ms, rfl, hp, rp, lp⟩ := a₂.inv.view (r₁.kept S₂.kept) e1
      obtain ⟨q, ns, rfl, hq, rq, lq⟩ := a₂.inv.view r₂ e2
      exact wpAny_mono (prim_cat hp hq rp rq hl) (fun _ _ p => a₂.newP hQ p) fun _ _ x => x)
theorem se_neg {a : E} {pa : Expr} {p : Pos} (ha : SE C k sc a pa) : SE C k sc (.neg a) (.UnaryOp .USub pa p) := fun env A s γ ρ st Q X hs hr I F w =>
  UnaryOp_ (ha.at hs hr (At.start I F) w fun ma s₁ va st₁ ρ₁ w₁ r₁ a₁ S₁ => by
    obtain ⟨i, rfl, w₁⟩ := w₁
    obtain ⟨t, rfl⟩ := r₁.int_inv
    exact P.neg_int ((a₁.grew (Grew.toks s₁ _)).post w₁ (.int _ _)))
theorem se_not {a : E} {pa : Expr} {p : Pos} (ha : SE C k sc a pa) : SE C k sc (.not a) (.UnaryOp .Not pa p) := fun env A s γ ρ st Q X hs hr I F w =>
  UnaryOp_ (ha.at hs hr (At.start I F) w fun ma s₁ va st₁ ρ₁ w₁ r₁ a₁ S₁ => by
    obtain ⟨b, rfl, w₁⟩ := w₁
    obtain rfl := r₁.bool_inv
    exact not_of (wpAny_truthy_bool (a₁.post w₁ (.bool _))))
theorem se_idx {a i : E} {pa pi : Expr} {p : Pos} (ha : SE C k sc a pa) (hi : SE C k sc i pi) : SE C k sc (.idx a i) (.Subscript pa pi p) := fun env A s γ ρ st Q X hs hr I F w =>
  Subscript_ (ha.at hs hr (At.start I F) w fun ma s₁ va st₁ ρ₁ w₁ r₁ a₁ S₁ => hi.at hs hr a₁ w₁ fun mi s₂ vi st₂ ρ₂ w₂ r₂ a₂ S₂ => by
    obtain ⟨v, e, hQ⟩ := w₂
    exact wpAny_mono (prim_idx a₂.inv e (r₁.kept S₂.kept) r₂) (fun _ _ p => a₂.sameP hQ p) fun _ _ x => x)

theorem isSetE_marks {op : CmpOp} {e : Expr} (h : isSetE e = false) : behindInMarks op e = false := by
  cases op <;> cases e <;> first | rfl | cases h
theorem Room.cmp {k : Nat} {A : Around} (r : Room k A γ) : A.units + 65 < cLine := by have := r.units; show _ < 9900; omega
theorem lastMarks2 {o1 o2 : CmpOp} {b c : Expr} (h : isSetE c = false) : lastMarks [o1, o2] [b, c] = false := isSetE_marks h

theorem se_cmp {op : CmpOp} {a b : E} {pa pb : Expr} {p : Pos} (h0 : isSetE pb = false) (ha : SE C k sc a pa) (hb : SE C k sc b pb) : SE C k sc (.cmp op a b) (.Compare pa [op] [pb] p) := fun env A s γ ρ st Q X hs hr I F w =>
  wpAny_Compare1 (ha.at hs hr (At.start I F) w fun ma s₁ va st₁ ρ₁ w₁ r₁ a₁ S₁ => hb.at hs hr a₁ w₁ fun mb s₂ vb st₂ ρ₂ w₂ r₂ a₂ S₂ => by
    obtain ⟨v, e, hQ⟩ := w₂
    exact wpAny_mono (prim_cmp a₂.inv hr.cmp e (r₁.kept S₂.kept) r₂) (fun _ _ p => by obtain ⟨rfl, rfl⟩ := p; exact a₂.post hQ (.bool _)) fun _ _ x => x) (isSetE_marks h0)
theorem st_cmp {op : CmpOp} {a b : E} {pa pb : Expr} {p : Pos} (h0 : isSetE pb = false) (ha : SE C k sc a pa) (hb : SE C k sc b pb) : ST C k sc (.cmp op a b) (.Compare pa [op] [pb] p) := fun env A s γ ρ st Q X hs hr I F w =>
  wpAny_isTrue_Compare1 (ha.at hs hr (At.start I F) w fun ma s₁ va st₁ ρ₁ w₁ r₁ a₁ S₁ => hb.at hs hr a₁ w₁ fun mb s₂ vb st₂ ρ₂ w₂ r₂ a₂ S₂ => by
    obtain ⟨v, e, b, hb, hQ⟩ := w₂
    cases hb
    exact wpAny_mono (prim_cmp a₂.inv hr.cmp e (r₁.kept S₂.kept) r₂) (fun _ _ p => by obtain ⟨rfl, rfl⟩ := p; exact wpAny_truthy_bool ⟨st₂, ρ₂, hQ, a₂.same, a₂.inv, a₂.stp⟩) fun _ _ x => x) (isSetE_marks h0)
theorem se_cmp2 {op op' : CmpOp} {a b c : E} {pa pb pc : Expr} {p : Pos} (h0 : isSetE pc = false) (ha : SE C k sc a pa) (hb : SE C k sc b pb) (hc : SE C k sc c pc) : SE C k sc (.cmp2 op op' a b c) (.Compare pa [op, op'] [pb, pc] p) := fun env A s γ ρ st Q X hs hr I F w =>
  Compare_chain (ha.at hs hr (At.start I F) w fun ma s₁ va st₁ ρ₁ w₁ r₁ a₁ S₁ => chain_link (hb.at hs hr a₁ w₁ fun mb s₂ vb st₂ ρ₂ w₂ r₂ a₂ S₂ => by
    obtain ⟨v, e, hQ⟩ := w₂
    refine wpAny_mono (prim_cmp a₂.inv hr.cmp e (r₁.kept S₂.kept) r₂) (fun mv s' p => ?_) fun _ _ x => x
    obtain ⟨rfl, rfl⟩ := p
    refine wpAny_truthy_bool ?_
    rcases hQ with ⟨rfl, hQ⟩ | ⟨rfl, hQ⟩
    · exact chain_last (hc.at hs hr a₂ hQ fun mc s₄ vc st₄ ρ₄ w₄ r₄ a₄ S₄ => by
        obtain ⟨v', e', hQ'⟩ := w₄
        exact wpAny_mono (prim_cmp a₄.inv hr.cmp e' (r₂.kept S₄.kept) r₄) (fun _ _ p => by obtain ⟨rfl, rfl⟩ := p; exact a₄.post hQ' (.bool _)) fun _ _ x => x)
    · exact a₂.post hQ (.bool _))) (lastMarks2 h0)
theorem st_cmp2 {op op' : CmpOp} {a b c : E} {pa pb pc : Expr} {p : Pos} (h0 : isSetE pc = false) (ha : SE C k sc a pa) (hb : SE C k sc b pb) (hc : SE C k sc c pc) : ST C k sc (.cmp2 op op' a b c) (.Compare pa [op, op'] [pb, pc] p) := fun env A s γ ρ st Q X hs hr I F w =>
  isTrue_chain (ha.at hs hr (At.start I F) w fun ma s₁ va st₁ ρ₁ w₁ r₁ a₁ S₁ => test_link (hb.at hs hr a₁ w₁ fun mb s₂ vb st₂ ρ₂ w₂ r₂ a₂ S₂ => by
    obtain ⟨v, e, hQ⟩ := w₂
    refine wpAny_mono (prim_cmp a₂.inv hr.cmp e (r₁.kept S₂.kept) r₂) (fun mv s' p => ?_) fun _ _ x => x
    obtain ⟨rfl, rfl⟩ := p
    refine wpAny_truthy_bool ?_
    rcases hQ with ⟨rfl, hQ⟩ | ⟨rfl, b, hb, hQ⟩
    · exact test_last (hc.at hs hr a₂ hQ fun mc s₄ vc st₄ ρ₄ w₄ r₄ a₄ S₄ => by
        obtain ⟨v', e', b, hb, hQ'⟩ := w₄
        cases hb
        exact wpAny_mono (prim_cmp a₄.inv hr.cmp e' (r₂.kept S₄.kept) r₄) (fun _ _ p => by obtain ⟨rfl, rfl⟩ := p; exact wpAny_truthy_bool ⟨st₄, ρ₄, hQ', a₄.same, a₄.inv, a₄.stp⟩) fun _ _ x => x)
    · cases hb; exact ⟨st₂, ρ₂, hQ, a₂.same, a₂.inv, a₂.stp⟩)) (lastMarks2 h0)

/-- an expression that is tested by its value -/
theorem st_of_se {e : E} {pe : Expr} (he : SE C k sc e pe) (hp : ∀ env (whole : Sem Value), isTrue pe env whole = (do let v ← whole; standAt pe.pos; holding [v] (truthy v))) : ST C k sc e pe := fun env A s γ ρ st Q X hs hr I F w =>
  isTrue_plain (he.at hs hr (At.start I F) w fun mv s₁ v st₁ ρ₁ w₁ r₁ a₁ S₁ => by
    obtain ⟨b, rfl, w₁⟩ := w₁
    obtain rfl := r₁.bool_inv
    exact wpAny_truthy_bool ⟨st₁, ρ₁, w₁, a₁.same, a₁.inv, a₁.stp⟩) (hp _ _)
theorem st_not {a : E} {pa : Expr} {p : Pos} (ha : ST C k sc a pa) : ST C k sc (.not a) (.UnaryOp .Not pa p) := fun env A s γ ρ st Q X hs hr I F w => by
  refine isTrue_not (ha.at (W := fun b st => Q (!b) st) hs hr (At.start I F) ?_ fun b s₁ st₁ ρ₁ w₁ a₁ S₁ => ⟨st₁, ρ₁, w₁, a₁.same, a₁.inv, a₁.stp⟩)
  have e : (fun (v : V) (st : St) => ∃ b, v = .bool b ∧ ∃ b', V.bool (!b) = .bool b' ∧ Q b' st) = fun v st => ∃ b, v = .bool b ∧ Q (!b) st := by
    funext v st
    exact propext ⟨fun ⟨b, h1, b', h2, h3⟩ => ⟨b, h1, by cases h2; exact h3⟩, fun ⟨b, h1, h2⟩ => ⟨b, h1, _, rfl, h2⟩⟩
  show wE (Calls C k) C.glo a st (fun (v : V) (st : St) => ∃ b, v = .bool b ∧ Q (!b) st) X
  rw [← e]; exact w

/-- what stands of a row of expressions -/
inductive AllE (P : E → Expr → Prop) : Es → List Expr → Prop
  | nil : AllE P .nil []
  | cons {e : E} {pe : Expr} {es : Es} {pes : List Expr} : P e pe → AllE P es pes → AllE P (.cons e es) (pe :: pes)
theorem star_one {pe : Expr} {rest : List Expr} {env : Env} (h : headOk pe = true) : starEach (pe :: rest) env = (false, eval pe env) :: starEach rest env := by
  cases pe <;> first | rfl | cases h
theorem star_any {env : Env} {pos : Pos} : ∀ {pes : List Expr}, (∀ pe ∈ pes, headOk pe = true) → (backTo pos (starEach pes env)).any (·.1) = false
  | [], _ => rfl
  | pe :: r, h => by
    rw [star_one (h pe List.mem_cons_self)]
    have := star_any (env := env) (pos := pos) (pes := r) fun p q => h p (List.mem_cons_of_mem _ q)
    simpa [backTo] using this

theorem ses_of {es : Es} {pes : List Expr} (h : AllE (fun e pe => SE C k sc e pe ∧ headOk pe = true) es pes) : SEs C k sc es pes := by
  induction h with
  | nil => exact ⟨fun _ h => absurd h List.not_mem_nil, fun _ _ _ _ _ _ _ _ _ _ _ I _ w => Calls.spliced_nil ⟨rfl, [], _, _, w, rfl, .nil, I, .refl ..⟩⟩
  | cons he _ ih =>
    refine ⟨fun p q => (List.mem_cons.mp q).elim (fun e => e ▸ he.2) (ih.1 p), fun pos env A s γ ρ st Q X hs hr I F w => ?_⟩
    refine args_cons (he.1.at hs hr (At.start I F) w fun mv s₁ v st₁ ρ₁ w₁ r₁ a₁ S₁ => ih.at hs hr a₁ w₁ fun ms s₂ vs st₂ ρ₂ hn w₂ r₂ a₂ S₂ => ?_) (star_one he.2)
    exact ⟨congrArg Nat.succ hn, _, st₂, ρ₂, w₂, a₂.same, .cons (r₁.kept S₂.kept) r₂, a₂.inv, a₂.stp⟩

theorem RelL.len_le {h : Heap} {ρ : List Addr} {N : Addr → Prop} {vs : List V} {ms : List Value} (r : RelL h ρ N vs ms) {n : Nat} (h : ms.length ≤ n) : vs.length ≤ n := by rw [r.length]; exact h
theorem se_tup {es : Es} {pes : List Expr} {u : Nat} {p : Pos} (hl : pes.length ≤ 1000) (hes : SEs C k sc es pes) : SE C k sc (.tup es) (.Tuple pes u p) := fun env A s γ ρ st Q X hs hr I F w =>
  Tuple_ (hes.at hs hr (At.start I F) w fun ms s₁ vs st₁ ρ₁ hn w₁ r₁ a₁ S₁ => wpAny_mono (prim_newTuple a₁.inv r₁ (r₁.len_le (Nat.le_trans (Nat.le_of_eq hn) (Nat.le_trans hl (by decide))))) (fun _ _ p => a₁.grewP w₁ p) fun _ _ x => x)
theorem se_list {es : Es} {pes : List Expr} {p : Pos} (hl : pes.length ≤ 1000) (hes : SEs C k sc es pes) : SE C k sc (.list es) (.List pes p) := fun env A s γ ρ st Q X hs hr I F w =>
  List_ (hes.at hs hr (At.start I F) w fun ms s₁ vs st₁ ρ₁ hn w₁ r₁ a₁ S₁ => wpAny_mono (prim_newList r₁ (r₁.len_le (Nat.le_trans (Nat.le_of_eq hn) (Nat.le_trans hl (by decide))))) (fun _ _ p => a₁.newP w₁ p) fun _ _ x => x)

theorem se_and {pos : Pos} {es : Es} {pes : List Expr} (h : AllE (SE C k sc) es pes) (hne : pes ≠ []) : SE C k sc (.and es) (.BoolOp .And pes pos) := fun env A s γ ρ st Q X hs hr I F w => by
  have key : ∀ {es : Es} {pes : List Expr} {ρ' : List Addr} {st' : St} {s' : Shared}, AllE (SE C k sc) es pes → pes ≠ [] → At C γ env ρ st s ρ' st' s' → wAnd (Calls C k) C.glo es st' Q X → wpAny C.M A (eval (.BoolOp .And pes pos) env) (Post C γ ρ st s Q) (PostX C γ ρ st s X) s' := fun {es pes ρ' st' s'} h => by
    induction h generalizing ρ' st' s' with
    | nil => exact fun h => absurd rfl h
    | cons he hr' ih =>
      intro _ a w
      cases hr' with
      | nil => exact BoolOp_one (he.at hs hr a w fun mv s₁ v st₁ ρ₁ w₁ r₁ a₁ S₁ => by
          obtain ⟨b, rfl, w₁⟩ := w₁
          rcases w₁ with ⟨rfl, w₁⟩ | ⟨rfl, w₁⟩ <;> exact a₁.post w₁ r₁)
      | cons he' hr' => exact BoolOp_and (he.at hs hr a w fun mv s₁ v st₁ ρ₁ w₁ r₁ a₁ S₁ => by
          obtain ⟨b, rfl, w₁⟩ := w₁
          obtain rfl := r₁.bool_inv
          refine wpAny_truthy_bool ?_
          rcases w₁ with ⟨rfl, w₁⟩ | ⟨rfl, w₁⟩
          · exact ih (by simp) a₁ w₁
          · exact a₁.post w₁ (.bool _))
  exact key h hne (At.start I F) w
theorem se_or {pos : Pos} {es : Es} {pes : List Expr} (h : AllE (SE C k sc) es pes) (hne : pes ≠ []) : SE C k sc (.or es) (.BoolOp .Or pes pos) := fun env A s γ ρ st Q X hs hr I F w => by
  have key : ∀ {es : Es} {pes : List Expr} {ρ' : List Addr} {st' : St} {s' : Shared}, AllE (SE C k sc) es pes → pes ≠ [] → At C γ env ρ st s ρ' st' s' → wOr (Calls C k) C.glo es st' Q X → wpAny C.M A (eval (.BoolOp .Or pes pos) env) (Post C γ ρ st s Q) (PostX C γ ρ st s X) s' := fun {es pes ρ' st' s'} h => by
    induction h generalizing ρ' st' s' with
    | nil => exact fun h => absurd rfl h
    | cons he hr' ih =>
      intro _ a w
      cases hr' with
      | nil => exact BoolOp_one (he.at hs hr a w fun mv s₁ v st₁ ρ₁ w₁ r₁ a₁ S₁ => by
          obtain ⟨b, rfl, w₁⟩ := w₁
          rcases w₁ with ⟨rfl, w₁⟩ | ⟨rfl, w₁⟩ <;> exact a₁.post w₁ r₁)
      | cons he' hr' => exact BoolOp_or (he.at hs hr a w fun mv s₁ v st₁ ρ₁ w₁ r₁ a₁ S₁ => by
          obtain ⟨b, rfl, w₁⟩ := w₁
          obtain rfl := r₁.bool_inv
          refine wpAny_truthy_bool ?_
          rcases w₁ with ⟨rfl, w₁⟩ | ⟨rfl, w₁⟩
          · exact a₁.post w₁ (.bool _)
          · exact ih (by simp) a₁ w₁)
  exact key h hne (At.start I F) w
/-- tests are joined by their truth -/
theorem st_and {pos : Pos} {es : Es} {pes : List Expr} (h : AllE (ST C k sc) es pes) : ST C k sc (.and es) (.BoolOp .And pes pos) := fun env A s γ ρ st Q X hs hr I F w => by
  have key : ∀ {es : Es} {pes : List Expr} {whole : Sem Value} {ρ' : List Addr} {st' : St} {s' : Shared}, AllE (ST C k sc) es pes → At C γ env ρ st s ρ' st' s' → wAnd (Calls C k) C.glo es st' (fun v st => ∃ b, v = .bool b ∧ Q b st) X → wpAny C.M A (isTrue (.BoolOp .And pes pos) env whole) (PostB C γ ρ st s Q) (PostX C γ ρ st s X) s' := fun {es pes whole ρ' st' s'} h => by
    induction h generalizing whole ρ' st' s' with
    | nil => exact fun a ⟨b, hb, w⟩ => by cases hb; exact PyProof.Rows.isTrue_and_nil ⟨_, _, w, a.same, a.inv, a.stp⟩
    | @cons e pe es pes he hr' ih =>
      exact fun a w => PyProof.Rows.isTrue_and (he.at (W := fun b st => (b = true ∧ wAnd (Calls C k) C.glo es st (fun v st => ∃ b, v = .bool b ∧ Q b st) X) ∨ (b = false ∧ ∃ b, V.bool false = .bool b ∧ Q b st)) hs hr a w fun b s₁ st₁ ρ₁ w₁ a₁ S₁ => by
        rcases w₁ with ⟨rfl, w₁⟩ | ⟨rfl, b, hb, w₁⟩
        · exact ih a₁ w₁
        · cases hb; exact ⟨st₁, ρ₁, w₁, a₁.same, a₁.inv, a₁.stp⟩)
  exact key h (At.start I F) w
theorem st_or {pos : Pos} {es : Es} {pes : List Expr} (h : AllE (ST C k sc) es pes) : ST C k sc (.or es) (.BoolOp .Or pes pos) := fun env A s γ ρ st Q X hs hr I F w => by
  have key : ∀ {es : Es} {pes : List Expr} {whole : Sem Value} {ρ' : List Addr} {st' : St} {s' : Shared}, AllE (ST C k sc) es pes → At C γ env ρ st s ρ' st' s' → wOr (Calls C k) C.glo es st' (fun v st => ∃ b, v = .bool b ∧ Q b st) X → wpAny C.M A (isTrue (.BoolOp .Or pes pos) env whole) (PostB C γ ρ st s Q) (PostX C γ ρ st s X) s' := fun {es pes whole ρ' st' s'} h => by
    induction h generalizing whole ρ' st' s' with
    | nil => exact fun a ⟨b, hb, w⟩ => by cases hb; exact PyProof.Rows.isTrue_or_nil ⟨_, _, w, a.same, a.inv, a.stp⟩
    | @cons e pe es pes he hr' ih =>
      exact fun a w => PyProof.Rows.isTrue_or (he.at (W := fun b st => (b = true ∧ ∃ b, V.bool true = .bool b ∧ Q b st) ∨ (b = false ∧ wOr (Calls C k) C.glo es st (fun v st => ∃ b, v = .bool b ∧ Q b st) X)) hs hr a w fun b s₁ st₁ ρ₁ w₁ a₁ S₁ => by
        rcases w₁ with ⟨rfl, b, hb, w₁⟩ | ⟨rfl, w₁⟩
        · cases hb; exact ⟨st₁, ρ₁, w₁, a₁.same, a₁.inv, a₁.stp⟩
        · exact ih a₁ w₁)
  exact key h (At.start I F) w

/-- slices -/
theorem slc_tail {va : V} {ma : Value} {lo hi : Option Int} {ml mu : Value} {Q : V → St → Prop} {value slice : Expr} (a : At C γ env ρ₀ st₀ s₀ ρ st s) (ra : Rel s.heap ρ (Nl γ ρ st.H) va ma) (p1 : PartR (lo.map .int) ml lo) (p2 : PartR (hi.map .int) mu hi) (w : slcW va lo hi st Q) :
    wpAny C.M A (subscriptTail value slice ma (.ref s.heap.objs.size)) (Post C γ ρ₀ st₀ s₀ Q) (PostX C γ ρ₀ st₀ s₀ X) { s with heap := s.heap.push { cls := .type "slice", data := .fields #[ml, mu, .none] } } := by
  rcases w with ⟨cs, rfl, w⟩ | ⟨xs, e, w⟩
  · obtain ⟨t, rfl, hlen, ha⟩ := ra.str_inv
    exact wpAny_mono (prim_slice_str (ρ := ρ) (H := st.H) hlen ha p1 p2) (fun mv s' p => (a.grew p.2).post w (p.1.kept p.2.stp.kept)) fun _ _ x => x
  · obtain ⟨b, ms, rfl, hl, hr, hlen⟩ := a.inv.view ra e
    exact wpAny_mono (prim_slice_list hl hr hlen p1 p2) (fun _ _ p => a.newP w p) fun _ _ x => x
/-- a part of a slice that is written, or not -/
noncomputable def OptE (C : Cx) (k : Nat) (sc : Scope) (e : E) (o : Option Expr) : Prop := (o = none ∧ e.isOmit = true) ∨ (e.isOmit = false ∧ ∃ pe, o = some pe ∧ SE C k sc e pe)
theorem part_none : PartR ((none : Option Int).map V.int) Value.none none := .inl ⟨rfl, rfl, rfl⟩
theorem part_int (i : Int) (t : Tok) : PartR ((some i).map V.int) (.int i t) (some i) := .inr ⟨i, t, rfl, rfl, rfl⟩
theorem tf {b : Bool} {P : Prop} (h : b = true) (h' : b = false) : P := by rw [h] at h'; cases h'
theorem se_slc {a lo hi : E} {pa : Expr} {pl ph : Option Expr} {p q : Pos} (ha : SE C k sc a pa) (hl : OptE C k sc lo pl) (hh : OptE C k sc hi ph) : SE C k sc (.slc a lo hi) (.Subscript pa (.Slice pl ph none q) p) := fun env A s γ ρ st Q X hs hr I F w =>
  Subscript_ (ha.at hs hr (At.start I F) w fun ma s₁ va st₁ ρ₁ w₁ r₁ a₁ S₁ => wpAny_Slice (by
    rcases hl with ⟨rfl, hl⟩ | ⟨hl, pe, rfl, hl'⟩
    · obtain ⟨_, w₁⟩ := w₁.resolve_right fun z => tf hl z.1
      rw [evalPart_none]
      refine wpAny_pure ?_
      rcases hh with ⟨rfl, hh⟩ | ⟨hh, pe, rfl, hh'⟩
      · obtain ⟨_, w₁⟩ := w₁.resolve_right fun z => tf hh z.1
        rw [evalPart_none]
        exact wpAny_pure (wpAny_pure (slc_tail a₁ r₁ part_none part_none w₁))
      · obtain ⟨_, w₁⟩ := w₁.resolve_left fun z => tf z.1 hh
        rw [evalPart_some]
        refine hh'.at hs hr a₁ w₁ fun mh s₂ vh st₂ ρ₂ w₂ r₂ a₂ S₂ => ?_
        obtain ⟨j, rfl, w₂⟩ := w₂
        obtain ⟨t, rfl⟩ := r₂.int_inv
        exact wpAny_pure (slc_tail a₂ (r₁.kept S₂.kept) part_none (part_int j t) w₂)
    · obtain ⟨_, w₁⟩ := w₁.resolve_left fun z => tf z.1 hl
      rw [evalPart_some]
      refine hl'.at hs hr a₁ w₁ fun ml s₂ vl st₂ ρ₂ w₂ r₂ a₂ S₂ => ?_
      obtain ⟨i, rfl, w₂⟩ := w₂
      obtain ⟨t, rfl⟩ := r₂.int_inv
      rcases hh with ⟨rfl, hh⟩ | ⟨hh, pe, rfl, hh'⟩
      · obtain ⟨_, w₂⟩ := w₂.resolve_right fun z => tf hh z.1
        rw [evalPart_none]
        exact wpAny_pure (wpAny_pure (slc_tail a₂ (r₁.kept S₂.kept) (part_int i t) part_none w₂))
      · obtain ⟨_, w₂⟩ := w₂.resolve_left fun z => tf z.1 hh
        rw [evalPart_some]
        refine hh'.at hs hr a₂ w₂ fun mh s₃ vh st₃ ρ₃ w₃ r₃ a₃ S₃ => ?_
        obtain ⟨j, rfl, w₃⟩ := w₃
        obtain ⟨t', rfl⟩ := r₃.int_inv
        exact wpAny_pure (slc_tail a₃ ((r₁.kept S₂.kept).kept S₃.kept) (part_int i t) (part_int j t') w₃)))
end
end
end Mine
set_option autoImplicit false
namespace Mine
noncomputable section
open PySem PyProof.Rows

section
variable {α : Type} {le : α → α → Bool} {l : List α}
theorem countP_lt {p q : α → Bool} : ∀ {l : List α}, (∀ z ∈ l, p z = true → q z = true) → ∀ x ∈ l, q x = true → p x = false → l.countP p < l.countP q
  | [], _, _, h, _, _ => absurd h List.not_mem_nil
  | y :: l, h, x, hx, hq, hp => by
    have hle : l.countP p ≤ l.countP q := List.countP_mono_left fun z hz => h z (List.mem_cons_of_mem _ hz)
    rcases List.mem_cons.mp hx with rfl | hx
    · rw [List.countP_cons_of_neg (by rw [hp]; exact Bool.false_ne_true), List.countP_cons_of_pos hq]; exact Nat.lt_succ_of_le hle
    · have ih := countP_lt (fun z hz => h z (List.mem_cons_of_mem _ hz)) x hx hq hp
      by_cases e : p y = true
      · rw [List.countP_cons_of_pos e, List.countP_cons_of_pos (h y List.mem_cons_self e)]; exact Nat.succ_lt_succ ih
      · rw [List.countP_cons_of_neg e]
        exact Nat.lt_of_lt_of_le ih (List.Sublist.countP_le (List.sublist_cons_self y l))
/-- how many stand ahead of `x` -/
noncomputable def rank (le : α → α → Bool) (l : List α) (x : α) : Int := (l.countP fun z => !le x z : Nat)
structure Order (le : α → α → Bool) (l : List α) : Prop where
  tot : ∀ x ∈ l, ∀ y ∈ l, le x y = true ∨ le y x = true
  tr : ∀ x ∈ l, ∀ y ∈ l, ∀ z ∈ l, le x y = true → le y z = true → le x z = true
  anti : ∀ x ∈ l, ∀ y ∈ l, le x y = true → le y x = true → x = y
theorem Order.rank (O : Order le l) {x y : α} (hx : x ∈ l) (hy : y ∈ l) : decide (rank le l x < rank le l y) = !le y x := by
  unfold Mine.rank
  rw [Bool.eq_iff_iff, decide_eq_true_iff, Int.ofNat_lt, Bool.not_eq_true']
  constructor
  · intro h
    cases e : le y x with
    | false => rfl
    | true =>
      refine absurd h (Nat.not_lt.mpr (List.countP_mono_left fun z hz q => ?_))
      rw [Bool.not_eq_true'] at q ⊢
      cases e' : le x z with
      | false => rfl
      | true => rw [O.tr y hy x hx z hz e e'] at q; cases q
  · intro e
    refine countP_lt (fun z hz q => ?_) x hx (by rw [e]; rfl) (by rw [(O.tot x hx x hx).elim id id]; rfl)
    rw [Bool.not_eq_true'] at q ⊢
    cases e' : le y z with
    | false => rfl
    | true =>
      have := (O.tot x hx z hz).resolve_left (by rw [q]; exact Bool.false_ne_true)
      rw [O.tr y hy z hz x hx e' this] at e; cases e
theorem Order.le_of (O : Order le l) {x y : α} (hx : x ∈ l) (hy : y ∈ l) (h : Mine.rank le l x ≤ Mine.rank le l y) : le x y = true := by
  have := O.rank hy hx
  rw [decide_eq_false (Int.not_lt.mpr h)] at this
  rwa [Bool.false_eq, Bool.not_eq_false'] at this
end

theorem RelL.perm {h : Heap} {ρ : List Addr} {N : Addr → Prop} {out ms : List Value} (p : out.Perm ms) : ∀ {xs : List V}, RelL h ρ N xs ms → ∃ zs : List V, zs.Perm xs ∧ RelL h ρ N zs out := by
  induction p with
  | nil => exact fun r => ⟨_, .refl _, r⟩
  | cons a _ ih =>
    intro xs r
    cases r with
    | cons b r => obtain ⟨zs, h1, h2⟩ := ih r; exact ⟨_, h1.cons _, .cons b h2⟩
  | swap a b l =>
    intro xs r
    cases r with
    | cons x r => cases r with | cons y r => exact ⟨_, .swap .., .cons y (.cons x r)⟩
  | trans _ _ ih1 ih2 =>
    intro xs r
    obtain ⟨zs, h1, h2⟩ := ih2 r
    obtain ⟨us, h3, h4⟩ := ih1 h2
    exact ⟨us, h3.trans h1, h4⟩

section
variable {C : Cx} {A : Around} {E : Value → Shared → Prop} {s : Shared} {ρ : List Addr} {N : Addr → Prop}

/-- what `sorted` asks of the items -/
structure Sorts (C : Cx) (s : Shared) (ρ : List Addr) (N : Addr → Prop) (kd : SortKind) (xs : List V) (ms : List Value) : Prop where
  ord : Order leV xs
  uni : ∀ v ∈ xs, ∀ v' ∈ xs, ∀ m, Rel s.heap ρ N v m → Rel s.heap ρ N v' m → v = v'
  kind : ∀ (A : Around) (E : Value → Shared → Prop) (s' : Shared), (∀ b o, s.heap.get? b = some o → s'.heap.get? b = some o) → 2 ≤ ms.length → wpAny C.M A (keyKind' ms.toArray) (fun k s'' => k = kd ∧ s'' = s') E s'
  less : ∀ (A : Around) (E : Value → Shared → Prop) (s' : Shared) (Q : Bool → Shared → Prop), (∀ b o, s.heap.get? b = some o → s'.heap.get? b = some o) → ∀ v ∈ xs, ∀ v' ∈ xs, ∀ m m', Rel s.heap ρ N v m → Rel s.heap ρ N v' m' → Q (!leV v' v) s' → wpAny C.M A (keyLt' kd m m') Q E s'

open Classical in
theorem prim_sortedG {a : Addr} {xs ys : List V} {ms : List Value} {kd : SortKind} (hl : s.heap.PlainList a ms.toArray) (r : RelL s.heap ρ N xs ms) (S : Sorts C s ρ N kd xs ms) (hlen : xs.length ≤ 1000000) (hp : ys.Perm xs) (hs : ys.Pairwise fun a b => leV a b = true) :
    wpAny C.M A (call (.builtin "sorted") [.ref a]) (NewList s ρ N ys) E s := by
  let val : Value → V := fun m => if h : ∃ v ∈ xs, Rel s.heap ρ N v m then Classical.choose h else .none
  have hv : ∀ v ∈ xs, ∀ m, Rel s.heap ρ N v m → val m = v := fun v hv m q => by
    have h : ∃ v ∈ xs, Rel s.heap ρ N v m := ⟨v, hv, q⟩
    show (if h : ∃ v ∈ xs, Rel s.heap ρ N v m then Classical.choose h else .none) = v
    rw [dif_pos h]
    exact S.uni _ (Classical.choose_spec h).1 v hv m (Classical.choose_spec h).2 q
  have hm : ∀ m ∈ ms, ∃ v ∈ xs, Rel s.heap ρ N v m := fun m q => by
    obtain ⟨i, e⟩ := List.mem_iff_getElem?.mp q
    obtain ⟨v, e1, e2⟩ := r.get' e
    exact ⟨v, List.mem_of_getElem? e1, e2⟩
  refine sorted_any (kd := kd) (κ := fun m => rank leV xs (val m)) hl.isList (by rw [← r.length]; omega) (fun s' k h2 => S.kind _ _ s' k h2) (fun s' k x y hx hy st Q hk hq => ?_) fun out p q => ?_
  · rw [pairsOf_toList] at hx hy
    obtain ⟨v, hv1, r1⟩ := hm _ (mem_zip_self hx).2
    obtain ⟨u, hu1, r2⟩ := hm _ (mem_zip_self hy).2
    rw [lt'_eq]
    refine wpS_bind (wpS_get ?_)
    rw [hk]
    refine wpS_bind (wpS_lift (wpAny_attempt (S.less _ _ s' _ k v hv1 u hu1 _ _ r1 r2 ⟨rfl, wpS_pure ?_⟩)))
    rw [← S.ord.rank hv1 hu1, ← hv v hv1 _ r1, ← hv u hu1 _ r2]
    exact hq
  · obtain ⟨zs, p', r'⟩ := r.perm p
    have e : zs = ys := by
      refine (p'.trans hp.symm).eq_of_pairwise (le := fun a b => leV a b = true) (fun x y hx hy => S.ord.anti x (p'.mem_iff.mp hx) y (hp.mem_iff.mp hy)) ?_ hs
      rw [List.pairwise_iff_getElem]
      intro i j hi hj hij
      have gi : zs[i] ∈ xs := p'.mem_iff.mp (List.getElem_mem _)
      have gj : zs[j] ∈ xs := p'.mem_iff.mp (List.getElem_mem _)
      obtain ⟨m, e1, r1⟩ := r'.get (List.getElem?_eq_getElem hi)
      obtain ⟨m', e2, r2⟩ := r'.get (List.getElem?_eq_getElem hj)
      obtain ⟨hi', q1⟩ := List.getElem?_eq_some_iff.mp e1
      obtain ⟨hj', q2⟩ := List.getElem?_eq_some_iff.mp e2
      have := List.pairwise_iff_getElem.mp q i j hi' hj' hij
      rw [q1, q2, hv _ gi _ r1, hv _ gj _ r2] at this
      exact S.ord.le_of gi gj this
    subst e
    obtain ⟨e, he⟩ := sortedAll_at s.heap ms out
    have hf : s.heap.get? (s.heap.objs.size + 1) = none := by
      cases e : s.heap.get? (s.heap.objs.size + 1) with
      | none => rfl
      | some o => exact absurd (Heap.lt_size e) (Nat.not_lt.mpr (Nat.le_succ _))
    refine ⟨_, out.toList, rfl, hf, ⟨fun b o hb => sortedAll_old hb, rfl, rfl⟩, ⟨e, by simpa [seqObj] using he⟩, r', ?_⟩
    rw [hp.length_eq]; unfold maxLen; omega
end
end
end Mine
set_option autoImplicit false
namespace Mine
noncomputable section
open PySem PyProof.Rows PySem.W

section
variable {C : Cx} {s : Shared} {ρ : List Addr} {N : Addr → Prop}

theorem leV_int (a b : Int) : leV (.int a) (.int b) = decide (a ≤ b) := rfl
theorem leV_pr (a b c d : Int) : leV (.tup [.int a, .int b]) (.tup [.int c, .int d]) = decide (a < c ∨ a = c ∧ b ≤ d) := by
  show (if (a == c) = true then (if (b == d) = true then true else decide (b ≤ d)) else decide (a ≤ c)) = _
  by_cases h : a = c
  · subst h
    rw [if_pos (beq_self_eq_true a)]
    by_cases h' : b = d
    · subst h'; rw [if_pos (beq_self_eq_true b)]; simp
    · rw [if_neg (by simpa using h')]; simp
  · rw [if_neg (by simpa using h)]
    rw [decide_eq_decide]
    constructor
    · intro q; exact .inl (Int.lt_iff_le_and_ne.mpr ⟨q, h⟩)
    · rintro (q | q)
      · exact Int.le_of_lt q
      · exact absurd q.1 h

theorem order_ints {xs : List V} (h : ∀ v ∈ xs, ∃ i, v = .int i) : Order leV xs := by
  refine ⟨fun x hx y hy => ?_, fun x hx y hy z hz => ?_, fun x hx y hy => ?_⟩
  · obtain ⟨a, rfl⟩ := h x hx
    obtain ⟨b, rfl⟩ := h y hy
    rw [leV_int, leV_int, decide_eq_true_iff, decide_eq_true_iff]; exact Int.le_total a b
  · obtain ⟨a, rfl⟩ := h x hx
    obtain ⟨b, rfl⟩ := h y hy
    obtain ⟨c, rfl⟩ := h z hz
    rw [leV_int, leV_int, leV_int, decide_eq_true_iff, decide_eq_true_iff, decide_eq_true_iff]; exact Int.le_trans
  · obtain ⟨a, rfl⟩ := h x hx
    obtain ⟨b, rfl⟩ := h y hy
    rw [leV_int, leV_int, decide_eq_true_iff, decide_eq_true_iff]; exact fun p q => congrArg _ (Int.le_antisymm p q)
theorem order_prs {xs : List V} (h : ∀ v ∈ xs, ∃ i j, v = .tup [.int i, .int j]) : Order leV xs := by
  refine ⟨fun x hx y hy => ?_, fun x hx y hy z hz => ?_, fun x hx y hy => ?_⟩
  · obtain ⟨a, b, rfl⟩ := h x hx
    obtain ⟨c, d, rfl⟩ := h y hy
    rw [leV_pr, leV_pr, decide_eq_true_iff, decide_eq_true_iff]; omega
  · obtain ⟨a, b, rfl⟩ := h x hx
    obtain ⟨c, d, rfl⟩ := h y hy
    obtain ⟨e, f, rfl⟩ := h z hz
    rw [leV_pr, leV_pr, leV_pr, decide_eq_true_iff, decide_eq_true_iff, decide_eq_true_iff]; omega
  · obtain ⟨a, b, rfl⟩ := h x hx
    obtain ⟨c, d, rfl⟩ := h y hy
    rw [leV_pr, leV_pr, decide_eq_true_iff, decide_eq_true_iff]
    intro p q
    obtain rfl : a = c := by omega
    obtain rfl : b = d := by omega
    rfl

theorem sorts_ints {xs : List V} {ms : List Value} (r : RelL s.heap ρ N xs ms) (h : ∀ v ∈ xs, ∃ i, v = .int i) : Sorts C s ρ N oneType' xs ms := by
  refine ⟨order_ints h, fun v hv v' hv' m q q' => ?_, fun A E s' k h2 => ?_, fun A E s' Q k v hv v' hv' m m' q q' hQ => ?_⟩
  · obtain ⟨a, rfl⟩ := h v hv
    obtain ⟨b, rfl⟩ := h v' hv'
    cases q; cases q'; rfl
  · have ia : IntsAre ms (ms.map numOf) := intsAre_map ms fun m hm => by
      obtain ⟨i, e⟩ := List.mem_iff_getElem?.mp hm
      obtain ⟨v, e1, e2⟩ := r.get' e
      obtain ⟨a, rfl⟩ := h v (List.mem_of_getElem? e1)
      cases e2; exact ⟨_, _, rfl⟩
    match ms, h2, ia with
    | v₁ :: v₂ :: rest, _, ia => rw [keyKind_ints ia]; exact wpAny_pure ⟨rfl, rfl⟩
  · obtain ⟨a, rfl⟩ := h v hv
    obtain ⟨b, rfl⟩ := h v' hv'
    cases q; cases q'
    rw [keyLt'_oneType]
    refine oneLt_int ?_
    rw [leV_int, ← decide_not] at hQ
    rwa [show decide (a < b) = decide (¬ b ≤ a) from decide_eq_decide.mpr Int.not_le.symm]

theorem tup2 {h : Heap} {x y : Int} {m : Value} (q : Rel h ρ N (.tup [.int x, .int y]) m) : ∃ a o t u n, m = .ref a ∧ h.get? a = some o ∧ o.cls = .type "tuple" ∧ o.data = .seq #[.int x t, .int y u] n := by
  cases q with
  | tup ht _ _ r =>
    obtain ⟨o, ho, hc, n, hd⟩ := ht
    cases r with | cons q1 r => cases q1; cases r with | cons q2 r => cases q2; cases r; exact ⟨_, o, _, _, n, rfl, ho, hc, hd⟩

theorem katTups {h : Heap} {xs : List V} {ms : List Value} (r : RelL h ρ N xs ms) : (∀ v ∈ xs, ∃ i j, v = .tup [.int i, .int j]) → ∃ fs : List Value, KatTups h ms fs ∧ fs.length = ms.length ∧ ∀ v ∈ fs, ∃ i t, v = .int i t :=
  r.walk (L := fun xs ms => (∀ v ∈ xs, ∃ i j, v = .tup [.int i, .int j]) → ∃ fs : List Value, KatTups h ms fs ∧ fs.length = ms.length ∧ ∀ v ∈ fs, ∃ i t, v = .int i t) (fun _ => ⟨[], .nil, rfl, fun _ q => absurd q List.not_mem_nil⟩) fun a _ ih hv => by
    obtain ⟨i, j, rfl⟩ := hv _ List.mem_cons_self
    obtain ⟨ad, o, t, u, n, rfl, ho, hc, hd⟩ := tup2 a
    obtain ⟨fs, h1, h2, h3⟩ := ih fun v q => hv v (List.mem_cons_of_mem _ q)
    refine ⟨.int i t :: fs, .cons ho hc hd rfl h1, congrArg Nat.succ h2, fun v q => ?_⟩
    rcases List.mem_cons.mp q with rfl | q
    · exact ⟨i, t, rfl⟩
    · exact h3 v q

theorem sorts_prs {xs : List V} {ms : List Value} (r : RelL s.heap ρ N xs ms) (h : ∀ v ∈ xs, ∃ i j, v = .tup [.int i, .int j]) : Sorts C s ρ N (tuples' true) xs ms := by
  refine ⟨order_prs h, fun v hv v' hv' m q q' => ?_, fun A E s' k h2 => ?_, fun A E s' Q k v hv v' hv' m m' q q' hQ => ?_⟩
  · obtain ⟨a, b, rfl⟩ := h v hv
    obtain ⟨c, d, rfl⟩ := h v' hv'
    obtain ⟨ad, o, t, u, n, rfl, ho, _, hd⟩ := tup2 q
    obtain ⟨ad', o', t', u', n', e, ho', _, hd'⟩ := tup2 q'
    cases e
    rw [ho] at ho'; cases ho'
    rw [hd] at hd'; cases hd'; rfl
  · obtain ⟨fs, h1, h3, h4⟩ := katTups r h
    have t : KatTups s'.heap ms fs := by
      clear h2 h3 h4 r
      induction ms generalizing fs with
      | nil => cases fs with | nil => trivial | cons _ _ => exact h1.elim
      | cons m ms ih => cases fs with
        | nil => exact h1.elim
        | cons f fs => exact ⟨let ⟨a, o, xs, n, e, ho, z⟩ := h1.1; ⟨a, o, xs, n, e, k a o ho, z⟩, ih fs h1.2⟩
    refine kat_kind (T := .type "int") t (by omega) (fun v hv => ?_) rfl ⟨rfl, rfl⟩
    obtain ⟨i, tk, rfl⟩ := h4 v hv
    exact fun A Q E s _ q => wpAny_pure q
  · obtain ⟨a, b, rfl⟩ := h v hv
    obtain ⟨c, d, rfl⟩ := h v' hv'
    obtain ⟨ad, o, t, u, n, rfl, ho, _, hd⟩ := tup2 q
    obtain ⟨ad', o', t', u', n', rfl, ho', _, hd'⟩ := tup2 q'
    rw [leV_pr, ← decide_not] at hQ
    refine kat_lt (k _ _ ho) hd (k _ _ ho') hd' (kat_cons (wpAny_eqBool_int (kat_go (fun e => kat_yes (kat_cons (wpAny_eqBool_int (kat_go (fun e' => kat_yes (kat_nil ?_)) fun e' => kat_no (kat_one _ _ (wpAny_lt_int ?_)))))) fun e => kat_no (oneLt_int ?_))))
    · have := beq_iff_eq.mp e; have := beq_iff_eq.mp e'
      rwa [decide_eq_false (by omega)] at hQ
    · have := beq_iff_eq.mp e
      show Q (decide (b < d)) s'
      rwa [decide_eq_decide.mpr (show ¬ (c < a ∨ c = a ∧ d ≤ b) ↔ b < d by omega)] at hQ
    · have : ¬ a = c := by simpa using e
      rwa [decide_eq_decide.mpr (show ¬ (c < a ∨ c = a ∧ d ≤ b) ↔ a < c by omega)] at hQ

theorem prim_sorted {A : Around} {E : Value → Shared → Prop} {a : Addr} {xs ys : List V} {ms : List Value} (hl : s.heap.PlainList a ms.toArray) (r : RelL s.heap ρ N xs ms) (hk : Sortable xs) (hlen : xs.length ≤ 1000000) (hp : ys.Perm xs) (hs : ys.Pairwise fun a b => leV a b = true) :
    wpAny C.M A (call (.builtin "sorted") [.ref a]) (NewList s ρ N ys) E s := by
  cases hk with
  | nums h => exact prim_sortedG hl r (sorts_ints r h) hlen hp hs
  | duos h => exact prim_sortedG hl r (sorts_prs r h) hlen hp hs --#sortPrs
end
end
end Mine
set_option autoImplicit false
set_option genInjectivity false
set_option genSizeOf false
namespace Mine
noncomputable section
open PySem PyProof.Rows
variable {γ : Gh}

section
variable {C : Cx} {k : Nat} {sc : Scope} {env : Env} {A : Around} {ρ₀ : List Addr} {st₀ : St} {s₀ : Shared} {ρ : List Addr} {st : St} {s : Shared} {X : String → St → Prop}

/-- the value of a global name -/
theorem name_blt {f : String} {p : Pos} {Q : Value → Shared → Prop} {E : Value → Shared → Prop} (I : Inv C γ ρ st.H s) (F : Fra γ env st ρ s) (hf : f ∈ bltNames) (hk : isGlo env.scope f = true) (h : Q (bltVal f) s) :
    wpAny C.M A (eval (.Name (f : Str) p) env) Q E s := by
  simp only [isGlo, Bool.and_eq_true, beq_iff_eq, Bool.not_eq_true', kd] at hk
  exact Calls.Name_function_global F.kind hk.1 (Calls.loadGlobal_builtin (mg := C.mg) (mb := C.mb) (by rw [F.glob]; exact C.g.keeps I.base) (C.blts f hf).1 (by rw [F.blt]; exact C.b.keeps I.base) (C.blts f hf).2 h) hk.2
theorem name_ref {c : String} {p : Pos} {cls : Addr} {Q : Value → Shared → Prop} {E : Value → Shared → Prop} (I : Inv C γ ρ st.H s) (F : Fra γ env st ρ s) (hc : C.mg c = some (.ref cls)) (hk : isGlo env.scope c = true) (h : Q (.ref cls) s) :
    wpAny C.M A (eval (.Name (c : Str) p) env) Q E s := by
  simp only [isGlo, Bool.and_eq_true, beq_iff_eq, Bool.not_eq_true', kd] at hk
  exact Calls.Name_function_global F.kind hk.1 (Calls.loadGlobal_global (mg := C.mg) (by rw [F.glob]; exact C.g.keeps I.base) hc h) hk.2

theorem evalArgs_at {f : Value} {es : Es} {pes : List Expr} {pos : Pos} {W : List V → St → Prop} {K : Args → Shared → Prop} (ih : SEs C k sc es pes) (hs : env.scope = sc) (hne : pes ≠ []) (hr : Room k A γ) (a : At C γ env ρ₀ st₀ s₀ ρ st s) (w : wEs (Calls C k) C.glo es st W X)
    (h : ∀ ms s' vs st' ρ', ms.length = pes.length → W vs st' → RelL s'.heap ρ' (Nl γ ρ' st'.H) vs ms → At C γ env ρ₀ st₀ s₀ ρ' st' s' → Stp ρ st.H s ρ' st'.H s' → K ⟨ms, []⟩ s') : wpAny C.M A (evalArgs f true (backTo pos (starEach pes env)) []) K (PostX C γ ρ₀ st₀ s₀ X) s := by
  cases pes with
  | nil => exact absurd rfl hne
  | cons p r =>
    have key := ih.at (pos := pos) hs hr a w h
    rw [star_one (ih.1 p List.mem_cons_self)] at key ⊢
    exact Calls.evalArgs_plain key

theorem se_call {f : String} {es : Es} {pes : List Expr} {p q : Pos} (hf : f ∈ C.fns) (hk : isGlo sc f = true) (hne : pes ≠ []) (hes : SEs C k sc es pes) : SE C k sc (.call f es) (.Call (.Name (f : Str) p) pes [] q) := fun env A s γ ρ st Q X hs hr I F w => by
  obtain ⟨fa, o, fd, h1, h2, h3⟩ := C.hfns f hf
  refine Call_ (name_ref I F h1 (hs ▸ hk) (Calls.callWith_function (o := o) (fd := fd) (evalArgs_at hes hs hne hr (At.start I F) w fun ms s₁ vs st₁ ρ₁ hn w₁ r₁ a₁ S₁ => ⟨⟨a₁.inv.base _ _ h2, h3⟩, ?_⟩)))
  rcases w₁ with ⟨v, H', hc, hQ⟩ | ⟨c, H', hc, hX⟩
  · refine wpAny_call (codeAny_mono (hc A s₁ γ ρ₁ ms fa hr a₁.inv r₁ h1) fun res s' p => ?_)
    cases res with
    | error e => exact p.elim
    | ok fl =>
      cases fl <;> first | exact p.elim | skip
      obtain ⟨ρ', p1, p2, p3⟩ := p
      exact ⟨v, _, ρ', hQ, a₁.same, p1, p2, a₁.stp.trans p3⟩
  · refine wpAny_call (codeAny_mono (hc A s₁ γ ρ₁ ms fa hr a₁.inv r₁ h1) fun res s' p => ?_)
    cases res with
    | ok fl => cases fl <;> exact p.elim
    | error e =>
      obtain ⟨ρ', p1, p2, p3⟩ := p
      exact ⟨c, _, ρ', hX, a₁.same, p1.back (a₁.stp.back a₁.inv), p2, a₁.stp.trans p3⟩

theorem ty_blt {t : String} (ht : t ∈ tyNames) : t ∈ bltNames ∧ bltVal t = .type t := by
  simp only [tyNames, List.mem_cons, List.not_mem_nil, or_false] at ht
  rcases ht with rfl | rfl | rfl | rfl | rfl <;> decide
/-- isinstance, of what stands for a class -/
theorem isi_of {a : E} {pa pt : Expr} {p q : Pos} {W : V → St → Prop} {Q : V → St → Prop} {d : Value} (hk : isGlo sc "isinstance" = true) (hh : headOk pa = true) (hpt : headOk pt = true) (ha : SE C k sc a pa) (hs : env.scope = sc) (hr : Room k A γ) (I : Inv C γ ρ st.H s) (F : Fra γ env st ρ s) (w : wE (Calls C k) C.glo a st W X)
    (hn : ∀ {Q E : Value → Shared → Prop} {ρ st s}, Inv C γ ρ st.H s → Fra γ env st ρ s → Q d s → wpAny C.M A (eval pt env) Q E s)
    (h : ∀ mv s' v st' ρ', W v st' → Rel s'.heap ρ' (Nl γ ρ' st'.H) v mv → At C γ env ρ st s ρ' st' s' → ∃ b, Q (.bool b) st' ∧ wpAny C.M A (call (.builtin "isinstance") [mv, d]) (Same s' fun mv => Rel s'.heap ρ' (Nl γ ρ' st'.H) (.bool b) mv) (PostX C γ ρ st s X) s') :
    wpAny C.M A (eval (.Call (.Name ("isinstance" : String) p) [pa, pt] [] q) env) (Post C γ ρ st s Q) (PostX C γ ρ st s X) s := by
  refine Call_ (name_blt I F (f := "isinstance") (by decide) (hs ▸ hk) ?_)
  show wpAny C.M A (callWith q (.builtin "isinstance") [] _ []) _ _ s
  refine callWith_builtin1 (args_cons (ha.at hs hr (At.start I F) w fun mv s₁ v st₁ ρ₁ w₁ r₁ a₁ S₁ => args_cons (hn a₁.inv a₁.fra (args_nil ?_)) (star_one hpt)) (star_one hh)) (star_one hh) (by rw [star_one hpt]; rfl)
  obtain ⟨b, hQ, x⟩ := h mv s₁ v st₁ ρ₁ w₁ r₁ a₁
  exact wpAny_mono x (fun _ _ p => a₁.sameP hQ p) fun _ _ x => x
theorem se_isi {a : E} {t : String} {pa : Expr} {p p' q : Pos} (hk : isGlo sc "isinstance" = true) (ht : t ∈ tyNames) (hk' : isGlo sc t = true) (hh : headOk pa = true) (ha : SE C k sc a pa) : SE C k sc (.isi a t) (.Call (.Name ("isinstance" : String) p) [pa, .Name (t : Str) p'] [] q) := fun env A s γ ρ st Q X hs hr I F w =>
  isi_of hk hh rfl ha hs hr I F w (fun I F h => name_blt I F (ty_blt ht).1 (hs ▸ hk') ((ty_blt ht).2 ▸ h)) fun mv s' v st' ρ' w' r' a' => by
    obtain ⟨X, e, hQ⟩ := w'
    exact ⟨_, hQ, prim_isi a'.inv ht e r'⟩

/-- what stands in the table for an exception -/
theorem exc_at {v : V} {m : Value} {c : String} (I : Inv C γ ρ st.H s) (r : Rel s.heap ρ (Nl γ ρ st.H) v m) (h : ExcOf st.H v c) : c ∈ C.exs ∧ ∃ x ox cls, m = .ref x ∧ C.mg c = some (.ref cls) ∧ PySem.W.InstAt s.heap x ox cls none := by
  cases h with
  | mk hH =>
    obtain ⟨a, rfl, hρ⟩ := r.loc_inv
    obtain ⟨h0, o, cls, vs, h1, h2, h3, h4, h5⟩ := I.obj _ _ _ hρ hH
    refine ⟨h0, a, o, cls, rfl, h2, ⟨h1, h3, ?_, ?_⟩⟩
    · unfold PySem.W.notCls; rw [h5]
    · rw [h4]; trivial
theorem prim_exc {Ex : Value → Shared → Prop} {x : Addr} {ox : Obj} {c : String} {cls : Addr} {d : Value} {b : Bool} (I : Inv C γ ρ st.H s) (hc : c ∈ C.exs) (hm : C.mg c = some (.ref cls)) (hi : PySem.W.InstAt s.heap x ox cls none)
    (hb : ∀ K : PySem.W.Frag, PySem.W.kitOne K (.ref cls) (.type "ValueError") = some true → (∀ c' ∈ C.exs, ∃ cls', C.mg c' = some (.ref cls') ∧ PySem.W.kitOne K (.ref cls) (.ref cls') = some (catches c' c) ∧ (catches c' c = true → matchLook K cls cls' = true)) → PySem.W.kitOne K (.ref cls) d = some b) :
    wpAny C.M A (call (.builtin "isinstance") [.ref x, d]) (Same s fun mv => Rel s.heap ρ (Nl γ ρ st.H) (.bool b) mv) Ex s := by
  obtain ⟨cls', ⟨⟨h0, _⟩, K, hK, h1, h2, h3⟩⟩ := C.hexs c hc
  have h0 : C.mg (c : Str) = some (.ref cls') := h0
  rw [hm] at h0; cases h0
  exact exc_isi (fun a o e => I.base a o (hK a o e)) hi h1 (hb K h2 h3) fun tk => ⟨.bool _, tk, rfl⟩
theorem se_isiC {a : E} {c : String} {pa : Expr} {p p' q : Pos} (hk : isGlo sc "isinstance" = true) (ht : c ∈ C.exs) (hk' : isGlo sc c = true) (hh : headOk pa = true) (ha : SE C k sc a pa) : SE C k sc (.isiC a c) (.Call (.Name ("isinstance" : String) p) [pa, .Name (c : Str) p'] [] q) := fun env A s γ ρ st Q X hs hr I F w => by
  obtain ⟨cls, ⟨⟨hcm, _⟩, _⟩⟩ := C.hexs c ht
  refine isi_of hk hh rfl ha hs hr I F w (fun I F h => name_ref I F hcm (hs ▸ hk') h) fun mv s' v st' ρ' w' r' a' => ?_
  obtain ⟨c', e, hQ⟩ := w'
  obtain ⟨h0, x, ox, cls', rfl, h1, h2⟩ := exc_at a'.inv r' e
  refine ⟨_, hQ, prim_exc a'.inv h0 h1 h2 fun K _ q => ?_⟩
  obtain ⟨z, z1, z2, _⟩ := q c ht
  rw [show C.mg (c : Str) = some (.ref cls) from hcm] at z1; cases z1
  exact z2
theorem se_isiV {a : E} {pa : Expr} {p p' q : Pos} (hk : isGlo sc "isinstance" = true) (hk' : isGlo sc "ValueError" = true) (hh : headOk pa = true) (ha : SE C k sc a pa) : SE C k sc (.isiV a) (.Call (.Name ("isinstance" : String) p) [pa, .Name ("ValueError" : String) p'] [] q) := fun env A s γ ρ st Q X hs hr I F w =>
  isi_of hk hh rfl ha hs hr I F w (fun I F h => name_blt I F (f := "ValueError") (by decide) (hs ▸ hk') h) fun mv s' v st' ρ' w' r' a' => by
    obtain ⟨c', e, hQ⟩ := w'
    obtain ⟨h0, x, ox, cls', rfl, h1, h2⟩ := exc_at a'.inv r' e
    exact ⟨true, hQ, prim_exc a'.inv h0 h1 h2 fun K q _ => q⟩

theorem RelL.one_inv {h : Heap} {N : Addr → Prop} {v : V} {ms : List Value} (r : RelL h ρ N [v] ms) : ∃ m, ms = [m] ∧ Rel h ρ N v m := by
  obtain ⟨m, r', rfl, h1, h2⟩ := r.cons_inv
  rw [h2.nil_inv]; exact ⟨m, rfl, h1⟩
theorem prim_blt {f : BN} {vs : List V} {ms : List Value} {Q : V → St → Prop} (hr : Room k A γ) (a : At C γ env ρ₀ st₀ s₀ ρ st s) (r : RelL s.heap ρ (Nl γ ρ st.H) vs ms) (w : bltW f vs st Q) :
    wpAny C.M A (call (bltVal f.name) ms) (Post C γ ρ₀ st₀ s₀ Q) (PostX C γ ρ₀ st₀ s₀ X) s := by
  rcases w with ⟨v, e, w⟩ | ⟨xs, e, w⟩
  · cases e with
    | len e =>
      obtain ⟨m, rfl, r1⟩ := r.one_inv
      exact wpAny_mono (prim_len a.inv e r1) (fun _ _ p => a.sameP w p) fun _ _ x => x
    | str h => --#str
      obtain ⟨m, rfl, r1⟩ := r.one_inv --#str
      obtain ⟨t, rfl⟩ := r1.int_inv --#str
      exact wpAny_mono (prim_strInt (ρ := ρ) (H := st.H) h) (fun _ _ p => a.sameP w p) fun _ _ x => x --#str
    | int b => --#int
      obtain ⟨m, rfl, r1⟩ := r.one_inv --#int
      obtain rfl := r1.bool_inv --#int
      exact wpAny_mono (prim_intBool (ρ := ρ) (H := st.H)) (fun _ _ p => a.sameP w p) fun _ _ x => x --#int
    | range1 b =>
      obtain ⟨m, rfl, r1⟩ := r.one_inv
      obtain ⟨t, rfl⟩ := r1.int_inv
      exact wpAny_mono (prim_range1 a.inv) (fun _ _ p => a.grewP w p) fun _ _ x => x
    | range2 _ _ => --#range2
      obtain ⟨m, r', rfl, q1, r2⟩ := r.cons_inv --#range2
      obtain ⟨m', rfl, q2⟩ := r2.one_inv --#range2
      obtain ⟨t, rfl⟩ := q1.int_inv --#range2
      obtain ⟨u, rfl⟩ := q2.int_inv --#range2
      exact wpAny_mono (prim_range2 a.inv) (fun _ _ p => a.grewP w p) fun _ _ x => x --#range2
    | range3 h0 h1 => --#range3
      obtain ⟨m, r', rfl, q1, r2⟩ := r.cons_inv --#range3
      obtain ⟨m', r', rfl, q2, r3⟩ := r2.cons_inv --#range3
      obtain ⟨m'', rfl, q3⟩ := r3.one_inv --#range3
      obtain ⟨t, rfl⟩ := q1.int_inv --#range3
      obtain ⟨u, rfl⟩ := q2.int_inv --#range3
      obtain ⟨v, rfl⟩ := q3.int_inv --#range3
      exact wpAny_mono (prim_range3 a.inv h0 (by omega)) (fun _ _ p => a.grewP w p) fun _ _ x => x --#range3
  · cases e with
    | list e => --#list
      obtain ⟨m, rfl, r1⟩ := r.one_inv --#list
      obtain ⟨b, ms, rfl, hl, hrr, hlen⟩ := a.inv.view r1 e --#list
      exact wpAny_mono (prim_listOf hl hrr hlen) (fun _ _ p => a.newP w p) fun _ _ x => x --#list
    | sorted e hk hlen hp hs => --#sorted
      obtain ⟨m, rfl, r1⟩ := r.one_inv --#sorted
      obtain ⟨b, ms, rfl, hl, hrr, _⟩ := a.inv.view r1 e --#sorted
      exact wpAny_mono (prim_sorted hl hrr hk hlen hp hs) (fun _ _ p => a.newP w p) fun _ _ x => x --#sorted
theorem bn_mem (f : BN) : f.name ∈ bltNames := by cases f <;> decide
theorem se_blt {f : BN} {es : Es} {pes : List Expr} {p q : Pos} (hk : isGlo sc f.name = true) (hne : pes ≠ []) (hes : SEs C k sc es pes) : SE C k sc (.blt f es) (.Call (.Name (f.name : Str) p) pes [] q) := fun env A s γ ρ st Q X hs hr I F w => by
  refine Call_ (name_blt I F (bn_mem f) (hs ▸ hk) ?_)
  have key : ∀ f', wpAny C.M A (evalArgs f' true (backTo q (starEach pes env)) []) (fun a s₁ => wpAny C.M A (call (bltVal f.name) ([] ++ a.pos) a.kw) (Post C γ ρ st s Q) (PostX C γ ρ st s X) s₁) (PostX C γ ρ st s X) s :=
    fun f' => evalArgs_at hes hs hne hr (At.start I F) w fun ms s₁ vs st₁ ρ₁ hn w₁ r₁ a₁ S₁ => prim_blt hr a₁ r₁ w₁
  have two : (∃ g, bltVal f.name = .builtin g) ∨ ∃ g, bltVal f.name = .type g := by
    unfold bltVal
    by_cases h : ["len", "isinstance", "sorted", "max", "min"].contains f.name = true
    · rw [if_pos h]; exact .inl ⟨_, rfl⟩
    · rw [if_neg h]; exact .inr ⟨_, rfl⟩
  rcases two with ⟨g, e⟩ | ⟨g, e⟩
  · rw [e] at key ⊢
    exact Calls.callWith_builtin (star_any hes.1) (key _)
  · rw [e] at key ⊢
    exact PySem.callWith_type (star_any hes.1) (key _)
end
end
end Mine
set_option autoImplicit false
set_option genInjectivity false
set_option genSizeOf false
namespace Mine
noncomputable section
open PySem PyProof.Rows
variable {γ : Gh}

/-- one of the objects is changed -/
theorem Inv.upd {C : Cx} {ρ : List Addr} {H : List HO} {s s' : Shared} {i : Nat} {a : Addr} {o o' : HO} (I : Inv C γ ρ H s) (ha : ρ[i]? = some a) (hH : H[i]? = some o) (hl : o.isLive = true) (hl' : o'.isLive = true)
    (sb : ∀ b, b ≠ a → s'.heap.get? b = s.heap.get? b) (ht : ∃ x, s'.heap.get? a = some x) (hg : s'.gens = s.gens) (hos : s'.os = s.os)
    (r : Kept s.heap ρ (Nl γ ρ H) s'.heap ρ (Nl γ ρ (H.set i o')) → ORel C s'.heap ρ (Nl γ ρ (H.set i o')) o' a) : Inv C γ ρ (H.set i o') s' ∧ Stp ρ H s ρ (H.set i o') s' := by
  have live : Lv ρ H a := ⟨i, o, ha, hH, hl⟩
  have na : ¬ γ.h a := I.live_nh live
  have lv : ∀ b, Lv ρ (H.set i o') b → Lv ρ H b := fun b ⟨j, x, h1, h2, h3⟩ => by
    rcases set_cases h2 with ⟨rfl, _, _⟩ | ⟨_, h2⟩
    · rw [ha] at h1; cases h1; exact live
    · exact ⟨j, x, h1, h2, h3⟩
  have kp : Kept s.heap ρ (Lv ρ H) s'.heap ρ (Lv ρ (H.set i o')) :=
    ⟨fun b x e n => ⟨x, (sb b (fun q => n (q ▸ live))).trans e, .refl x⟩, fun b q => .inl (lv b q), fun _ _ e => e⟩
  refine ⟨⟨fun b x e => (sb b fun q => ?_).trans (I.base b x e), by rw [List.length_set]; exact I.len, I.nodup, I.fresh, fun b hb => ?_, fun j b x e1 e2 => ?_, I.apart, ?_, fun b q => ?_, I.off, (fun b q => let ⟨x, es, n, e, d⟩ := I.frm b q; ⟨x, es, n, (sb b fun z => na (z ▸ γ.fh b q)).trans e, d⟩), I.hdl' kp, (fun z => I.hq (by simpa using z)), hg.trans I.gens, hos.trans I.os⟩, ⟨kp⟩⟩
  · rw [q, I.fresh a (List.mem_of_getElem? ha)] at e; cases e
  · by_cases q : b = a
    · rw [q]; exact ht
    · obtain ⟨x, hx⟩ := I.there b hb; exact ⟨x, (sb b q).trans hx⟩
  · rcases set_cases e2 with ⟨rfl, rfl, _⟩ | ⟨ne, e2⟩
    · rw [ha] at e1; cases e1; exact r kp.gh
    · exact (I.obj j b x e1 e2).kept kp.gh fun y hy => (sb b fun q => ne (nodup_idx I.nodup ha (q ▸ e1))).trans hy
  · intro j b x e1 q e2
    rcases set_cases e2 with ⟨rfl, _, _⟩ | ⟨_, e2⟩
    · rw [ha] at e1; cases e1; exact absurd (γ.bh _ q) na
    · exact I.bor j b x e1 q e2
  · obtain ⟨x, hx⟩ := I.held b q
    exact ⟨x, (sb b fun e => na (e ▸ q)).trans hx⟩

section
variable {C : Cx} {k : Nat} {sc : Scope} {env : Env} {A : Around} {ρ₀ : List Addr} {st₀ : St} {s₀ : Shared} {ρ : List Addr} {st : St} {s : Shared} {X : String → St → Prop}

theorem prim_append {i : Nat} {xs : List V} {v : V} {m mv : Value} {Q : V → St → Prop} (at_ : At C γ env ρ₀ st₀ s₀ ρ st s) (ro : Rel s.heap ρ (Nl γ ρ st.H) (.loc i) m) (hH : st.H[i]? = some (.list xs)) (r : Rel s.heap ρ (Nl γ ρ st.H) v mv) (hl : xs.length < 16000000)
    (w : Q .none ⟨st.s, st.H.set i (.list (xs ++ [v]))⟩) : wpAny C.M A (call (.builtin "list.append") [m, mv]) (Post C γ ρ₀ st₀ s₀ Q) (PostX C γ ρ₀ st₀ s₀ X) s := by
  obtain ⟨a, rfl, ha⟩ := ro.loc_inv
  obtain ⟨ms, hp, hr, hlen⟩ := at_.inv.obj i _ _ ha hH
  refine wpAny_list_append_plain hp (fun h' hp' sb => ?_) (by rw [sizeLine_is, List.size_toArray, ← hr.length]; exact hlen)
  obtain ⟨I', S'⟩ := at_.inv.upd (s' := { s with heap := h' }) (o' := .list (xs ++ [v])) ha hH rfl rfl sb.2 (IsList_there hp') rfl rfl fun kp =>
    ⟨ms ++ [mv], by simpa using hp', (hr.kept kp).append (.cons (r.kept kp) .nil), by rw [List.length_append]; unfold maxLen; exact Nat.le_trans (Nat.succ_le_of_lt hl) (by decide)⟩
  exact ⟨_, _, ρ, w, at_.same, .none, I', at_.stp.trans S'⟩

theorem startswith_pre (a b : List Nat) : Txt.startswith ⟨a.toArray⟩ ⟨b.toArray⟩ = b.isPrefixOf a := by
  unfold Txt.startswith
  rw [StrLaws.subAt_eq, str_len, str_len, Bool.eq_iff_iff]
  simp only [Bool.and_eq_true, decide_eq_true_eq, beq_iff_eq, List.drop_zero, List.isPrefixOf_iff_prefix]
  constructor
  · rintro ⟨_, h⟩
    rw [← h]; exact List.take_prefix _ _
  · intro h
    exact ⟨by have := h.length_le; omega, (List.prefix_iff_eq_take.mp h).symm⟩

theorem base_of {pe : Expr} {name : Str} {env : Env} {whole : Sem Value} (h : headOk pe = true) : attributeBase pe name env whole = whole := by
  cases pe <;> first | rfl | skip
  rename_i f es kw p
  cases es with
  | nil => cases h
  | cons _ _ => cases f <;> rfl

noncomputable def MN.id (m : MN) : String := MN.rec "list.append" "str.startswith" m

theorem mth_call {m : MN} {o : V} {mo : Value} {vs : List V} {ms : List Value} {Q : V → St → Prop} (hr : Room k A γ) (a : At C γ env ρ₀ st₀ s₀ ρ st s) (ro : Rel s.heap ρ (Nl γ ρ st.H) o mo) (r : RelL s.heap ρ (Nl γ ρ st.H) vs ms) (w : mthW m o vs st Q) :
    wpAny C.M A (call (.builtin m.id) (mo :: ms)) (Post C γ ρ₀ st₀ s₀ Q) (PostX C γ ρ₀ st₀ s₀ X) s := by
  rcases w with ⟨v, e, w⟩ | w
  · cases e with
    | starts x y => --#starts
      obtain ⟨m, rfl, r1⟩ := r.one_inv --#starts
      obtain ⟨t, rfl, _⟩ := ro.str_inv --#starts
      obtain ⟨u, rfl, _⟩ := r1.str_inv --#starts
      refine SC.startswith (a.post w ?_) --#starts
      rw [startswith_pre]; exact .bool _ --#starts
  rcases w with ⟨i, xs, v, ⟨rfl, rfl, rfl⟩, hH, hl, w⟩ | w --#append
  · obtain ⟨m, rfl, r1⟩ := r.one_inv --#append
    exact prim_append a ro hH r1 hl w --#append
  exact w.elim

theorem se_mth {m : MN} {a : E} {es : Es} {pa : Expr} {pes : List Expr} {ap p : Pos} (hh : headOk pa = true) (hne : pes ≠ []) (hlt : pes.length < 20) (hline : ap.endLine = p.line) (ha : SE C k sc a pa) (hes : SEs C k sc es pes) : SE C k sc (.mth m a es) (.Call (.Attribute pa (m.name : Str) ap) pes [] p) := fun env A s γ ρ st Q X hs hr I Fr w => by
  have star := star_any (env := env) (pos := p) hes.1
  have few : ((backTo p (starEach pes env)).all (fun x => !x.1) && (backToKw p (keywordEach [] env)).all (fun x => x.1.isSome) && decide (pes.length + ([] : List Keyword).length + (if ([] : List Keyword).isEmpty then 0 else 1) < 30)) = true := by
    simp only [Bool.and_eq_true, decide_eq_true_eq]
    refine ⟨⟨?_, by rfl⟩, Nat.lt_trans hlt (by decide)⟩
    rw [List.all_eq_true]
    intro x hx
    have := List.any_eq_false.mp star x hx
    simpa using this
  refine wpAny_Call_method_late (base_of hh) few (by simpa using hline) rfl (ha.at hs hr (At.start I Fr) w fun mo s₁ o st₁ ρ₁ w₁ r₁ a₁ S₁ => ?_)
  obtain ⟨hT, w₁⟩ := w₁
  have args : wpAny C.M A (callWith p (.builtin m.id) [mo] (backTo p (starEach pes env)) []) (Post C γ ρ st s Q) (PostX C γ ρ st s X) s₁ :=
    Calls.callWith_builtin star (evalArgs_at hes hs hne hr a₁ w₁ fun ms s' vs st' ρ' _ w' r' a' S' => mth_call hr a' (r₁.kept S'.kept) r' w')
  cases hT with
  | append e => --#append
    obtain ⟨b, ns, rfl, hl, _⟩ := a₁.inv.view r₁ e --#append
    exact ⟨"list", "list.append", F.plainAttrs_list, F.slot_list_append, F.type_list_append, hl.isList.typeIs, fun a e => by cases e; obtain ⟨n, q⟩ := hl; exact ⟨_, q, rfl⟩, args⟩ --#append
  | starts t => --#starts
    obtain ⟨u, rfl, _⟩ := r₁.str_inv --#starts
    exact ⟨"str", "str.startswith", F.plainAttrs_str, F.slot_str_startswith, F.type_str_startswith, typeIs_str _ _ _, (fun _ e => nomatch e), args⟩ --#starts
end
end
end Mine
set_option autoImplicit false
set_option maxRecDepth 100000
set_option genInjectivity false
set_option genSizeOf false
namespace Mine
noncomputable section
open PySem PyProof.Rows
theorem entry_unchain : entryFor table "proto.unchain" = some Builtin.«proto.unchain» := entryFor_of_tree (by kernel_rfl)
section
variable {prog : Program} {w : World} {A : Around} {E : Value → Shared → Prop} {s : Shared}
/-- raised while another is handled that has no context -/
theorem raiseNew_handled {α : Type} {h e : Addr} {oe oh : Obj} {ves vs : Array Value} {Q : α → Shared → Prop} (hh : A.handled = some (.ref h)) (he : s.heap.get? e = some oe) (hd : oe.data = .fields ves) (h2 : 2 < ves.size) (hx : s.heap.get? h = some oh) (hdh : oh.data = .fields vs) (hv : vs[2]? = some .none) (hne : h ≠ e)
    (hE : E (.ref e) { s with heap := s.heap.update e (Obj.mapFields (·.setIfInBounds 2 (.ref h))) }) : wpAny (model prog w) A (raiseNew (.ref e) : Sem α) Q E s := by
  unfold raiseNew
  refine wpAny_bind (wpAny_handled ?_)
  rw [hh]
  have hb : (Value.ref h != Value.ref e) = true := by simpa using hne
  simp only [hb, if_true]
  refine wpAny_bind (wpAny_holding (wpAny_runValue (codeAny_builtin entry_unchain ?_)))
  show wpAny _ _ (field (.ref h) 2 >>= _) _ _ s
  refine wpAny_bind (wpAny_field hx hdh hv ?_)
  refine wpAny_pure ?_
  show wpAny _ _ _ _ _ s
  refine wpAny_bind ?_
  unfold updateField
  refine wpAny_bind (wpAny_load he ?_)
  rw [hd]
  simp only [h2, if_true]
  exact wpAny_update he (wpAny_throw hE)

/-- what is handled, if anything is, has no context -/
noncomputable def HOk (A : Around) (h : Heap) : Prop := ∀ v, A.handled = some v → ∃ e o vs, v = .ref e ∧ h.get? e = some o ∧ o.data = .fields vs ∧ vs[2]? = some .none

/-- a StopIteration, whether another exception is handled or not -/
theorem stop_raise {α : Type} {Q : α → Shared → Prop} (hk : HOk A s.heap) (hE : ∀ h' e, (∀ b o, s.heap.get? b = some o → h'.get? b = some o) → (∃ o, h'.get? e = some o ∧ o.cls = .type "StopIteration") → E (.ref e) { s with heap := h' }) :
    wpAny (model prog w) A (newExc (.type "StopIteration") [] >>= fun v => (raiseNew v : Sem α)) Q E s := by
  refine wpAny_bind ?_
  simp only [newExc, newTuple]
  refine wpAny_bind (wpAny_newObj_type ?_ (by size_fits))
  refine wpAny_bind (m := firstArgMember _ _) (wpAny_of_eq (a := Value.none) (by first | rfl | (simp only [firstArgMember]; rfl)) ?_)
  refine wpAny_newObj_type ?_ (by size_fits)
  generalize hO : (s.heap.push _).push _ = h2
  generalize hE2 : (s.heap.push _).objs.size = e2
  have kp : ∀ b o, s.heap.get? b = some o → h2.get? b = some o := fun b o x => by rw [← hO]; exact Heap.get?_push_of_some _ (Heap.get?_push_of_some _ x)
  cases hh : A.handled with
  | none => exact wpAny_raiseNew_none hh (hE h2 e2 kp ⟨_, by rw [← hO, ← hE2]; exact Heap.get?_push_size _ rfl, rfl⟩)
  | some v =>
    obtain ⟨h, oh, vs, rfl, q1, q2, q3⟩ := hk v hh
    have hne : h ≠ e2 := fun z => by
      have := Heap.lt_size q1
      rw [z, ← hE2, size_push'] at this
      exact absurd this (Nat.not_lt.mpr (Nat.le_succ _))
    obtain ⟨oo, he, hcl, ves, hd, hsz⟩ : ∃ oo, h2.get? e2 = some oo ∧ oo.cls = .type "StopIteration" ∧ ∃ ves, oo.data = .fields ves ∧ 2 < ves.size :=
      ⟨_, by rw [← hO, ← hE2]; exact Heap.get?_push_size _ rfl, rfl, _, rfl, by rw [Array.size_append]; show 2 < 6 + _; omega⟩
    refine raiseNew_handled (s := { s with heap := h2 }) hh he hd hsz (kp _ _ q1) q2 q3 hne (hE _ e2 (fun b o x => ?_) ⟨_, Heap.get?_update_self _ he (Obj.isFreed_of_fields (Obj.data_mapFields hd _)), (Obj.cls_mapFields _ _).trans hcl⟩)
    rw [Heap.get?_update_other _ _ (fun z => by
      have := Heap.lt_size x
      rw [← z, ← hE2, size_push'] at this
      exact absurd this (Nat.not_lt.mpr (Nat.le_succ _)))]
    exact kp b o x

theorem range_end {it : Addr} {x left step : Int} {Q : Option Value → Shared → Prop} (hk : HOk A s.heap) (hit : IsRangeIter s.heap it x left step) (hleft : left ≤ 0)
    (hQ : ∀ h', (∀ b o, b ≠ it → s.heap.get? b = some o → h'.get? b = some o) → Q none { s with heap := h' }) : wpAny (model prog w) A (pyNext (.ref it)) Q E s := by
  have hT : s.TypeIs (.ref it) "range_iterator" := ⟨_, hit, rfl⟩
  unfold pyNext
  refine wpAny_bind (wpAny_attempt (wpAny_callSpecial?_slot (name := Str.ofString "__next__") hT F.slot_range_iterator_next
    (wpAny_call_entry F.slot_range_iterator_next hT F.entry_range_iterator_next ?_ (F.args_range_iterator_next_1 _))))
  show wpAny _ _ (field (.ref it) 0 >>= _) _ _ s
  refine wpAny_bind (wpAny_field hit rfl (x := rawInt x) rfl ?_)
  show wpAny _ _ (field (.ref it) 1 >>= _) _ _ s
  refine wpAny_bind (wpAny_field hit rfl (x := rawInt left) rfl ?_)
  show wpAny _ _ (field (.ref it) 2 >>= _) _ _ s
  refine wpAny_bind (wpAny_field hit rfl (x := rawInt step) rfl ?_)
  show wpAny _ _ (if left ≤ 0 then _ else _) _ _ s
  rw [if_pos hleft]
  refine wpAny_bind (wpAny_rule ?_)
  refine wpAny_bind ?_
  show wpAny _ _ (newExc (.type "StopIteration") [] >>= _) _ _ _
  refine stop_raise hk fun h' e kp he => ?_
  refine wpAny_bind (wpAny_isInstance (T := "StopIteration") (b := true) he isSubtype_stop ?_)
  exact wpAny_pure (hQ _ fun b o _ x => kp b o x)

theorem HOk.at {h h' : Heap} (hk : HOk A h) (k : ∀ v e, A.handled = some v → v = .ref e → ∀ o, h.get? e = some o → h'.get? e = some o) : HOk A h' := fun v hv => by
  obtain ⟨e, o, vs, q1, q2, q3⟩ := hk v hv
  exact ⟨e, o, vs, q1, k v e hv q1 o q2, q3⟩
/-- the address of what is handled -/
noncomputable def hAddr (A : Around) : List Addr := match A.handled with
  | some (.ref e) => [e]
  | _ => []
theorem hAddr_mem {v : Value} {e : Addr} (h : A.handled = some v) (q : v = .ref e) : e ∈ hAddr A := by
  unfold hAddr; rw [h, q]; exact List.mem_cons_self
end
section
variable {prog : Program} {w : World} {A : Around}
theorem walks_range (I : Addr) (hI : I ∉ hAddr A) (a c : Int) (n : Nat) :
    Walks prog w A I (I :: hAddr A) [I] n (fun i v => ∃ t, v = .int (a + i * c) t) (fun i h => IsRangeIter h I (a + (i : Nat) * c) ((n : Int) - (i : Nat)) c ∧ HOk A h) where
  sub := fun b hb => by simp at hb; simp [hb]
  frame := fun _ _ _ st hk => ⟨hk I List.mem_cons_self _ st.1, st.2.at fun v e h1 h2 o ho => hk e (List.mem_cons_of_mem _ (hAddr_mem h1 h2)) o ho⟩
  item := fun i s Q E hi st hQ => by
    refine wpAny_pyNext_range_item st.1 (by omega) fun h' hit' hs' => ?_
    refine hQ _ h' _ ⟨_, rfl⟩ ⟨?_, st.2.at fun v e h1 h2 o ho => hs'.extBut e o (fun z => hI (z ▸ hAddr_mem h1 h2)) ho⟩ fun b o hb e => hs'.extBut b o (fun h => hb (by simp [h])) e
    have e1 : a + ((i + 1 : Nat) : Int) * c = a + (i : Int) * c + c := by push_cast; rw [Int.add_mul, Int.one_mul, Int.add_assoc]
    have e2 : (n : Int) - ((i + 1 : Nat) : Int) = (n : Int) - (i : Int) - 1 := by push_cast; omega
    rw [e1, e2]; exact hit'
  done := fun s Q E st hQ => range_end st.2 st.1 (by omega) fun h' he' => hQ h' s.toks fun b o hb e => he' b o (fun h => hb (by simp [h])) e
  self := fun _ _ _ _ st hQ => wpAny_pyIter_rangeiter st.1 hQ
theorem list_end {E : Value → Shared → Prop} {s : Shared} {it l : Addr} {i : Nat} {items : Array Value} {Q : Option Value → Shared → Prop} (hk : HOk A s.heap) (hI : it ∉ hAddr A)
    (hit : s.heap.IsListIter it l i) (hl : s.heap.IsList l items) (hx : items[i]? = none)
    (hQ : ∀ h', (∀ b o, b ≠ it → s.heap.get? b = some o → h'.get? b = some o) → Q none { s with heap := h' }) : wpAny (model prog w) A (pyNext (.ref it)) Q E s := by
  obtain ⟨o, ho, hc, hd⟩ := id hit
  obtain ⟨ol, hol, _, nl, hdl⟩ := hl
  unfold pyNext
  refine wpAny_bind (wpAny_attempt (wpAny_callSpecial?_slot (name := Str.ofString "__next__") hit.typeIs slot_listiter_next
    (wpAny_call_entry slot_listiter_next hit.typeIs entry_listiter_next ?_ (args_listiter_next _))))
  show wpAny _ _ (field (.ref it) 0 >>= _) _ _ s
  refine wpAny_bind (wpAny_field ho hd (x := .ref l) rfl ?_)
  show wpAny _ _ (if (Value.ref l == Value.none) = true then _ else _) _ _ s
  rw [if_neg (show ¬ ((Value.ref l == Value.none) = true) from Bool.false_ne_true)]
  show wpAny _ _ (field (.ref it) 1 >>= _) _ _ s
  refine wpAny_bind (wpAny_field ho hd (x := .int i 0) rfl ?_)
  show wpAny _ _ (seqItems? (.ref l) >>= _) _ _ s
  refine wpAny_bind (wpAny_seqItems hol hdl ?_)
  simp only [Int.toNat_natCast, hx]
  refine wpAny_bind (wpAny_rule (wpAny_bind (wpAny_setField ho hd (by simp) ?_)))
  have other : ∀ b, b ≠ it → ∀ f : Obj → Obj, (s.heap.update it f).get? b = s.heap.get? b := fun b hb f => Heap.get?_update_other _ _ (Ne.symm hb)
  show wpAny _ _ (newExc (.type "StopIteration") [] >>= _) _ _ _
  refine stop_raise (hk.at fun v e h1 h2 o ho => (other e (fun z => hI (z ▸ hAddr_mem h1 h2)) _).trans ho) fun h' e kp he => ?_
  refine wpAny_bind (wpAny_isInstance (T := "StopIteration") (b := true) he isSubtype_stop ?_)
  exact wpAny_pure (hQ _ fun b o hb x => kp b o ((other b hb _).trans x))
theorem walks_list (I ax : Addr) (hI : I ∉ hAddr A) (hne : ax ≠ I) (items : Array Value) :
    Walks prog w A I (I :: ax :: hAddr A) [I] items.size (fun i v => items[i]? = some v) (fun i h => (h.IsListIter I ax i ∧ h.IsList ax items) ∧ HOk A h) where
  sub := fun b hb => by simp at hb; simp [hb]
  frame := fun _ _ _ st hk => ⟨⟨st.1.1.at fun o e => hk I List.mem_cons_self o e, st.1.2.at fun o e => hk ax (List.mem_cons_of_mem _ List.mem_cons_self) o e⟩, st.2.at fun v e h1 h2 o ho => hk e (List.mem_cons_of_mem _ (List.mem_cons_of_mem _ (hAddr_mem h1 h2))) o ho⟩
  item := fun i s Q E hi st hQ => by
    refine wpAny_pyNext_list_item st.1.1 st.1.2 (x := items[i]) (by simp [hi]) fun h' hit' hs' => ?_
    exact hQ _ h' s.toks (by simp [hi]) ⟨⟨hit', st.1.2.extBut hs'.extBut hne⟩, st.2.at fun v e h1 h2 o ho => hs'.extBut e o (fun z => hI (z ▸ hAddr_mem h1 h2)) ho⟩ fun b o hb e => hs'.extBut b o (fun h => hb (by simp [h])) e
  done := fun s Q E st hQ => list_end st.2 hI st.1.1 st.1.2 (by simp) fun h' he' => hQ h' s.toks fun b o hb e => he' b o (fun h => hb (by simp [h])) e
  self := fun _ _ _ _ st hQ => wpAny_pyIter_listiter st.1.1 hQ
end

theorem str_inj {x y : String} (h : (x : Str) = (y : Str)) : x = y := by
  have h' : Str.ofString x = Str.ofString y := h
  rw [Str.ofString_eq_toList, Str.ofString_eq_toList] at h'
  have h2 : x.toList.map Char.toNat = y.toList.map Char.toNat := by simpa using h'
  have inj : ∀ {a b : List Char}, a.map Char.toNat = b.map Char.toNat → a = b := by
    intro a
    induction a with
    | nil => intro b e; cases b with
      | nil => rfl
      | cons _ _ => simp at e
    | cons c a ih => intro b e; cases b with
      | nil => simp at e
      | cons d b =>
        simp only [List.map_cons, List.cons.injEq] at e
        have : c = d := Char.ext (UInt32.toNat_inj.mp e.1)
        rw [this, ih e.2]
  exact String.toList_inj.mp (inj h2)

noncomputable def Also (γ : Gh) (a : Addr) : Gh := ⟨fun b => γ.h b ∨ b = a, γ.f, fun b q => .inl (γ.fh b q), γ.e, γ.b, fun b q => .inl (γ.bh b q)⟩

section
variable {C : Cx} {γ γ' : Gh} {ρ ρ' : List Addr} {H H' : List HO} {s s' : Shared} {st st' : St} {env : Env} {a : Addr}

theorem Fra.kept (F : Fra γ env st ρ s) (K : Kept s.heap ρ (Nl γ ρ st.H) s'.heap ρ' (Nl γ' ρ' st'.H)) (e : st'.s = st.s) (hs : ∀ b, γ.h b → γ'.h b)
    (kL : ∀ b o, γ.h b → s.heap.get? b = some o → ∃ o', s'.heap.get? b = some o' ∧ Alike o o') (lv : ∀ b, γ.h b → ¬ Lv ρ' st'.H b) (hb : ∀ b, γ'.b b → γ.b b) : Fra γ' env st' ρ' s' := by
  obtain ⟨m, hm, hv⟩ := F.ns
  refine ⟨F.kind, F.glob, F.blt, lv _ F.own, hs _ F.own, ⟨m, Heap_Ns_alike hm fun o ho => kL _ o F.own ho, fun x v k kz q => ?_⟩, fun x k => ?_, F.apart, fun q => F.nb (hb _ q), fun n c h => ⟨hs _ (F.nbc n c h).1, fun q => (F.nbc n c h).2 (hb _ q)⟩⟩
  · obtain ⟨mv, e1, e2⟩ := hv x v k kz (e ▸ q)
    exact ⟨mv, e1, e2.kept K⟩
  · obtain ⟨c, ov, h1, h2, ⟨oc, hoc, hdc⟩, h4⟩ := F.cell x k
    obtain ⟨o', ho', al⟩ := kL c oc h2.2 hoc
    refine ⟨c, ov, h1, ⟨lv _ h2.2, hs _ h2.2⟩, ⟨oc, by rw [ho', al.same fun es n q => by rw [hdc] at q; cases q], hdc⟩, fun y hy v q => ?_⟩
    obtain ⟨mv, e1, e2⟩ := h4 y hy v (e ▸ q)
    exact ⟨mv, e1, e2.kept K⟩

theorem Inv.ghost_nl (I : Inv C γ ρ H s) (h : γ.h a) : ¬ Lv ρ H a := fun q => I.live_nh q h

theorem Inv.ghost_new (I : Inv C γ ρ H s) (ha : s.heap.get? a = none) : ¬ γ.h a := fun q => by
  obtain ⟨o, e⟩ := I.held a q; rw [ha] at e; cases e

theorem kept_more (g : Grew s s') (ha : s.heap.get? a = none) : Kept s.heap ρ (Nl γ ρ H) s'.heap ρ (Nl (Also γ a) ρ H) :=
  ⟨fun _ o e _ => ⟨o, g.keep _ _ e, .refl o⟩, fun b q => by
    rcases q with q | q | q
    · exact .inl (.inl q)
    · exact .inl (.inr q)
    · exact .inr (q ▸ ha), fun _ _ e => e⟩

/-- one more object is held by the run -/
theorem Inv.hold (I : Inv C γ ρ H s) (g : Grew s s') (ha : s.heap.get? a = none) (ha' : ∃ x, s'.heap.get? a = some x) : Inv C (Also γ a) ρ H s' :=
  ⟨fun b o e => g.keep _ _ (I.base b o e), I.len, I.nodup, I.fresh, fun b e => let ⟨o, q⟩ := I.there b e; ⟨o, g.keep _ _ q⟩,
   fun i b o e1 e2 => (I.obj i b o e1 e2).kept (kept_more g ha) fun x hx => g.keep _ _ hx,
   (fun b e q => by
     rcases q with q | q
     · exact I.apart b e q
     · subst q; obtain ⟨o, x⟩ := I.there b e; rw [ha] at x; cases x), I.bor,
   fun b q => by
     rcases q with q | q
     · obtain ⟨o, e⟩ := I.held b q; exact ⟨o, g.keep _ _ e⟩
     · rw [q]; exact ha',
   fun b q => by
     rcases q with q | q
     · exact I.off b q
     · rw [q]; exact I.none_above ha, (fun b q => let ⟨o, es, n, e, d⟩ := I.frm b q; ⟨o, es, n, g.keep _ _ e, d⟩), (fun b q => let ⟨⟨o, vs, e, d⟩, l, nh⟩ := I.hdl b q; ⟨⟨o, vs, g.keep _ _ e, d⟩, l, fun z => z.elim nh fun z => by rw [z, ha] at e; cases e⟩), I.hq, g.gens.trans I.gens, g.os.trans I.os⟩
theorem Fra.hold (F : Fra γ env st ρ s) (I : Inv C γ ρ st.H s) (g : Grew s s') (ha : s.heap.get? a = none) : Fra (Also γ a) env st ρ s' :=
  F.kept (kept_more g ha) rfl (fun _ => .inl) (fun _ o _ e => ⟨o, g.keep _ _ e, .refl o⟩) (fun _ q => I.ghost_nl q) fun _ q => q

theorem kept_less (hs : ∀ b, γ.h b → γ'.h b) : Kept s.heap ρ (Nl γ' ρ H) s.heap ρ (Nl γ ρ H) :=
  ⟨fun _ o e _ => ⟨o, e, .refl o⟩, fun b q => by
    rcases q with q | q
    · exact .inl (.inl q)
    · exact .inl (.inr (hs _ q)), fun _ _ e => e⟩
theorem Inv.drop (I : Inv C γ' ρ H s) (hs : ∀ b, γ.h b → γ'.h b) (hf : ∀ b, γ.f b → γ'.f b) (he : ∀ b, γ.e b → γ'.e b) (hb : ∀ b, γ.b b ↔ γ'.b b) : Inv C γ ρ H s :=
  ⟨I.base, I.len, I.nodup, I.fresh, I.there, fun i b o e1 e2 => (I.obj i b o e1 e2).kept (kept_less hs) fun x hx => hx, fun b e q => (hb b).mpr (I.apart b e (hs _ q)), fun i b o e1 q e2 => I.bor i b o e1 ((hb b).mp q) e2, fun b q => I.held b (hs _ q), fun b q => I.off b (hs _ q), fun b q => I.frm b (hf b q), fun b q => (let ⟨x, l, nh⟩ := I.hdl b (he b q); ⟨x, l, fun z => nh (hs _ z)⟩), (fun z b q => I.hq z b (he b q)), I.gens, I.os⟩

/-- an object that the run holds is changed -/
theorem kept_touch (hI : γ.h a) (k : ∀ b o, b ≠ a → s.heap.get? b = some o → s'.heap.get? b = some o) : Kept s.heap ρ (Nl γ ρ H) s'.heap ρ (Nl γ ρ H) :=
  ⟨fun b o e n => ⟨o, k b o (fun q => n (.inr (q ▸ hI))) e, .refl o⟩, fun _ q => .inl q, fun _ _ e => e⟩
theorem Inv.touch (I : Inv C γ ρ H s) (hI : γ.h a) (nb : ¬ γ.b a) (hfr : γ.f a → ∃ o es n, s'.heap.get? a = some o ∧ o.data = .dict es n) (k : ∀ b o, b ≠ a → s.heap.get? b = some o → s'.heap.get? b = some o) (ht : ∃ x, s'.heap.get? a = some x) (hg : s'.gens = s.gens) (ho : s'.os = s.os) : Inv C γ ρ H s' :=
  ⟨fun b o e => k b o (fun q => by rw [q, I.off a hI] at e; cases e) (I.base b o e), I.len, I.nodup, I.fresh,
   fun b e => let ⟨o, q⟩ := I.there b e; ⟨o, k _ _ (fun x => nb (x ▸ I.apart b e (x ▸ hI))) q⟩,
   fun i b o e1 e2 => (I.obj i b o e1 e2).kept (kept_touch hI k) fun x hx => k _ _ (fun q => nb (q ▸ I.apart b (List.mem_of_getElem? e1) (q ▸ hI))) hx, I.apart, I.bor,
   fun b q => by
     by_cases e : b = a
     · rw [e]; exact ht
     · obtain ⟨o, x⟩ := I.held b q; exact ⟨o, k b o e x⟩, I.off, fun b q => by
     obtain ⟨o, es, n, e, d⟩ := I.frm b q
     by_cases x : b = a
     · exact x ▸ hfr (x ▸ q)
     · exact ⟨o, es, n, k b o x e, d⟩, fun b q => (let ⟨⟨o, vs, e, d⟩, l, nh⟩ := I.hdl b q; ⟨⟨o, vs, k b o (fun x => nh (x ▸ hI)) e, d⟩, l, nh⟩), I.hq, hg.trans I.gens, ho.trans I.os⟩
/-- the run lets go of objects; one may be gone -/
theorem kept_lose (hI : γ'.h a) (sub : ∀ b, γ.h b → γ'.h b) (k : ∀ b o, b ≠ a → s.heap.get? b = some o → s'.heap.get? b = some o) : Kept s.heap ρ (Nl γ' ρ H) s'.heap ρ (Nl γ ρ H) :=
  ⟨fun b o e n => ⟨o, k b o (fun q => n (.inr (q ▸ hI))) e, .refl o⟩, fun b q => .inl (q.imp id (sub b)), fun _ _ e => e⟩
theorem Inv.lose (I : Inv C γ' ρ H s) (hI : γ'.h a) (nb : ¬ γ'.b a) (hb : ∀ b, γ.b b ↔ γ'.b b) (sub : ∀ b, γ.h b → γ'.h b) (hf : ∀ b, γ.f b → γ'.f b) (he : ∀ b, γ.e b → γ'.e b) (hn : ¬ γ.h a) (k : ∀ b o, b ≠ a → s.heap.get? b = some o → s'.heap.get? b = some o) (hg : s'.gens = s.gens) (ho : s'.os = s.os) : Inv C γ ρ H s' := by
  have ne : ∀ b ∈ ρ, b ≠ a := fun b e q => nb (q ▸ I.apart b e (q ▸ hI))
  refine ⟨fun b o e => k b o (fun q => by rw [q, I.off a hI] at e; cases e) (I.base b o e), I.len, I.nodup, I.fresh,
   fun b e => let ⟨o, q⟩ := I.there b e; ⟨o, k _ _ (ne b e) q⟩, fun i b o e1 e2 => (I.obj i b o e1 e2).kept (kept_lose hI sub k) fun x hx => k _ _ (ne b (List.mem_of_getElem? e1)) hx,
   fun b e q => (hb b).mpr (I.apart b e (sub b q)), fun i b o e1 q e2 => I.bor i b o e1 ((hb b).mp q) e2, fun b q => ?_, fun b q => I.off b (sub b q), (fun b q => let ⟨o, es, n, e, d⟩ := I.frm b (hf b q); ⟨o, es, n, k b o (fun x => hn (x ▸ γ.fh b q)) e, d⟩), (fun b q => let ⟨⟨o, vs, e, d⟩, l, nh⟩ := I.hdl b (he b q); ⟨⟨o, vs, k b o (fun x => nh (x ▸ hI)) e, d⟩, l, fun z => nh (sub b z)⟩), (fun z b q => I.hq z b (he b q)), hg.trans I.gens, ho.trans I.os⟩
  obtain ⟨o, x⟩ := I.held b (sub b q); exact ⟨o, k b o (fun e => hn (e ▸ q)) x⟩
theorem Fra.lose {st₁ : St} {ρ₁ : List Addr} {s₁ : Shared} (F : Fra γ' env st ρ s) (F₁ : Fra γ env st₁ ρ₁ s₁) (hI : γ'.h a) (sub : ∀ b, γ.h b → γ'.h b) (hn : ¬ γ.h a) (k : ∀ b o, b ≠ a → s.heap.get? b = some o → s'.heap.get? b = some o) : Fra γ env st ρ s' := by
  obtain ⟨m, hm, hv⟩ := F.ns
  have K := kept_lose (ρ := ρ) (H := st.H) hI sub k
  refine ⟨F.kind, F.glob, F.blt, F.nl, F₁.own, ⟨m, Heap_Ns_alike hm fun o ho => ⟨o, k _ _ (fun q => hn (q ▸ F₁.own)) ho, .refl o⟩, fun x v k kz q => ?_⟩, fun x hk => ?_, F.apart, F₁.nb, F₁.nbc⟩
  · obtain ⟨mv, e1, e2⟩ := hv x v k kz q
    exact ⟨mv, e1, e2.kept K⟩
  · obtain ⟨c, ov, h1, h2, ⟨oc, hoc, hdc⟩, h4⟩ := F.cell x hk
    obtain ⟨c', ov', h1', h2', _⟩ := F₁.cell x hk
    rw [h1] at h1'; cases h1'
    refine ⟨c, ov, h1, ⟨h2.1, h2'.2⟩, ⟨oc, k _ _ (fun q => hn (q ▸ h2'.2)) hoc, hdc⟩, fun y hy v q => ?_⟩
    obtain ⟨mv, e1, e2⟩ := h4 y hy v q
    exact ⟨mv, e1, e2.kept K⟩

theorem Stp.touch {ρ₀ : List Addr} {H₀ : List HO} {s₀ : Shared} (S : Stp ρ₀ H₀ s₀ ρ H s) (hn : s₀.heap.get? a = none) (k : ∀ b o, b ≠ a → s.heap.get? b = some o → s'.heap.get? b = some o) : Stp ρ₀ H₀ s₀ ρ H s' :=
  ⟨⟨fun b o e n => by
      obtain ⟨o', e', q⟩ := S.kep.keep b o e n
      exact ⟨o', k b o' (fun q => by rw [q, hn] at e; cases e) e', q⟩, S.kep.live, S.kep.pre⟩⟩

theorem Fra.touch {st₁ : St} {ρ₁ : List Addr} {s₁ : Shared} {γ₁ : Gh} (F : Fra γ env st ρ s) (F₁ : Fra γ₁ env st₁ ρ₁ s₁) (hI : γ.h a) (hn : ¬ γ₁.h a) (k : ∀ b o, b ≠ a → s.heap.get? b = some o → s'.heap.get? b = some o) : Fra γ env st ρ s' := by
  obtain ⟨m, hm, hv⟩ := F.ns
  have K := kept_touch (ρ := ρ) (H := st.H) hI k
  refine ⟨F.kind, F.glob, F.blt, F.nl, F.own, ⟨m, Heap_Ns_alike hm fun o ho => ⟨o, k _ _ (fun q => hn (q ▸ F₁.own)) ho, .refl o⟩, fun x v k kz q => ?_⟩, fun x hk => ?_, F.apart, F.nb, F.nbc⟩
  · obtain ⟨mv, e1, e2⟩ := hv x v k kz q
    exact ⟨mv, e1, e2.kept K⟩
  · obtain ⟨c, ov, h1, h2, ⟨oc, hoc, hdc⟩, h4⟩ := F.cell x hk
    obtain ⟨c', ov', h1', h2', _⟩ := F₁.cell x hk
    rw [h1] at h1'; cases h1'
    refine ⟨c, ov, h1, h2, ⟨oc, k _ _ (fun q => hn (q ▸ h2'.2)) hoc, hdc⟩, fun y hy v q => ?_⟩
    obtain ⟨mv, e1, e2⟩ := h4 y hy v q
    exact ⟨mv, e1, e2.kept K⟩
end

/-- a walk over the items of a value -/
structure Iter (C : Cx) (A : Around) (N : Addr → Prop) (ρ : List Addr) (h : Heap) (items : List V) (I : Addr) (fp : List Addr) (P : Nat → Value → Prop) (St : Nat → Heap → Prop) : Prop where
  walks : Walks C.prog C.w A I fp [I] items.length P St
  has : ∀ i h, St i h → ∃ o, h.get? I = some o ∧ ∀ es n, o.data ≠ .dict es n
  rel : ∀ i v mv, items[i]? = some v → P i mv → Rel h ρ N v mv
  fp : ∀ b ∈ fp, b = I ∨ (¬ Lv ρ [] b ∧ ∃ o, h.get? b = some o ∧ ∀ es n, o.data ≠ .dict es n)
  size : items.length ≤ maxLen
end
end Mine
set_option autoImplicit false
set_option maxRecDepth 100000
set_option genInjectivity false
set_option genSizeOf false
namespace Mine
noncomputable section
open PySem PyProof.Rows

/-- a walk over the items of a value -/
structure Itr (C : Cx) (A : Around) (L N : Addr → Prop) (ρ : List Addr) (h : Heap) (items : List V) (I : Addr) (fp : List Addr) (P : Nat → Value → Prop) (St : Nat → Heap → Prop) : Prop where
  walks : Walks C.prog C.w A I fp [I] items.length P St
  has : ∀ i h, St i h → ∃ o, h.get? I = some o ∧ ∀ es n, o.data ≠ .dict es n
  rel : ∀ i v mv, items[i]? = some v → P i mv → Rel h ρ N v mv
  fp : ∀ b ∈ fp, b = I ∨ (¬ L b ∧ ∃ o, h.get? b = some o ∧ ∀ es n, o.data ≠ .dict es n)
  size : items.length ≤ maxLen
/-- objects that statements may change -/
noncomputable def Off (γ : Gh) (ρ : List Addr) (H : List HO) (b : Addr) : Prop := Lv ρ H b ∨ (γ.h b ∧ ¬ γ.b b)
noncomputable def Iterates (C : Cx) (A : Around) (L N : Addr → Prop) (ρ : List Addr) (s : Shared) (items : List V) (it : Value) (s' : Shared) : Prop :=
  ∃ I fp P St, it = .ref I ∧ s.heap.get? I = none ∧ Grew s s' ∧ St 0 s'.heap ∧ Itr C A L N ρ s.heap items I fp P St

theorem rng_size {a b c : Int} (hc : 0 < c) : Builtin.Range.rangeSize a b c = ((b - a + c - 1) / c).toNat := by
  unfold Builtin.Range.rangeSize
  rw [if_pos hc]
  by_cases h : a < b
  · rw [if_pos h]
    have e : b - a + c - 1 = (b - a - 1) + c * 1 := by omega
    rw [e, Int.add_mul_ediv_left _ _ (by omega)]
    have := Int.ediv_nonneg (a := b - a - 1) (b := c) (by omega) (by omega)
    omega
  · rw [if_neg h]
    have : (b - a + c - 1) / c < 1 := Int.ediv_lt_of_lt_mul hc (by omega)
    omega
theorem rng_len (a b c : Int) : ((rngItems a b c).map V.int).length = ((b - a + c - 1) / c).toNat := by rw [List.length_map, rngItems, List.length_map, List.length_range]
theorem rng_small {a b c : Int} (hc : 0 < c ∧ c ≤ 1000000) (ha : -1000000 ≤ a ∧ a ≤ 1000000) (hb : -1000000 ≤ b ∧ b ≤ 1000000) : Builtin.Range.small a b c = true ∧ ((b - a + c - 1) / c).toNat ≤ maxLen := by
  have hq : (b - a + c - 1) / c ≤ 3000000 := by
    refine Int.ediv_le_of_le_mul hc.1 ?_
    have : 3000000 * 1 ≤ 3000000 * c := by omega
    omega
  refine ⟨?_, by unfold maxLen; omega⟩
  unfold Builtin.Range.small Builtin.Range.rangeFitsLong
  rw [rng_size hc.1]
  simp only [Bool.and_eq_true, decide_eq_true_eq, Bool.or_eq_true, if_pos hc.1]
  refine ⟨⟨⟨⟨⟨by omega, by omega⟩, by omega, by omega⟩, by omega, by omega⟩, by omega, by omega⟩, .inr ⟨by omega, by omega⟩⟩

section
variable {C : Cx} {γ : Gh} {ρ : List Addr} {H : List HO} {s : Shared} {A : Around} {E : Value → Shared → Prop}
theorem Room.hok {k : Nat} (r : Room k A γ) (I : Inv C γ ρ H s) : HOk A s.heap := fun v e => by
  obtain ⟨a, q1, q2⟩ := r.hdl v e
  obtain ⟨⟨o, vs, h1, h2, h3⟩, _⟩ := I.hdl a q2
  exact ⟨a, o, vs, q1, h1, h2, h3⟩
theorem Room.hadr {k : Nat} (r : Room k A γ) {a : Addr} (h : a ∈ hAddr A) : γ.e a := by
  unfold hAddr at h
  cases q : A.handled with
  | none => rw [q] at h; cases h
  | some v =>
    obtain ⟨b, rfl, q2⟩ := r.hdl v q
    rw [q] at h
    rw [List.mem_singleton.mp h]; exact q2
theorem Room.hnew {k : Nat} (r : Room k A γ) (I : Inv C γ ρ H s) {a : Addr} (ha : s.heap.get? a = none) : a ∉ hAddr A := fun q => by
  obtain ⟨⟨o, _, h1, _⟩, _⟩ := I.hdl _ (r.hadr q)
  rw [ha] at h1; cases h1
theorem Room.hfp {k : Nat} (r : Room k A γ) (I : Inv C γ ρ H s) {a : Addr} (q : a ∈ hAddr A) : ¬ Off γ ρ H a ∧ ∃ o, s.heap.get? a = some o ∧ ∀ es n, o.data ≠ .dict es n := by
  obtain ⟨⟨o, vs, h1, h2, _⟩, hl, nh⟩ := I.hdl _ (r.hadr q)
  exact ⟨fun z => z.elim hl fun z => nh z.1, o, h1, fun es n q => by rw [h2] at q; cases q⟩

theorem iter_list {k : Nat} {a : Addr} {items : List V} {ms : List Value} (hr : Room k A γ) (J : Inv C γ ρ H s) (ht : s.heap.PlainList a ms.toArray) (hn : ¬ Off γ ρ H a) (hl : items.length ≤ maxLen) (r : RelL s.heap ρ (Nl γ ρ H) items ms) :
    wpAny C.M A (pyIter (.ref a)) (Iterates C A (Off γ ρ H) (Nl γ ρ H) ρ s items) E s := by
  have hne : a ≠ s.heap.objs.size := fun q => by obtain ⟨n, ho⟩ := ht; rw [q, get_size] at ho; cases ho
  refine wpAny_pyIter_list ht.isList ⟨_, s.heap.objs.size :: a :: hAddr A, fun i v => ms.toArray[i]? = some v, fun i h => (h.IsListIter s.heap.objs.size a i ∧ h.IsList a ms.toArray) ∧ HOk A h, rfl, get_size _, Grew.push s _ _, ⟨⟨⟨_, Heap.get?_push_size _ rfl, rfl, rfl⟩, ht.isList.push _⟩, (hr.hok J).at fun v e _ _ o ho => Heap.get?_push_of_some _ ho⟩, ⟨?_, fun i h q => ?_, fun i v mv e1 e2 => ?_, fun b hb => ?_, hl⟩⟩
  · rw [r.length, show ms.length = ms.toArray.size by simp]; exact walks_list _ a (hr.hnew J (get_size _)) hne ms.toArray
  · obtain ⟨⟨⟨o, ho, _, hd⟩, _⟩, _⟩ := q; exact ⟨o, ho, fun es n q => by rw [hd] at q; cases q⟩
  · obtain ⟨m, e3, e4⟩ := r.get e1
    rw [List.getElem?_toArray, e3] at e2; cases e2; exact e4
  · rcases List.mem_cons.mp hb with q | q
    · exact .inl q
    · rcases List.mem_cons.mp q with rfl | q
      · obtain ⟨n, ho⟩ := ht
        exact .inr ⟨hn, _, ho, fun es n' q => by cases q⟩
      · exact .inr (hr.hfp J q)
theorem prim_iter {k : Nat} {v : V} {mv : Value} {items : List V} (hr : Room k A γ) (J : Inv C γ ρ H s) (r : Rel s.heap ρ (Nl γ ρ H) v mv) (e : Items v items) : wpAny C.M A (pyIter mv) (Iterates C A (Off γ ρ H) (Nl γ ρ H) ρ s items) E s := by
  cases e with
  | @rng a b c hc ha hb =>
    obtain ⟨x, t, u, w, rfl, ht, hn⟩ := r.rng_inv
    obtain ⟨h1, h2⟩ := rng_small hc ha hb
    refine wpAny_pyIter_range ht h1 ⟨_, _, _, _, rfl, get_size _, Grew.push s _ _, ⟨?_, (hr.hok J).at fun v e _ _ o ho => Heap.get?_push_of_some _ ho⟩, ⟨walks_range _ (hr.hnew J (get_size _)) a c _, fun i h q => ⟨_, q.1, fun es n q => by cases q⟩, fun i v mv e1 e2 => ?_, fun b hb => ?_, ?_⟩⟩
    · obtain ⟨t, rfl⟩ := e2
      simp only [rngItems, List.getElem?_map, Option.map_eq_some_iff] at e1
      obtain ⟨x, ⟨y, e3, rfl⟩, rfl⟩ := e1
      obtain ⟨h1, rfl⟩ := List.getElem?_eq_some_iff.mp e3
      rw [List.getElem_range, Int.mul_comm]
      exact .int _ _
    · exact (List.mem_cons.mp hb).imp id fun q => hr.hfp J q
    · rw [rng_len]; exact h2
    · rw [rng_size hc.1, rng_len]
      have := Heap.get?_push_size s.heap (o := { cls := .type "range_iterator", data := .fields #[rawInt a, rawInt ((b - a + c - 1) / c).toNat, rawInt c] }) rfl
      simpa [IsRangeIter] using this
  | lst vs => --#itLst
    obtain ⟨a, ms, rfl, ht, hn, hl, hr'⟩ := r.lst_inv --#itLst
    exact iter_list hr J ht (fun q => hn (q.imp id fun q => q.1)) hl hr' --#itLst

/-- a list that may be changed is held while a loop walks over it -/
noncomputable def Lend (γ : Gh) (a : Addr) : Gh := ⟨fun b => γ.h b ∨ b = a, γ.f, fun b q => .inl (γ.fh b q), γ.e, fun b => γ.b b ∨ b = a, fun b q => q.imp (γ.bh b) id⟩
theorem lend_lv {i : Nat} {a : Addr} (J : Inv C γ ρ H s) (ha : ρ[i]? = some a) (b : Addr) (q : Lv ρ (H.set i .dead) b) : Lv ρ H b ∧ b ≠ a := by
  obtain ⟨j, o, h1, h2, h3⟩ := q
  rcases set_cases h2 with ⟨_, rfl, _⟩ | ⟨ne, h2⟩
  · cases h3
  · exact ⟨⟨j, o, h1, h2, h3⟩, fun e => ne (nodup_idx J.nodup ha (e ▸ h1))⟩
theorem lend_N {i : Nat} {a : Addr} {vs : List V} (J : Inv C γ ρ H s) (ha : ρ[i]? = some a) (hH : H[i]? = some (.list vs)) (b : Addr) : Nl (Lend γ a) ρ (H.set i .dead) b ↔ Nl γ ρ H b := by
  constructor
  · rintro (q | q | q)
    · exact .inl (lend_lv J ha b q).1
    · exact .inr q
    · exact .inl (q ▸ ⟨i, _, ha, hH, rfl⟩)
  · rintro (q | q)
    · by_cases e : b = a
      · exact .inr (.inr e)
      · obtain ⟨j, o, h1, h2, h3⟩ := q
        refine .inl ⟨j, o, h1, ?_, h3⟩
        rw [List.getElem?_set, if_neg fun z => e (Option.some.inj ((z ▸ h1).symm.trans ha))]; exact h2
    · exact .inr (.inl q)
end
end
end Mine
set_option autoImplicit false
set_option genInjectivity false
set_option genSizeOf false
namespace Mine
noncomputable section
open PySem PyProof.Rows
noncomputable def relab (cs sc : Scope) : Scope :=
  { cs with names := cs.names.map fun (n, k) => if (k == .free && sc.kind == .function && sc.names.lookup n == some .cell) then (n, .cell) else (n, k) }
noncomputable def compOk (cs sc : Scope) (x : String) : Bool :=
  cs.kind == .function && kd cs x == some .local &&
  cs.names.all fun p => match p.2 with
    | .local => cs.names.lookup p.1 == some .local && (p.1 == (x : Str) || p.1 == (".0" : Str))
    | .free => sc.names.lookup p.1 == some .cell || sc.names.lookup p.1 == some .free
    | .cell => false
    | _ => true

/-- the cells that a comprehension takes from its frame -/
noncomputable def clOf (env : Env) : List (Str × NameKind) → List (Str × Addr) → List (Str × Addr)
  | [], acc => acc
  | (n, k) :: r, acc => clOf env r (if k == .free then (n, (env.cells.lookup n).getD 0) :: acc else acc)

theorem closure_of {cs : Scope} {env : Env} (h : ∀ n, (n, NameKind.free) ∈ cs.names → ∃ c, env.cells.lookup n = some c) : closureFor cs env = pure (clOf env cs.names []) := by
  have key : ∀ (names : List (Str × NameKind)) (acc : List (Str × Addr)), (∀ n, (n, NameKind.free) ∈ names → ∃ c, env.cells.lookup n = some c) →
      (forIn names acc fun (x : Str × NameKind) (r : List (Str × Addr)) => (match x with
        | (name, kind) => if kind == NameKind.free then do let c ← cellOf env name; pure (ForInStep.yield ((name, c) :: r)) else pure (ForInStep.yield r) : Sem (ForInStep (List (Str × Addr))))) = pure (clOf env names acc) := by
    intro names
    induction names with
    | nil => intro acc _; rfl
    | cons p r ih =>
      intro acc h
      obtain ⟨n, k⟩ := p
      rw [List.forIn_cons]
      by_cases hk : k = .free
      · subst hk
        obtain ⟨c, hc⟩ := h n List.mem_cons_self
        simp only [beq_self_eq_true, if_true, clOf, hc, Option.getD_some]
        unfold cellOf
        simp only [hc, pure_bind]
        exact ih _ fun n q => h n (List.mem_cons_of_mem _ q)
      · have : (k == NameKind.free) = false := by simpa using hk
        simp only [this, Bool.false_eq_true, if_false, clOf, pure_bind]
        exact ih _ fun n q => h n (List.mem_cons_of_mem _ q)
  unfold closureFor
  have := key cs.names [] h
  simp only [bind_pure] at this ⊢
  exact this

theorem clOf_lookup {env : Env} : ∀ (names : List (Str × NameKind)) (acc : List (Str × Addr)) (n : Str) (c : Addr), (clOf env names acc).lookup n = some c →
    (acc.lookup n = some c ∨ ((n, NameKind.free) ∈ names ∧ c = (env.cells.lookup n).getD 0))
  | [], acc, n, c, h => .inl h
  | (m, k) :: r, acc, n, c, h => by
    simp only [clOf] at h
    rcases clOf_lookup r _ n c h with q | ⟨q1, q2⟩
    · split at q
      · rename_i hk
        simp only [beq_iff_eq] at hk
        subst hk
        rw [List.lookup_cons] at q
        split at q
        · rename_i e
          have e := beq_iff_eq.mp e
          subst e
          cases q
          exact .inr ⟨List.mem_cons_self, rfl⟩
        · exact .inl q
      · exact .inl q
    · exact .inr ⟨List.mem_cons_of_mem _ q1, q2⟩
theorem clOf_some {env : Env} : ∀ (names : List (Str × NameKind)) (acc : List (Str × Addr)) (n : Str), ((n, NameKind.free) ∈ names ∨ ∃ c, acc.lookup n = some c) → ∃ c, (clOf env names acc).lookup n = some c
  | [], acc, n, h => by
    rcases h with h | h
    · cases h
    · exact h
  | (m, k) :: r, acc, n, h => by
    simp only [clOf]
    refine clOf_some r _ n ?_
    rcases h with h | ⟨c, h⟩
    · rcases List.mem_cons.mp h with e | e
      · cases e
        right
        simp
      · exact .inl e
    · right
      split
      · by_cases e : n == m
        · simp [List.lookup_cons, e]
        · simp only [Bool.not_eq_true] at e
          simp [List.lookup_cons, e, h]
      · exact ⟨c, h⟩
theorem clOf_cells {env : Env} {names : List (Str × NameKind)} {n : Str} {c : Addr} (hf : (n, NameKind.free) ∈ names) (h : env.cells.lookup n = some c) : (clOf env names []).lookup n = some c := by
  obtain ⟨c', h'⟩ := clOf_some (env := env) names [] n (.inl hf)
  rcases clOf_lookup names [] n c' h' with q | ⟨_, q⟩
  · cases q
  · rw [h', q, h]; rfl

theorem lookup_mem {n : Str} {k : NameKind} : ∀ {l : List (Str × NameKind)}, l.lookup n = some k → (n, k) ∈ l
  | [], h => by cases h
  | (m, j) :: r, h => by
    rw [List.lookup_cons] at h
    split at h
    · rename_i e
      have := beq_iff_eq.mp e; subst this
      cases h; exact List.mem_cons_self
    · exact List.mem_cons_of_mem _ (lookup_mem h)

/-- what a name of the comprehension's frame is -/
theorem relabel_lookup {env : Env} {n : Str} {k : NameKind} : ∀ {names : List (Str × NameKind)},
    (names.map fun (n, k) => if (k == NameKind.free && env.scope.kind == .function && env.kindOf n == some .cell) then (n, NameKind.cell) else (n, k)).lookup n = some k →
    ∃ j, names.lookup n = some j ∧ (k = j ∨ (k = .cell ∧ j = .free))
  | [], h => by simp at h
  | (m, j) :: r, h => by
    rw [List.map_cons] at h
    by_cases hc : (j == NameKind.free && env.scope.kind == .function && env.kindOf m == some .cell) = true
    · simp only [hc, if_true, List.lookup_cons] at h ⊢
      split at h
      · cases h
        simp only [Bool.and_eq_true, beq_iff_eq] at hc
        rename_i e
        exact ⟨j, by simp [e], .inr ⟨rfl, hc.1.1⟩⟩
      · rename_i e
        obtain ⟨i, q1, q2⟩ := relabel_lookup h
        exact ⟨i, by simp [e, q1], q2⟩
    · simp only [hc] at h
      simp only [Bool.false_eq_true, if_false] at h
      rw [List.lookup_cons] at h ⊢
      split at h
      · cases h
        rename_i e
        exact ⟨k, by simp [e], .inl rfl⟩
      · rename_i e
        obtain ⟨i, q1, q2⟩ := relabel_lookup h
        exact ⟨i, by simp [e, q1], q2⟩

section
variable {C : Cx} {γ γ' : Gh} {ρ ρ' : List Addr} {H H' : List HO} {s s' : Shared} {st st' : St} {env : Env} {a : Addr}

structure CompNames (cs : Scope) (env : Env) (x : String) : Prop where
  kind : cs.kind = .function
  isx : cs.names.lookup (x : Str) = some .local
  loc : ∀ p ∈ cs.names, p.2 = .local → cs.names.lookup p.1 = some .local
  only : ∀ p ∈ cs.names, p.2 = .local → p.1 = (x : Str) ∨ p.1 = (".0" : Str)
  nocell : ∀ p ∈ cs.names, p.2 ≠ .cell
  free : ∀ n, (n, NameKind.free) ∈ cs.names → env.kindOf n = some .cell ∨ env.kindOf n = some .free

theorem compOk_names {cs : Scope} {env : Env} {x : String} (h : compOk cs env.scope x = true) : CompNames cs env x := by
  simp only [compOk, Bool.and_eq_true, beq_iff_eq, List.all_eq_true, kd] at h
  obtain ⟨⟨h1, h2⟩, h3⟩ := h
  refine ⟨h1, h2, fun p hp e => ?_, fun p hp e => ?_, fun p hp e => ?_, fun n hp => ?_⟩
  · have := h3 p hp; rw [e] at this; simp at this; exact this.1
  · have := h3 p hp; rw [e] at this; simp at this; exact this.2
  · have := h3 p hp; rw [e] at this; simp at this
  · have := h3 _ hp; simpa [Env.kindOf] using this

theorem CompNames.closure {cs : Scope} {x : String} (h : CompNames cs env x) (F : Fra γ env st ρ s) : closureFor cs env = pure (clOf env cs.names []) :=
  closure_of fun n hn => let ⟨c, _, h1, _⟩ := F.cell n (h.free n hn); ⟨c, h1⟩

/-- the frame of a comprehension -/
theorem comp_fra {cs : Scope} {x : String} {Cl : Addr} {m : Str → Option Value} {v : V} {mv : Value} (h : CompNames cs env x) (F : Fra γ env st ρ s) (hg : γ.h Cl) (nb : ¬ γ.b Cl) (hl : ¬ Lv ρ st.H Cl)
    (hn : s.heap.Ns Cl m) (hm : m x = some mv) (r : Rel s.heap ρ (Nl γ ρ st.H) v mv) : Fra γ (compEnvC cs (clOf env cs.names []) Cl env) (st.set x v) ρ s := by
  have kinds : ∀ n k, (compEnvC cs (clOf env cs.names []) Cl env).kindOf n = some k → ∃ j, cs.names.lookup n = some j ∧ (k = j ∨ (k = .cell ∧ j = .free)) := fun n k q => relabel_lookup q
  have cells : ∀ n c, (clOf env cs.names []).lookup n = some c → env.cells.lookup n = some c := fun n c q => by
    rcases clOf_lookup cs.names [] n c q with e | ⟨e1, e2⟩
    · cases e
    · obtain ⟨c', _, h1, _⟩ := F.cell n (h.free n e1)
      rw [h1] at e2 ⊢; rw [e2]; rfl
  refine ⟨h.kind, F.glob, F.blt, hl, hg, ⟨m, hn, fun y w k kz q => ?_⟩, fun n k => ?_, fun n n' c q q' => F.apart n n' c (cells _ _ q) (cells _ _ q'), nb, fun n c q => F.nbc n c (cells _ _ q)⟩
  · obtain ⟨j, e1, e2⟩ := kinds _ _ k
    have hj : j = .local := by
      rcases e2 with e | ⟨e, _⟩
      · exact e.symm
      · cases e
    subst hj
    rcases h.only _ (lookup_mem e1) rfl with e | e
    · have := str_inj e
      subst this
      simp only [St.set, if_true, Option.some.injEq] at q
      subst q
      exact ⟨mv, hm, r⟩
    · exact absurd e kz
  · have hf : cs.names.lookup n = some .free := by
      rcases k with k | k
      · obtain ⟨j, e1, e2⟩ := kinds _ _ k
        rcases e2 with e | ⟨_, e⟩
        · subst e; exact absurd rfl (h.nocell _ (lookup_mem e1))
        · rw [e] at e1; exact e1
      · obtain ⟨j, e1, e2⟩ := kinds _ _ k
        rcases e2 with e | ⟨e, _⟩
        · rw [← e] at e1; exact e1
        · cases e
    obtain ⟨c, ov, h1, h2, h3, h4⟩ := F.cell n (h.free n (lookup_mem hf))
    refine ⟨c, ov, clOf_cells (lookup_mem hf) h1, h2, h3, fun y hy w q => h4 y hy w ?_⟩
    have : y ≠ x := fun e => by subst e; have h0 := h.isx; rw [hy, hf] at h0; cases h0
    simpa [St.set, this] using q
end

noncomputable def G3 (γ : Gh) (I D K : Addr) : Gh := ⟨fun b => γ.h b ∨ b = I ∨ b = D ∨ b = K, γ.f, fun b q => .inl (γ.fh b q), γ.e, γ.b, fun b q => .inl (γ.bh b q)⟩
noncomputable def G2 (γ : Gh) (D K : Addr) : Gh := ⟨fun b => γ.h b ∨ b = D ∨ b = K, γ.f, fun b q => .inl (γ.fh b q), γ.e, γ.b, fun b q => .inl (γ.bh b q)⟩

/-- how a comprehension stands -/
structure CompSt (C : Cx) (γ' : Gh) (env : Env) (ρ₁ : List Addr) (st₁ : St) (s₁ : Shared) (D Cl : Addr) (acc : List V) (ρ : List Addr) (st : St) (s : Shared) : Prop where
  inv : Inv C γ' ρ st.H s
  fra : Fra γ' env st ρ s
  ns : ∃ m, s.heap.Ns Cl m
  stp : Stp ρ₁ st₁.H s₁ ρ st.H s
  acc : ∃ ms : List Value, s.heap.PlainList D ms.toArray ∧ RelL s.heap ρ (Nl γ' ρ st.H) acc ms
  same : st.s = st₁.s

theorem kept_from {γ γ' : Gh} {ρ₁ ρ : List Addr} {H₁ H : List HO} {s₁ s : Shared} (S : Stp ρ₁ H₁ s₁ ρ H s) (hs : ∀ b, γ'.h b → γ.h b ∨ s₁.heap.get? b = none) : Kept s₁.heap ρ₁ (Nl γ ρ₁ H₁) s.heap ρ (Nl γ' ρ H) :=
  ⟨fun a o e n => S.kep.keep a o e fun q => n (.inl q), fun a q => by
    rcases q with q | q
    · exact (S.kep.live a q).imp .inl id
    · exact (hs a q).imp .inr id, S.kep.pre⟩

/-- one turn of a comprehension: the tests and the item that is added -/
noncomputable def Turn (C : Cx) (A : Around) (γ : Gh) (cs : Scope) (env : Env) (x : String) (ifs : List Expr) (elt : Expr) (f : V → St → (List V → St → Prop) → Prop) : Prop :=
  ∀ (γ' : Gh) (_ : ∀ a, γ.f a → γ'.f a) (_ : ∀ a, γ.e a → γ'.e a) (Cl : Addr) (s : Shared) (ρ : List Addr) (st : St) (v : V) (Kf : List V → St → Prop) (E : Value → Shared → Prop), Inv C γ' ρ st.H s → Fra γ' (compEnvC cs (clOf env cs.names []) Cl env) (st.set x v) ρ s → f v st Kf →
  wpAny C.M A (forIn ifs true fun c r => if r = true then do let ok ← isTrue c (compEnvC cs (clOf env cs.names []) Cl env) (eval c (compEnvC cs (clOf env cs.names []) Cl env)); pure (ForInStep.yield ok) else pure (ForInStep.yield r))
    (fun ok s₃ => if ok = true then wpAny C.M A (eval elt (compEnvC cs (clOf env cs.names []) Cl env)) (fun y s₄ => ∃ r st' ρ', Kf [r] st' ∧ st'.s = st.s ∧ Rel s₄.heap ρ' (Nl γ' ρ' st'.H) r y ∧ Inv C γ' ρ' st'.H s₄ ∧ Stp ρ st.H s ρ' st'.H s₄) E s₃
      else ∃ st' ρ', Kf [] st' ∧ st'.s = st.s ∧ Inv C γ' ρ' st'.H s₃ ∧ Stp ρ st.H s ρ' st'.H s₃) E s

section
variable {C : Cx} {γ : Gh} {env : Env} {A : Around} {ρ₁ : List Addr} {st₁ : St} {s₁ : Shared} {ρ : List Addr} {st : St} {s : Shared}

theorem comp_loop {elt iter : Expr} {x : String} {px pos : Pos} {ifs : List Expr} {cs : Scope} {items : List V} {f : V → St → (List V → St → Prop) → Prop} {I D Cl : Addr} {fp : List Addr} {P : Nat → Value → Prop} {St' : Nat → Heap → Prop}
    {R : Result → Shared → Prop} {Kf : List V → St → Prop} (hnm : CompNames cs env x) (T : Turn C A γ cs env x ifs elt f) (F₁ : Fra γ env st₁ ρ₁ s₁)
    (it : Itr C A (Off γ ρ₁ st₁.H) (Nl γ ρ₁ st₁.H) ρ₁ s₁.heap items I fp P St') (dI : s₁.heap.get? I = none) (dD : s₁.heap.get? D = none) (dC : s₁.heap.get? Cl = none) (nDI : D ≠ I) (nCI : Cl ≠ I) (nDC : D ≠ Cl)
    (gI : ¬ γ.h I) (gD : ¬ γ.h D) (gC : ¬ γ.h Cl) (h0 : CompSt C (G3 γ I D Cl) env ρ₁ st₁ s₁ D Cl [] ρ st s) (hst : St' 0 s.heap) (w : compL f items [] st Kf)
    (fin : ∀ acc ρ st s', CompSt C (G2 γ D Cl) env ρ₁ st₁ s₁ D Cl acc ρ st s' → acc.length ≤ maxLen → Kf acc st → R (.ok .next) s') :
    codeAny C.M A (.compLoop (.ListComp elt [⟨.Name (x : Str) px, iter, ifs, 0⟩] cs pos) 0 (.ref I) (.ref D) (compEnvC cs (clOf env cs.names []) Cl env)) R s := by
  have W := it.walks
  have gs : ∀ b, (G3 γ I D Cl).h b → γ.h b ∨ s₁.heap.get? b = none := fun b q => by
    rcases q with q | rfl | rfl | rfl
    · exact .inl q
    · exact .inr dI
    · exact .inr dD
    · exact .inr dC
  have offp : ∀ b, s₁.heap.get? b = none → b ≠ I → b ∉ fp := fun b hb hne hm => by
    rcases it.fp b hm with e | ⟨_, o, e, _⟩
    · exact hne e
    · rw [hb] at e; cases e
  have stt : ∀ {i : Nat} {b : Addr} {s s' : Shared}, s₁.heap.get? b = none → b ≠ I → (∀ x o, x ≠ b → s.heap.get? x = some o → s'.heap.get? x = some o) → St' i s.heap → St' i s'.heap := fun hb hne k q =>
    W.frame _ _ _ q fun y hy o e => k y o (fun e' => offp _ hb hne (e' ▸ hy)) e
  have stk : ∀ {i : Nat} {ρ ρ' : List Addr} {st st' : St} {s s' : Shared}, Inv C (G3 γ I D Cl) ρ st.H s → Stp ρ₁ st₁.H s₁ ρ st.H s → Stp ρ st.H s ρ' st'.H s' → St' i s.heap → St' i s'.heap := fun {i ρ ρ' st st' s s'} J S S' q => by
    refine W.frame _ _ _ q fun y hy o e => ?_
    rcases it.fp y hy with rfl | ⟨hn, o₁, h1, h2⟩
    · obtain ⟨o', e', hd⟩ := it.has _ _ q
      rw [e] at e'; cases e'
      exact S'.kep.same e (J.ghost_nl (.inr (.inl rfl))) hd
    · have hl : ¬ Lv ρ₁ st₁.H y := fun z => hn (.inl z)
      have e1 := S.kep.same h1 hl h2
      rw [e] at e1; cases e1
      exact S'.kep.same e (S.kep.notLive h1 hl) h2
  refine codeAny_compLoop_tests (fun n s' => ∃ i acc ρ st, n = items.length + 1 - i ∧ i ≤ items.length ∧ acc.length ≤ i ∧ CompSt C (G3 γ I D Cl) env ρ₁ st₁ s₁ D Cl acc ρ st s' ∧ St' i s'.heap ∧ compL f (items.drop i) acc st Kf) ?_ (items.length + 1)
    ⟨0, [], ρ, st, rfl, Nat.zero_le _, Nat.le_refl _, h0, hst, w⟩
  rintro n s' ⟨i, acc, ρ, st, rfl, hi, hacc, J, hst', w⟩
  by_cases hlt : i < items.length
  · have hdrop : items.drop i = items[i] :: items.drop (i + 1) := List.drop_eq_getElem_cons hlt
    rw [hdrop] at w
    have w : f items[i] st (fun a st' => compL f (items.drop (i + 1)) (acc ++ a) st' Kf) := w
    have hv : items[i]? = some items[i] := List.getElem?_eq_getElem hlt
    generalize items[i] = v at w hv
    refine W.item i _ _ _ hlt hst' fun mv h₁ tk₁ hPv hst₁ hk₁ => ?_
    have k1 : ∀ b o, b ≠ I → s'.heap.get? b = some o → h₁.get? b = some o := fun b o hb e => hk₁ b o (by simpa using hb) e
    obtain ⟨m, hm⟩ := J.ns
    obtain ⟨ms, hpl, hrl⟩ := J.acc
    refine wpAny_assign_Name (wpAny_storeName_local (lookup_relabel_local hnm.isx) (hm.at' fun o e => k1 _ o nCI e) (fun h₂ hn₂ hs₂ => ?_) (by simp [compEnvC, relabel, hnm.kind]))
    -- the iterator's step, then the store
    have I1 : Inv C (G3 γ I D Cl) ρ st.H ({ s' with heap := h₁, toks := tk₁ } : Shared) := J.inv.touch (a := I) (.inr (.inl rfl)) (fun q => gI (γ.bh _ q)) (fun q => (gI (γ.fh _ q)).elim) k1 (let ⟨o, e, _⟩ := it.has _ _ hst₁; ⟨o, e⟩) rfl rfl
    have F1 : Fra (G3 γ I D Cl) env st ρ ({ s' with heap := h₁, toks := tk₁ } : Shared) := J.fra.touch F₁ (.inr (.inl rfl)) gI k1
    have S1 : Stp ρ₁ st₁.H s₁ ρ st.H ({ s' with heap := h₁, toks := tk₁ } : Shared) := J.stp.touch dI k1
    have K1 : Kept s'.heap ρ (Nl (G3 γ I D Cl) ρ st.H) h₁ ρ (Nl (G3 γ I D Cl) ρ st.H) := kept_touch (s := s') (s' := { s' with heap := h₁, toks := tk₁ }) (a := I) (.inr (.inl rfl)) k1
    have k2 : ∀ b o, b ≠ Cl → h₁.get? b = some o → h₂.get? b = some o := fun b o hb e => hs₂.extBut b o hb e
    generalize hS2 : ({ ({ s' with heap := h₁, toks := tk₁ } : Shared) with heap := h₂, toks := tk₁ + 1 } : Shared) = s2
    have e2 : s2.heap = h₂ := by rw [← hS2]
    have I2 : Inv C (G3 γ I D Cl) ρ st.H s2 := I1.touch (a := Cl) (.inr (.inr (.inr rfl))) (fun q => gC (γ.bh _ q)) (fun q => (gC (γ.fh _ q)).elim) (by rw [e2]; exact k2) (by rw [e2]; exact Heap_Ns_get hn₂) (by rw [← hS2]) (by rw [← hS2])
    have F2 : Fra (G3 γ I D Cl) env st ρ s2 := F1.touch F₁ (.inr (.inr (.inr rfl))) gC (by rw [e2]; exact k2)
    have S2 : Stp ρ₁ st₁.H s₁ ρ st.H s2 := S1.touch (a := Cl) dC (by rw [e2]; exact k2)
    have K2 : Kept h₁ ρ (Nl (G3 γ I D Cl) ρ st.H) s2.heap ρ (Nl (G3 γ I D Cl) ρ st.H) := kept_touch (s := { s' with heap := h₁, toks := tk₁ }) (s' := s2) (a := Cl) (.inr (.inr (.inr rfl))) (by rw [e2]; exact k2)
    have hst2 : St' (i + 1) s2.heap := stt (s := { s' with heap := h₁, toks := tk₁ }) (s' := s2) dC nCI (by rw [e2]; exact k2) hst₁
    have hpl2 : s2.heap.PlainList D ms.toArray := by rw [e2]; exact (hpl.at fun o e => k2 _ o nDC (k1 _ o nDI e))
    have hrl2 := (hrl.kept K1).kept K2
    have rv : Rel s2.heap ρ (Nl (G3 γ I D Cl) ρ st.H) v mv := (it.rel i v mv hv hPv).kept (kept_from S2 gs)
    have FC : Fra (G3 γ I D Cl) (compEnvC cs (clOf env cs.names []) Cl env) (st.set x v) ρ s2 := comp_fra hnm F2 (.inr (.inr (.inr rfl))) (fun q => gC (γ.bh _ q)) (I2.ghost_nl (.inr (.inr (.inr rfl)))) (by rw [e2]; exact hn₂) (by simp) rv
    refine wpAny_mono (T (G3 γ I D Cl) (fun _ q => q) (fun _ q => q) Cl s2 ρ st v _ _ I2 FC w) (fun ok s₃ h₃ => ?_) fun _ _ e => e
    have hnC : ∃ m, s2.heap.Ns Cl m := ⟨_, by rw [e2]; exact hn₂⟩
    cases ok with
    | false =>
      simp only [Bool.false_eq_true, if_false] at h₃ ⊢
      obtain ⟨st', ρ', h1, h2, h3, h4⟩ := h₃
      refine ⟨_, ?_, i + 1, acc, ρ', st', rfl, hlt, by omega, ⟨h3, F2.step h4 h2, ?_, S2.trans h4, ⟨ms, ?_, ?_⟩, h2.trans J.same⟩, stk I2 S2 h4 hst2, by simpa using h1⟩
      · omega
      · obtain ⟨m, hm⟩ := hnC
        exact ⟨m, Heap_Ns_alike hm fun o e => h4.kep.keep _ o e (I2.ghost_nl (.inr (.inr (.inr rfl))))⟩
      · obtain ⟨z, hz⟩ := hpl2
        exact ⟨z, h4.kep.same hz (I2.ghost_nl (.inr (.inr (.inl rfl)))) fun es n q => by cases q⟩
      · exact hrl2.kept h4.kept
    | true =>
      simp only [if_true] at h₃ ⊢
      refine wpAny_mono h₃ (fun y s₄ h₄ => ?_) fun _ _ e => e
      obtain ⟨r, st', ρ', h1, h2, h3, h4, h5⟩ := h₄
      have hpl4 : s₄.heap.PlainList D ms.toArray := by
        obtain ⟨z, hz⟩ := hpl2
        exact ⟨z, h5.kep.same hz (I2.ghost_nl (.inr (.inr (.inl rfl)))) fun es n q => by cases q⟩
      have hms : ms.length ≤ maxLen := by rw [← hrl2.length]; have := it.size; omega
      refine wpAny_list_append_plain hpl4 (fun h₅ hl₅ hs₅ => ?_) (by rw [sizeLine_is, List.size_toArray]; exact hms)
      have k5 : ∀ b o, b ≠ D → s₄.heap.get? b = some o → h₅.get? b = some o := fun b o hb e => hs₅.extBut b o hb e
      have K5 : Kept s₄.heap ρ' (Nl (G3 γ I D Cl) ρ' st'.H) h₅ ρ' (Nl (G3 γ I D Cl) ρ' st'.H) := kept_touch (s := s₄) (s' := { s₄ with heap := h₅ }) (a := D) (.inr (.inr (.inl rfl))) k5
      refine ⟨_, ?_, i + 1, acc ++ [r], ρ', st', rfl, hlt, by simp; omega, ⟨h4.touch (a := D) (.inr (.inr (.inl rfl))) (fun q => gD (γ.bh _ q)) (fun q => (gD (γ.fh _ q)).elim) k5 (IsList_there hl₅) rfl rfl, (F2.step h5 h2).touch F₁ (.inr (.inr (.inl rfl))) gD k5, ?_,
        (S2.trans h5).touch dD k5, ⟨ms ++ [y], by simpa using hl₅, ((hrl2.kept h5.kept).kept K5).append (.cons (h3.kept K5) .nil)⟩, h2.trans J.same⟩, stt (s := s₄) (s' := { s₄ with heap := h₅ }) dD nDI k5 (stk I2 S2 h5 hst2), h1⟩
      · omega
      · obtain ⟨m, hm⟩ := hnC
        exact ⟨m, Heap_Ns_alike hm fun o e => by
          obtain ⟨o', e1, e2⟩ := h5.kep.keep _ o e (I2.ghost_nl (.inr (.inr (.inr rfl))))
          exact ⟨o', k5 _ o' (Ne.symm nDC) e1, e2⟩⟩
  · have hin : i = items.length := by omega
    subst hin
    rw [List.drop_length] at w
    have w : Kf acc st := w
    refine W.done _ _ _ hst' fun h₁ tk₁ hk₁ => ?_
    have k1 : ∀ b o, b ≠ I → s'.heap.get? b = some o → h₁.get? b = some o := fun b o hb e => hk₁ b o (by simpa using hb) e
    obtain ⟨m, hm⟩ := J.ns
    obtain ⟨ms, hpl, hrl⟩ := J.acc
    have sub : ∀ b, (G2 γ D Cl).h b → (G3 γ I D Cl).h b := fun b q => q.imp id .inr
    have nI : ¬ (G2 γ D Cl).h I := fun q => by
      rcases q with q | q | q
      · exact gI q
      · exact nDI q.symm
      · exact nCI q.symm
    have F2 : Fra (G2 γ D Cl) env st₁ ρ₁ s₁ := ⟨F₁.kind, F₁.glob, F₁.blt, F₁.nl, .inl F₁.own, by
      obtain ⟨m, h1, h2⟩ := F₁.ns
      exact ⟨m, h1, fun x v a b c => let ⟨mv, e1, e2⟩ := h2 x v a b c; ⟨mv, e1, e2.kept ⟨fun _ o e _ => ⟨o, e, .refl o⟩, fun a q => by
        rcases q with q | q | q | q
        · exact .inl (.inl q)
        · exact .inl (.inr q)
        · exact .inr (q ▸ dD)
        · exact .inr (q ▸ dC), fun _ _ e => e⟩⟩⟩, fun n hk => by
      obtain ⟨c, ov, h1, h2, h3, h4⟩ := F₁.cell n hk
      exact ⟨c, ov, h1, ⟨h2.1, .inl h2.2⟩, h3, fun y hy v q => let ⟨mv, e1, e2⟩ := h4 y hy v q; ⟨mv, e1, e2.kept ⟨fun _ o e _ => ⟨o, e, .refl o⟩, fun a q => by
        rcases q with q | q | q | q
        · exact .inl (.inl q)
        · exact .inl (.inr q)
        · exact .inr (q ▸ dD)
        · exact .inr (q ▸ dC), fun _ _ e => e⟩⟩⟩, F₁.apart, F₁.nb, fun n c h => ⟨.inl (F₁.nbc n c h).1, (F₁.nbc n c h).2⟩⟩
    refine fin acc ρ st _ ⟨J.inv.lose (a := I) (.inr (.inl rfl)) (fun q => gI (γ.bh _ q)) (fun _ => Iff.rfl) sub (fun _ q => q) (fun _ q => q) nI k1 rfl rfl, J.fra.lose F2 (.inr (.inl rfl)) sub nI k1, ⟨m, hm.at' fun o e => k1 _ o nCI e⟩, J.stp.touch dI k1, ⟨ms, hpl.at fun o e => k1 _ o nDI e, hrl.kept ?_⟩, J.same⟩ (by have := it.size; omega) w
    exact kept_lose (s := s') (s' := { s' with heap := h₁, toks := tk₁ }) (a := I) (.inr (.inl rfl)) sub k1
end

section
variable {C : Cx} {k : Nat} {γ γ' : Gh} {env : Env} {A : Around} {ρ₀ : List Addr} {st₀ : St} {s₀ : Shared} {ρ₁ : List Addr} {st₁ : St} {s₁ : Shared} {ρ : List Addr} {st : St} {s s' : Shared} {H : List HO} {E : Value → Shared → Prop}

theorem kept_holds (g : Grew s s') (hs : ∀ b, γ'.h b → γ.h b ∨ s.heap.get? b = none) : Kept s.heap ρ (Nl γ ρ H) s'.heap ρ (Nl γ' ρ H) :=
  ⟨fun _ o e _ => ⟨o, g.keep _ _ e, .refl o⟩, fun b q => by
    rcases q with q | q
    · exact .inl (.inl q)
    · exact (hs b q).imp .inr id, fun _ _ e => e⟩
theorem Inv.holds (I : Inv C γ ρ H s) (g : Grew s s') (hs : ∀ b, γ'.h b → γ.h b ∨ (s.heap.get? b = none ∧ ∃ o, s'.heap.get? b = some o)) (hf : ∀ b, γ'.f b → γ.f b ∨ ∃ o es n, s'.heap.get? b = some o ∧ o.data = .dict es n) (he : ∀ b, γ'.e b → γ.e b) (hb : ∀ b, γ'.b b ↔ γ.b b) : Inv C γ' ρ H s' :=
  ⟨fun b o e => g.keep _ _ (I.base b o e), I.len, I.nodup, I.fresh, fun b e => let ⟨o, q⟩ := I.there b e; ⟨o, g.keep _ _ q⟩,
   fun i b o e1 e2 => (I.obj i b o e1 e2).kept (kept_holds g fun b q => (hs b q).imp id And.left) fun x hx => g.keep _ _ hx,
   (fun b e q => by
     rcases hs b q with q | ⟨q, _⟩
     · exact (hb b).mpr (I.apart b e q)
     · obtain ⟨o, x⟩ := I.there b e; rw [q] at x; cases x), (fun i b o e1 q e2 => I.bor i b o e1 ((hb b).mp q) e2),
   (fun b q => by
     rcases hs b q with q | ⟨_, q⟩
     · obtain ⟨o, e⟩ := I.held b q; exact ⟨o, g.keep _ _ e⟩
     · exact q),
   (fun b q => by
     rcases hs b q with q | ⟨q, _⟩
     · exact I.off b q
     · exact I.none_above q), (fun b q => by
     rcases hf b q with q1 | q2
     · obtain ⟨o, es, n, e, d⟩ := I.frm b q1
       exact ⟨o, es, n, g.keep _ _ e, d⟩
     · exact q2), (fun b q => by
     obtain ⟨⟨o, vs, e, d⟩, l, nh⟩ := I.hdl b (he b q)
     refine ⟨⟨o, vs, g.keep _ _ e, d⟩, l, fun z => ?_⟩
     rcases hs b z with z | ⟨z, _⟩
     · exact nh z
     · rw [e] at z; cases z), (fun z b q => I.hq z b (he b q)), g.gens.trans I.gens, g.os.trans I.os⟩
theorem Fra.holds (F : Fra γ env st ρ s) (I : Inv C γ ρ st.H s) (g : Grew s s') (sub : ∀ b, γ.h b → γ'.h b) (hs : ∀ b, γ'.h b → γ.h b ∨ s.heap.get? b = none) (hb : ∀ b, γ'.b b → γ.b b) : Fra γ' env st ρ s' :=
  F.kept (kept_holds g hs) rfl sub (fun _ o _ e => ⟨o, g.keep _ _ e, .refl o⟩) (fun _ q => I.ghost_nl q) hb

theorem comp_block {k : Nat} {elt iter : Expr} {x : String} {px pos : Pos} {ifs : List Expr} {cs : Scope} {items : List V} {f : V → St → (List V → St → Prop) → Prop} {Kf : List V → St → Prop} {mi : Value}
    {RR : Value → Addr → Result → Shared → Prop} (hnm : CompNames cs env x) (T : Turn C A γ cs env x ifs elt f) (hr : Room k A γ) (J : Inv C γ ρ st.H s) (F : Fra γ env st ρ s) (hit : wpAny C.M A (pyIter mi) (Iterates C A (Off γ ρ st.H) (Nl γ ρ st.H) ρ s items) E s)
    (w : compL f items [] st Kf)
    (fin : ∀ D Cl acc ρ' st' s', s.heap.get? D = none → s.heap.get? Cl = none → D ≠ Cl → ¬ γ.h D → ¬ γ.h Cl → CompSt C (G2 γ D Cl) env ρ st s D Cl acc ρ' st' s' → acc.length ≤ maxLen → Kf acc st' → RR (.ref D) Cl (.ok .next) s') :
    wpAny C.M A (pyIter mi) (fun it s₂ => wpAny C.M A (newList []) (fun acc s₃ => wpAny C.M A (newFunctionEnv cs env.globals (clOf env cs.names []) [] env.qual none .none (some env)) (fun cenv s₄ =>
      codeAny C.M A (.compStart (.ListComp elt [⟨.Name (x : Str) px, iter, ifs, 0⟩] cs pos) 0 it acc { cenv with scope := relabel cs env }) (RR acc cenv.locals) s₄) E s₃) E s₂) E s := by
  refine wpAny_mono hit (fun it s₂ h => ?_) fun _ _ x => x
  obtain ⟨I, fp, P, St', rfl, dI, g, hst, itr⟩ := h
  have eI : ∃ o, s₂.heap.get? I = some o := let ⟨o, e, _⟩ := itr.has _ _ hst; ⟨o, e⟩
  refine wpAny_newObj_type (wpAny_newFunctionEnv (fun p hp => hnm.nocell p hp) (by intro y hy; simp at hy) (fun h₁ hns₁ hsb₁ => ?_) hnm.kind)
  dsimp only at hns₁ hsb₁ ⊢
  generalize hH2 : s₂.heap.push { cls := .type "list", dict := none, data := .seq ([] : List Value).toArray } = H2 at hns₁ hsb₁ ⊢
  have hC : H2.objs.size = s₂.heap.objs.size + 1 := by rw [← hH2, Heap.size_push]
  have hDC : s₂.heap.objs.size ≠ H2.objs.size := by rw [hC]; exact Nat.ne_of_lt (Nat.lt_succ_self _)
  have dD2 : s₂.heap.get? s₂.heap.objs.size = none := get_size _
  have above : ∀ b, s₂.heap.objs.size ≤ b → s₂.heap.get? b = none := fun b hb => by
    cases e : s₂.heap.get? b with
    | none => rfl
    | some o' => exact absurd (Heap.lt_size e) (Nat.not_lt.mpr hb)
  have dC2 : s₂.heap.get? H2.objs.size = none := above _ (by rw [hC]; exact Nat.le_succ _)
  have up : ∀ {b : Addr}, s₂.heap.get? b = none → s.heap.get? b = none := fun {b} hb => by
    cases e : s.heap.get? b with
    | none => rfl
    | some o => rw [g.keep _ _ e] at hb; cases hb
  have old : ∀ b o, s₂.heap.get? b = some o → h₁.get? b = some o := fun b o e => by
    have hb := Heap.lt_size e
    exact hsb₁.extBut b o (by rw [hC]; exact Nat.ne_of_lt (Nat.lt_succ_of_lt hb)) (Heap.get?_push_of_some _ (hH2 ▸ Heap.get?_push_of_some _ e))
  have hacc : h₁.PlainList s₂.heap.objs.size #[] := ⟨_, hsb₁.extBut _ _ hDC (Heap.get?_push_of_some _ (hH2 ▸ Heap.get?_push_size _ rfl))⟩
  have nDI : s₂.heap.objs.size ≠ I := fun q => by obtain ⟨o, e⟩ := eI; rw [← q, dD2] at e; cases e
  have nCI : H2.objs.size ≠ I := fun q => by obtain ⟨o, e⟩ := eI; rw [← q, dC2] at e; cases e
  generalize hs3 : ({ s₂ with heap := h₁, toks := s₂.toks + ([] : List (Str × Value)).length } : Shared) = s₃
  have e3 : s₃.heap = h₁ := by rw [← hs3]
  have g3 : Grew s s₃ := g.trans ⟨by rw [e3]; exact old, by rw [← hs3], by rw [← hs3]⟩
  have eI3 : ∃ o, s₃.heap.get? I = some o := let ⟨o, e⟩ := eI; ⟨o, by rw [e3]; exact old _ _ e⟩
  have eD3 : ∃ o, s₃.heap.get? s₂.heap.objs.size = some o := by rw [e3]; exact IsList_there hacc
  have eC3 : ∃ o, s₃.heap.get? H2.objs.size = some o := by rw [e3]; exact Heap_Ns_get hns₁
  have hs : ∀ b, (G3 γ I s₂.heap.objs.size H2.objs.size).h b → γ.h b ∨ (s.heap.get? b = none ∧ ∃ o, s₃.heap.get? b = some o) := fun b q => by
    rcases q with q | rfl | rfl | rfl
    · exact .inl q
    · exact .inr ⟨dI, eI3⟩
    · exact .inr ⟨up dD2, eD3⟩
    · exact .inr ⟨up dC2, eC3⟩
  have hst3 : St' 0 s₃.heap := itr.walks.frame _ _ _ hst fun b _ o e => by rw [e3]; exact old b o e
  have loop : codeAny C.M A (.compLoop (.ListComp elt [⟨.Name (x : Str) px, iter, ifs, 0⟩] cs pos) 0 (.ref I) (.ref s₂.heap.objs.size) (compEnvC cs (clOf env cs.names []) H2.objs.size env))
      (RR (.ref s₂.heap.objs.size) H2.objs.size) s₃ := by
    refine comp_loop hnm T F itr dI (up dD2) (up dC2) nDI nCI hDC (J.ghost_new dI) (J.ghost_new (up dD2)) (J.ghost_new (up dC2))
      ⟨J.holds g3 hs (fun _ q => .inl q) (fun _ q => q) (fun _ => Iff.rfl), F.holds J g3 (fun _ => .inl) (fun b q => (hs b q).imp id And.left) (fun _ q => q), ⟨_, by rw [e3]; exact hns₁⟩, g3.stp, ⟨[], by rw [e3]; exact hacc, .nil⟩, rfl⟩ hst3 w ?_
    intro acc ρ' st' s' h1 h2 h3
    exact fin _ _ acc ρ' st' s' (up dD2) (up dC2) hDC (J.ghost_new (up dD2)) (J.ghost_new (up dC2)) h1 h2 h3
  exact codeAny_compStart_list loop (itr.walks.self 0 _ _ _ hst3 loop)

/-- a list that the run held goes among the objects that may be changed -/
theorem Inv.adopt {a : Addr} {o : HO} (I : Inv C γ' ρ H s) (ha : γ'.h a) (sub : ∀ b, γ.h b → γ'.h b) (hf : ∀ b, γ.f b → γ'.f b) (he : ∀ b, γ.e b → γ'.e b) (hbb : ∀ b, γ.b b ↔ γ'.b b) (hn : ¬ γ.h a) (nb : ¬ γ.b a) (ho : o.isLive = true)
    (r : Kept s.heap ρ (Nl γ' ρ H) s.heap (ρ ++ [a]) (Nl γ (ρ ++ [a]) (H ++ [o])) → ORel C s.heap (ρ ++ [a]) (Nl γ (ρ ++ [a]) (H ++ [o])) o a) : Inv C γ (ρ ++ [a]) (H ++ [o]) s := by
  have k : Kept s.heap ρ (Nl γ' ρ H) s.heap (ρ ++ [a]) (Nl γ (ρ ++ [a]) (H ++ [o])) :=
    ⟨fun _ x e _ => ⟨x, e, .refl x⟩, fun b q => by
      rcases q with q | q
      · rcases (Lv_snoc I.len ho).mp q with q | q
        · exact .inl (.inl q)
        · exact .inl (.inr (q ▸ ha))
      · exact .inl (.inr (sub b q)), fun i b e => by rw [List.getElem?_append_left (List.getElem?_eq_some_iff.mp e).1]; exact e⟩
  refine ⟨I.base, by simp [I.len], ?_, ?_, ?_, ?_, ?_, ?_, fun b q => I.held b (sub b q), fun b q => I.off b (sub b q), (fun b q => I.frm b (hf b q)), (fun b q => let ⟨x, l, nh⟩ := I.hdl b (he b q); ⟨x, fun z => ((Lv_snoc I.len ho).mp z).elim l fun z => nh (z ▸ ha), fun z => nh (sub b z)⟩), (fun z => by simp at z), I.gens, I.os⟩
  · refine List.nodup_append.mpr ⟨I.nodup, by simp, fun x hx y hy q => ?_⟩
    simp at hy; subst hy; subst q
    exact nb ((hbb _).mpr (I.apart _ hx ha))
  · intro b hb
    rcases List.mem_append.mp hb with h | h
    · exact I.fresh b h
    · simp at h; subst h; exact I.off _ ha
  · intro b hb
    rcases List.mem_append.mp hb with h | h
    · exact I.there b h
    · simp at h; subst h; exact I.held _ ha
  · intro i b x e1 e2
    rcases Nat.lt_trichotomy i ρ.length with h | h | h
    · rw [List.getElem?_append_left h] at e1
      rw [List.getElem?_append_left (I.len ▸ h)] at e2
      exact (I.obj i b x e1 e2).kept k fun y hy => hy
    · subst h
      rw [List.getElem?_append_right (Nat.le_refl _)] at e1
      rw [I.len, List.getElem?_append_right (Nat.le_refl _)] at e2
      simp at e1 e2
      subst e1; subst e2
      exact r k
    · have : (ρ ++ [a])[i]? = none := List.getElem?_eq_none (by rw [List.length_append, List.length_singleton]; omega)
      rw [this] at e1; cases e1
  · intro b hb q
    rcases List.mem_append.mp hb with h | h
    · exact (hbb b).mpr (I.apart b h (sub b q))
    · simp at h; subst h; exact absurd q hn
  · intro i b x e1 q e2
    rcases Nat.lt_trichotomy i ρ.length with h | h | h
    · rw [List.getElem?_append_left h] at e1
      rw [List.getElem?_append_left (I.len ▸ h)] at e2
      exact I.bor i b x e1 ((hbb b).mp q) e2
    · subst h
      rw [List.getElem?_append_right (Nat.le_refl _), Nat.sub_self] at e1
      cases e1; exact absurd q nb
    · rw [List.getElem?_eq_none (by rw [List.length_append, List.length_singleton]; omega)] at e1; cases e1

/-- the end of a comprehension: its list becomes a value -/
theorem comp_end {D Cl : Addr} {acc : List V} {Q : V → St → Prop} {h' : Heap} (F₁ : Fra γ env st₁ ρ₁ s₁) (dD : s₁.heap.get? D = none) (dC : s₁.heap.get? Cl = none) (nDC : D ≠ Cl) (gD : ¬ γ.h D) (gC : ¬ γ.h Cl)
    (J : CompSt C (G2 γ D Cl) env ρ₁ st₁ s₁ D Cl acc ρ st s) (hl : acc.length ≤ maxLen) (w : newL acc st Q) (hs : Heap.SameBut Cl s.heap h') :
    Post C γ ρ₁ st₁ s₁ Q (.ref D) { s with heap := h' } := by
  have k1 : ∀ b o, b ≠ Cl → s.heap.get? b = some o → h'.get? b = some o := fun b o hb e => hs.extBut b o hb e
  obtain ⟨ms, hpl, hrl⟩ := J.acc
  have sub : ∀ b, (Also γ D).h b → (G2 γ D Cl).h b := fun b q => q.imp id .inl
  have nC : ¬ (Also γ D).h Cl := fun q => q.elim gC fun q => nDC q.symm
  have I1 : Inv C (Also γ D) ρ st.H ({ s with heap := h' } : Shared) := J.inv.lose (a := Cl) (.inr (.inr rfl)) (fun q => gC (γ.bh _ q)) (fun _ => Iff.rfl) sub (fun _ q => q) (fun _ q => q) nC k1 rfl rfl
  have K1 : Kept s.heap ρ (Nl (G2 γ D Cl) ρ st.H) h' ρ (Nl (Also γ D) ρ st.H) := kept_lose (s := s) (s' := { s with heap := h' }) (a := Cl) (.inr (.inr rfl)) sub k1
  have S1 : Stp ρ₁ st₁.H s₁ ρ st.H ({ s with heap := h' } : Shared) := J.stp.touch dC k1
  have hpl1 : h'.PlainList D ms.toArray := hpl.at fun o e => k1 _ o nDC e
  have hrl1 := hrl.kept K1
  have nl : ¬ Nl γ ρ st.H D := fun q => q.elim (I1.ghost_nl (.inr rfl)) gD
  rcases w with w | w
  · have I2 : Inv C γ ρ st.H ({ s with heap := h' } : Shared) := I1.drop (fun _ => .inl) (fun _ q => q) (fun _ q => q) (fun _ => Iff.rfl)
    exact ⟨_, st, ρ, w, J.same, .lst hpl1 nl hl (hrl1.kept (kept_less (γ := γ) (γ' := Also γ D) (s := { s with heap := h' }) fun _ => .inl)), I2, S1⟩
  · refine ⟨_, _, ρ ++ [D], w, J.same, .loc (by rw [← I1.len]; simp), I1.adopt (.inr rfl) (fun _ => .inl) (fun _ q => q) (fun _ q => q) (fun _ => Iff.rfl) gD (fun q => gD (γ.bh _ q)) rfl fun kp => ⟨ms, hpl1, hrl1.kept kp, hl⟩, ⟨⟨S1.kep.keep, fun b q => ?_, fun i b e => ?_⟩⟩⟩
    · rcases (Lv_snoc I1.len rfl).mp q with q | q
      · exact S1.kep.live b q
      · exact .inr (q ▸ dD)
    · have := S1.kep.pre i b e
      rw [List.getElem?_append_left (List.getElem?_eq_some_iff.mp this).1]; exact this
end

section
variable {C : Cx} {k : Nat} {γ : Gh} {env : Env} {A : Around}

theorem PostX_false {ρ : List Addr} {st : St} {s : Shared} {ev : Value} {s' : Shared} {E : Value → Shared → Prop} (p : PostX C γ ρ st s (fun _ _ => False) ev s') : E ev s' := by
  obtain ⟨_, _, _, h, _⟩ := p; exact h.elim

noncomputable def compF (Φ : Orc) (G : String → Option V) (elt : E) (x : String) : V → St → (List V → St → Prop) → Prop :=
  fun v st₁ K => wE Φ G elt (st₁.set x v) (fun r st' => K [r] ⟨st₁.s, st'.H⟩) fun _ _ => False
noncomputable def compIfF (Φ : Orc) (G : String → Option V) (elt : E) (x : String) (c : E) : V → St → (List V → St → Prop) → Prop :=
  fun v st₁ K => wE Φ G c (st₁.set x v) (fun b st' => (b = .bool true ∧ wE Φ G elt st' (fun r st' => K [r] ⟨st₁.s, st'.H⟩) fun _ _ => False) ∨ (b = .bool false ∧ K [] ⟨st₁.s, st'.H⟩)) fun _ _ => False

theorem turn_comp {elt : E} {x : String} {cs : Scope} {pelt : Expr} (he : SE C k (relab cs env.scope) elt pelt) (hr : Room k A γ) : Turn C A γ cs env x [] pelt (compF (Calls C k) C.glo elt x) := by
  intro γ' hf hfe Cl s ρ st v Kf E I F w
  show wpAny C.M A (pure true) _ _ s
  refine wpAny_pure ?_
  rw [if_pos rfl]
  refine wpAny_mono (he (compEnvC cs (clOf env cs.names []) Cl env) A s γ' ρ (st.set x v) _ _ rfl (hr.more hf hfe) I F w) (fun y s₄ p => ?_) fun _ _ p => PostX_false p
  obtain ⟨r, st', ρ', h1, h2, h3, h4, h5⟩ := p
  exact ⟨r, ⟨st.s, st'.H⟩, ρ', h1, rfl, h3, h4, h5⟩

theorem turn_compIf {elt c : E} {x : String} {cs : Scope} {pelt pc : Expr} (he : SE C k (relab cs env.scope) elt pelt) (hc : ST C k (relab cs env.scope) c pc) (hr : Room k A γ) :
    Turn C A γ cs env x [pc] pelt (compIfF (Calls C k) C.glo elt x c) := by
  intro γ' hf hfe Cl s ρ st v Kf E I F w
  rw [List.forIn_cons]
  simp only [if_true]
  have w' : wT (Calls C k) C.glo c (st.set x v) (fun b st' => (b = true ∧ wE (Calls C k) C.glo elt st' (fun r st' => Kf [r] ⟨st.s, st'.H⟩) fun _ _ => False) ∨ (b = false ∧ Kf [] ⟨st.s, st'.H⟩)) (fun _ _ => False) := by
    have e : (fun (b : V) (st' : St) => (b = .bool true ∧ wE (Calls C k) C.glo elt st' (fun r st' => Kf [r] ⟨st.s, st'.H⟩) fun _ _ => False) ∨ (b = .bool false ∧ Kf [] ⟨st.s, st'.H⟩)) =
        fun v st' => ∃ b, v = .bool b ∧ ((b = true ∧ wE (Calls C k) C.glo elt st' (fun r st' => Kf [r] ⟨st.s, st'.H⟩) fun _ _ => False) ∨ (b = false ∧ Kf [] ⟨st.s, st'.H⟩)) := by
      funext v st'
      refine propext ⟨?_, ?_⟩
      · rintro (⟨rfl, h⟩ | ⟨rfl, h⟩)
        · exact ⟨true, rfl, .inl ⟨rfl, h⟩⟩
        · exact ⟨false, rfl, .inr ⟨rfl, h⟩⟩
      · rintro ⟨b, rfl, ⟨rfl, h⟩ | ⟨rfl, h⟩⟩
        · exact .inl ⟨rfl, h⟩
        · exact .inr ⟨rfl, h⟩
    show wE _ _ _ _ _ _
    rw [← e]; exact w
  refine wpAny_bind (wpAny_bind (wpAny_mono (hc (compEnvC cs (clOf env cs.names []) Cl env) A s γ' ρ (st.set x v) _ _ rfl (hr.more hf hfe) I F w') (fun ok s₃ p => wpAny_pure ?_) fun _ _ p => PostX_false p))
  show wpAny C.M A (pure ok) _ _ s₃
  refine wpAny_pure ?_
  obtain ⟨st', ρ', h1, h2, h4, h5⟩ := p
  rcases h1 with ⟨rfl, h1⟩ | ⟨rfl, h1⟩
  · rw [if_pos rfl]
    refine wpAny_mono (he (compEnvC cs (clOf env cs.names []) Cl env) A s₃ γ' ρ' st' _ _ rfl (hr.more hf hfe) h4 (F.step h5 h2) h1) (fun y s₄ p => ?_) fun _ _ p => PostX_false p
    obtain ⟨r, st'', ρ'', g1, g2, g3, g4, g5⟩ := p
    exact ⟨r, ⟨st.s, st''.H⟩, ρ'', g1, rfl, g3, g4, h5.trans g5⟩
  · exact ⟨⟨st.s, st'.H⟩, ρ', h1, rfl, h4, h5⟩

theorem isSetE_fold {pe : Expr} {env : Env} (h : isSetE pe = false) (x : Value) : foldedSetIterable pe env x = pure x := by
  cases pe <;> first | rfl | cases h

/-- a comprehension as a value -/
theorem se_compG {it : E} {pelt pit : Expr} {x : String} {px pos : Pos} {ifs : List Expr} {cs : Scope} {f : V → St → (List V → St → Prop) → Prop} {s : Shared} {ρ : List Addr} {st : St} {Q : V → St → Prop} {X : String → St → Prop}
    (hi : SE C k env.scope it pit) (hco : compOk cs env.scope x = true) (hset : isSetE pit = false) (T : Turn C A γ cs env x ifs pelt f) (hr : Room k A γ) (I : Inv C γ ρ st.H s) (F : Fra γ env st ρ s)
    (w : wE (Calls C k) C.glo it st (fun vi st => ∃ items, Items vi items ∧ compL f items [] st fun out st => newL out st Q) X) :
    wpAny C.M A (eval (.ListComp pelt [⟨.Name (x : Str) px, pit, ifs, 0⟩] cs pos) env) (Post C γ ρ st s Q) (PostX C γ ρ st s X) s := by
  have hnm := compOk_names hco
  rw [eval_ListComp]
  refine wpAny_comprehension_free (use := none) rfl (fun v => isSetE_fold hset v) (hnm.closure F) hnm.kind (fun p hp h => hnm.loc p hp h)
    (hi.at rfl hr (At.start I F) w fun mi s₁ vi st₁ ρ₁ w₁ r₁ a₁ S₁ => ?_)
  obtain ⟨items, e, w₁⟩ := w₁
  refine comp_block (RR := fun acc C' => compPost C.M A (PostX C γ ρ st s X) none (Post C γ ρ st s Q) acc C') hnm T hr a₁.inv a₁.fra (prim_iter hr a₁.inv r₁ e) w₁ ?_
  intro D Cl acc ρ' st' s' dD dC nDC gD gC J hl w'
  obtain ⟨m, hm⟩ := J.ns
  exact ⟨m, hm, fun h' hs => a₁.thenPost (comp_end a₁.fra dD dC nDC gD gC J hl w' hs)⟩

theorem se_comp {sc : Scope} {elt it : E} {x : String} {pelt pit : Expr} {px pos : Pos} {cs : Scope} (hco : compOk cs sc x = true) (hset : isSetE pit = false) (he : SE C k (relab cs sc) elt pelt) (hi : SE C k sc it pit) : SE C k sc (.comp elt x it) (.ListComp pelt [⟨.Name (x : Str) px, pit, [], 0⟩] cs pos) := by
  rintro env A s γ ρ st Q X rfl hr I F w
  exact se_compG hi hco hset (turn_comp he hr) hr I F w
theorem se_compIf {sc : Scope} {elt it c : E} {x : String} {pelt pit pc : Expr} {px pos : Pos} {cs : Scope} (hco : compOk cs sc x = true) (hset : isSetE pit = false) (he : SE C k (relab cs sc) elt pelt) (hi : SE C k sc it pit) (hc : ST C k (relab cs sc) c pc) : SE C k sc (.compIf elt x it c) (.ListComp pelt [⟨.Name (x : Str) px, pit, [pc], 0⟩] cs pos) := by
  rintro env A s γ ρ st Q X rfl hr I F w
  exact se_compG hi hco hset (turn_compIf he hc hr) hr I F w
end
end
end Mine
set_option autoImplicit false
set_option genInjectivity false
set_option genSizeOf false
namespace Mine
noncomputable section
open PySem PyProof.Rows

/-- names that a text says: all, its defs, its exceptions -/
structure Nm where
  all : List String
  fns : List String
  exs : List String
noncomputable def Cx.nm (C : Cx) (l : List String) : Nm := ⟨l, C.fns, C.exs⟩
noncomputable def nm (l : List String) (y : Str) : Option { x : String // (x : Str) = y } := l.findSome? fun (x : String) => if h : (x : Str) = y then some ⟨x, h⟩ else none
noncomputable def gName (e : Expr) : Option { x : Str × Pos // e = .Name x.1 x.2 } := match e with
  | .Name x p => some ⟨(x, p), rfl⟩
  | _ => none
noncomputable def gAttr (e : Expr) : Option { x : Expr × Str × Pos // e = .Attribute x.1 x.2.1 x.2.2 } := match e with
  | .Attribute a m p => some ⟨(a, m, p), rfl⟩
  | _ => none
noncomputable def gSlc (e : Expr) : Option { x : Option Expr × Option Expr × Option Expr × Pos // e = .Slice x.1 x.2.1 x.2.2.1 x.2.2.2 } := match e with
  | .Slice a b c p => some ⟨(a, b, c, p), rfl⟩
  | _ => none
noncomputable def one {α : Type} (l : List α) : Option { x : α // l = [x] } := l.head?.bind fun x => l.rec none fun y r _ => r.rec (some ⟨y, rfl⟩) fun _ _ _ => none
noncomputable def two {α : Type} (l : List α) : Option { x : α × α // l = [x.1, x.2] } := l.rec none fun y r _ => r.rec none fun z r' _ => r'.rec (some ⟨(y, z), rfl⟩) fun _ _ _ => none
noncomputable def bnOf (g : String) : Option { f : BN // f.name = g } :=
  if h : "len" = g then some ⟨.len, h⟩ else if h : "str" = g then some ⟨.str, h⟩ else if h : "int" = g then some ⟨.int, h⟩ else if h : "range" = g then some ⟨.range, h⟩ else if h : "list" = g then some ⟨.list, h⟩ else if h : "sorted" = g then some ⟨.sorted, h⟩ else none
noncomputable def mnOf (g : String) : Option { f : MN // f.name = g } :=
  if h : "append" = g then some ⟨.append, h⟩ else if h : "startswith" = g then some ⟨.startswith, h⟩ else none

noncomputable def toEs (f : Expr → E) : List Expr → Es
  | [] => .nil
  | e :: r => .cons (f e) (toEs f r)
noncomputable def cOpt (f : Expr → E) (o : Option Expr) : E := o.elim .omit f
noncomputable def cConst (c : Const) : E := match c with
  | .none => .none
  | .bool b => .bool b
  | .int i => .int i
  | .str x => bif decide (x.cps.toList.length ≤ 1000) && x.cps.toList.all (· < 128) then .str x.cps.toList else .stuck
  | _ => .stuck
noncomputable def cName (N : Nm) (sc : Scope) (y : Str) : E := (nm N.all y).elim .stuck fun x => bif isVar sc x.1 && (!((x.1 : Str) == ("__debug__" : Str)) && !((x.1 : Str) == ("__classdict__" : Str)) && !((x.1 : Str) == (".0" : Str))) then .var x.1 else bif isGlo sc x.1 then .glo x.1 else .stuck
noncomputable def cUn (op : UnaryOp) (a : E) : E := match op with
  | .USub => .neg a
  | .Not => .not a
  | _ => .stuck
noncomputable def cCmp (c : Expr → E) (a : Expr) (ops : List CmpOp) (es : List Expr) : E :=
  (one ops).elim ((two ops).elim .stuck fun o => (two es).elim .stuck fun y => bif !isSetE y.1.2 then .cmp2 o.1.1 o.1.2 (c a) (c y.1.1) (c y.1.2) else .stuck) fun o => (one es).elim .stuck fun y => bif !isSetE y.1 then .cmp o.1 (c a) (c y.1) else .stuck
noncomputable def cSub (c : Expr → E) (a i : Expr) : E := (gSlc i).elim (.idx (c a) (c i)) fun x => bif x.1.2.2.1.isNone && !(cOpt c x.1.1).isOmit.xor x.1.1.isNone && !(cOpt c x.1.2.1).isOmit.xor x.1.2.1.isNone then .slc (c a) (cOpt c x.1.1) (cOpt c x.1.2.1) else .stuck
noncomputable def cIsi (N : Nm) (sc : Scope) (c : Expr → E) (es : List Expr) : E := (two es).elim .stuck fun y => (gName y.1.2).elim .stuck fun u => (nm N.all u.1.1).elim .stuck fun t =>
  bif isGlo sc "isinstance" && isGlo sc t.1 && headOk y.1.1 then (bif tyNames.contains t.1 then .isi (c y.1.1) t.1 else bif N.exs.contains t.1 then .isiC (c y.1.1) t.1 else if t.1 = "ValueError" then .isiV (c y.1.1) else .stuck) else .stuck
noncomputable def cFun (N : Nm) (sc : Scope) (c : Expr → E) (y : Str) (es : List Expr) : E := (nm N.all y).elim .stuck fun g =>
  if g.1 = "isinstance" then cIsi N sc c es else
  bif isGlo sc g.1 && !es.isEmpty && es.all headOk then (bif N.fns.contains g.1 then .call g.1 (toEs c es) else (bnOf g.1).elim .stuck fun f => .blt f.1 (toEs c es)) else .stuck
noncomputable def cMth (N : Nm) (c : Expr → E) (a : Expr) (y : Str) (ap : Pos) (es : List Expr) (p : Pos) : E := (nm N.all y).elim .stuck fun g => (mnOf g.1).elim .stuck fun m =>
  bif headOk a && !es.isEmpty && decide (es.length < 20) && (ap.endLine == p.line) && es.all headOk then .mth m.1 (c a) (toEs c es) else .stuck
noncomputable def cCall (N : Nm) (sc : Scope) (c : Expr → E) (f : Expr) (es : List Expr) (kw : List Keyword) (p : Pos) : E := bif kw.isEmpty then (gName f).elim ((gAttr f).elim .stuck fun x => cMth N c x.1.1 x.1.2.1 x.1.2.2 es p) fun x => cFun N sc c x.1.1 es else .stuck
noncomputable def cComp (N : Nm) (sc : Scope) (c c' : Expr → E) (elt : Expr) (gs : List Comprehension) (cs : Scope) : E := (one gs).elim .stuck fun g => (gName g.1.target).elim .stuck fun y => (nm N.all y.1.1).elim .stuck fun x =>
  bif compOk cs sc x.1 && !isSetE g.1.iter && (g.1.is_async == 0) then (one g.1.ifs).elim (bif g.1.ifs.isEmpty then .comp (c' elt) x.1 (c g.1.iter) else .stuck) fun pc => .compIf (c' elt) x.1 (c g.1.iter) (c' pc.1) else .stuck
/-- a text's expression as a term of ours -/
noncomputable def cE (N : Nm) : Nat → Scope → Expr → E
  | 0 => fun _ _ => .stuck
  | n + 1 => fun sc pe => match pe with
    | .Constant c _ _ => cConst c
    | .Name x _ => cName N sc x
    | .Tuple es _ _ => bif decide (es.length ≤ 1000) && es.all headOk then .tup (toEs (cE N n sc) es) else .stuck
    | .List es _ => bif decide (es.length ≤ 1000) && es.all headOk then .list (toEs (cE N n sc) es) else .stuck
    | .BinOp a op b _ => .bin op (cE N n sc a) (cE N n sc b)
    | .UnaryOp op a _ => cUn op (cE N n sc a)
    | .BoolOp op es _ => bif !es.isEmpty then (match op with | .And => .and (toEs (cE N n sc) es) | .Or => .or (toEs (cE N n sc) es)) else .stuck
    | .Compare a ops es _ => cCmp (cE N n sc) a ops es
    | .Subscript a i _ => cSub (cE N n sc) a i
    | .Call f es kw p => cCall N sc (cE N n sc) f es kw p
    | .ListComp e gs cs _ => cComp N sc (cE N n sc) (cE N n (relab cs sc)) e gs cs
    | _ => .stuck

section
variable {C : Cx} {k : Nat} {sc : Scope} {pe : Expr}
noncomputable def Snd (C : Cx) (k : Nat) (sc : Scope) (e : E) (pe : Expr) : Prop := SE C k sc e pe ∧ ST C k sc e pe
theorem snd_stuck : Snd C k sc .stuck pe := ⟨se_stuck, fun _ _ _ _ _ _ _ _ _ _ _ _ w => False.elim w⟩
theorem snd_opt {α : Type} {o : Option α} {g : α → E} {d : E} (h0 : Snd C k sc d pe) (h : ∀ x, o = some x → Snd C k sc (g x) pe) : Snd C k sc (o.elim d g) pe := by
  cases o with
  | none => exact h0
  | some x => exact h x rfl
theorem snd_if {b : Bool} {e d : E} (h0 : Snd C k sc d pe) (h : b = true → Snd C k sc e pe) : Snd C k sc (bif b then e else d) pe := by
  cases b with
  | false => exact h0
  | true => exact h rfl
theorem snd_ite {P : Prop} [Decidable P] {e d : E} (h0 : Snd C k sc d pe) (h : P → Snd C k sc e pe) : Snd C k sc (if P then e else d) pe := by
  by_cases q : P
  · rw [if_pos q]; exact h q
  · rw [if_neg q]; exact h0
theorem snd_se {e : E} (he : SE C k sc e pe) (hp : ∀ env (whole : Sem Value), isTrue pe env whole = (do let v ← whole; standAt pe.pos; holding [v] (truthy v))) : Snd C k sc e pe := ⟨he, st_of_se he hp⟩
theorem and2 {a b : Bool} (h : (a && b) = true) : a = true ∧ b = true := Bool.and_eq_true_iff.mp h
theorem not1 {a : Bool} (h : (!a) = true) : a = false := by cases a <;> first | rfl | cases h
theorem nonempty {α : Type} {l : List α} (h : (!l.isEmpty) = true) : l ≠ [] := fun e => by rw [e] at h; cases h

theorem row_of {f : Expr → E} {P : E → Expr → Prop} (h : ∀ pe, P (f pe) pe) : ∀ pes : List Expr, AllE P (toEs f pes) pes
  | [] => .nil
  | pe :: r => .cons (h pe) (row_of h r)
theorem all_ok {f : Expr → E} {P : E → Expr → Prop} (h : ∀ pe, P (f pe) pe) : ∀ pes : List Expr, pes.all headOk = true → AllE (fun e pe => P e pe ∧ headOk pe = true) (toEs f pes) pes
  | [], _ => .nil
  | pe :: r, q => .cons ⟨h pe, (and2 q).1⟩ (all_ok h r (and2 q).2)
theorem ses_all {f : Expr → E} (h : ∀ pe, Snd C k sc (f pe) pe) {pes : List Expr} (q : pes.all headOk = true) : SEs C k sc (toEs f pes) pes := ses_of (all_ok (fun pe => (h pe).1) pes q)

theorem snd_const {c : Const} {u : Nat} {p : Pos} : Snd C k sc (cConst c) (.Constant c u p) := by
  cases c with
  | none => exact snd_se se_none fun _ _ => rfl
  | bool b => exact snd_se se_bool fun _ _ => rfl
  | int i => exact snd_se se_int fun _ _ => rfl
  | str x => exact snd_if snd_stuck fun h => snd_se (se_str h) fun _ _ => rfl
  | _ => exact snd_stuck
theorem snd_name {l : List String} {y : Str} {p : Pos} : Snd C k sc (cName (C.nm l) sc y) (.Name y p) := by
  refine snd_opt snd_stuck fun x _ => ?_
  obtain ⟨x, rfl⟩ := x
  exact snd_if (snd_if snd_stuck fun h => snd_se (se_glo h) fun _ _ => rfl) fun h => snd_se (se_var (and2 h).1 (and2 h).2) fun _ _ => rfl
theorem snd_cmp {c : Expr → E} (ih : ∀ pe, Snd C k sc (c pe) pe) {a : Expr} {ops : List CmpOp} {es : List Expr} {p : Pos} : Snd C k sc (cCmp c a ops es) (.Compare a ops es p) := by
  refine snd_opt (snd_opt snd_stuck fun o _ => snd_opt snd_stuck fun y _ => snd_if snd_stuck fun h => ?_) fun o _ => snd_opt snd_stuck fun y _ => snd_if snd_stuck fun h => ?_
  · obtain ⟨⟨o1, o2⟩, rfl⟩ := o
    obtain ⟨⟨b, d⟩, rfl⟩ := y
    exact ⟨se_cmp2 (not1 h) (ih a).1 (ih b).1 (ih d).1, st_cmp2 (not1 h) (ih a).1 (ih b).1 (ih d).1⟩
  · obtain ⟨o, rfl⟩ := o
    obtain ⟨y, rfl⟩ := y
    exact ⟨se_cmp (not1 h) (ih a).1 (ih y).1, st_cmp (not1 h) (ih a).1 (ih y).1⟩
theorem opt_of {c : Expr → E} (ih : ∀ pe, Snd C k sc (c pe) pe) {o : Option Expr} (h : (!(cOpt c o).isOmit.xor o.isNone) = true) : OptE C k sc (cOpt c o) o := by
  cases o with
  | none => exact .inl ⟨rfl, rfl⟩
  | some pe =>
    refine .inr ⟨?_, pe, rfl, (ih pe).1⟩
    cases q : (cOpt c (some pe)).isOmit with
    | false => rfl
    | true => rw [q] at h; cases h
theorem snd_sub {c : Expr → E} (ih : ∀ pe, Snd C k sc (c pe) pe) {a i : Expr} {p : Pos} : Snd C k sc (cSub c a i) (.Subscript a i p) := by
  refine snd_opt (snd_se (se_idx (ih a).1 (ih i).1) fun _ _ => rfl) fun x _ => snd_if snd_stuck fun h => ?_
  obtain ⟨⟨lo, hi, st, q⟩, rfl⟩ := x
  obtain ⟨h, h3⟩ := and2 h
  obtain ⟨h1, h2⟩ := and2 h
  have h1 : st = none := Option.isNone_iff_eq_none.mp h1
  subst h1
  exact snd_se (se_slc (ih a).1 (opt_of ih h2) (opt_of ih h3)) fun _ _ => rfl
theorem snd_isi {l : List String} {c : Expr → E} (ih : ∀ pe, Snd C k sc (c pe) pe) {es : List Expr} {p q : Pos} : Snd C k sc (cIsi (C.nm l) sc c es) (.Call (.Name ("isinstance" : String) p) es [] q) := by
  refine snd_opt snd_stuck fun y _ => ?_
  obtain ⟨⟨a, t⟩, rfl⟩ := y
  refine snd_opt snd_stuck fun u _ => ?_
  obtain ⟨⟨u, p'⟩, hu⟩ := u
  have hu : t = .Name u p' := hu
  subst hu
  refine snd_opt snd_stuck fun x _ => ?_
  obtain ⟨x, hx⟩ := x
  have hx : (x : Str) = u := hx
  subst hx
  refine snd_if snd_stuck fun h => ?_
  obtain ⟨h, h3⟩ := and2 h
  obtain ⟨h1, h2⟩ := and2 h
  refine snd_if (snd_if (snd_ite snd_stuck fun e => ?_) fun e => ?_) fun e => ?_
  · have e : x = "ValueError" := e
    subst e; exact snd_se (se_isiV h1 h2 h3 (ih a).1) fun _ _ => rfl
  · exact snd_se (se_isiC h1 (List.contains_iff_mem.mp e) h2 h3 (ih a).1) fun _ _ => rfl
  · exact snd_se (se_isi h1 (List.contains_iff_mem.mp e) h2 h3 (ih a).1) fun _ _ => rfl
theorem snd_fun {l : List String} {c : Expr → E} (ih : ∀ pe, Snd C k sc (c pe) pe) {y : Str} {es : List Expr} {p q : Pos} : Snd C k sc (cFun (C.nm l) sc c y es) (.Call (.Name y p) es [] q) := by
  refine snd_opt snd_stuck fun x _ => ?_
  obtain ⟨x, rfl⟩ := x
  refine snd_ite (snd_if snd_stuck fun h => ?_) fun e => ?_
  · obtain ⟨h, h3⟩ := and2 h
    obtain ⟨h1, h2⟩ := and2 h
    refine snd_if (snd_opt snd_stuck fun f _ => ?_) fun e => snd_se (se_call (List.contains_iff_mem.mp e) h1 (nonempty h2) (ses_all ih h3)) fun _ _ => rfl
    obtain ⟨f, hf⟩ := f
    have hf : f.name = x := hf
    subst hf
    exact snd_se (se_blt h1 (nonempty h2) (ses_all ih h3)) fun _ _ => rfl
  · have e : x = "isinstance" := e
    subst e; exact snd_isi ih
theorem snd_mth {l : List String} {c : Expr → E} (ih : ∀ pe, Snd C k sc (c pe) pe) {a : Expr} {y : Str} {ap : Pos} {es : List Expr} {p : Pos} : Snd C k sc (cMth (C.nm l) c a y ap es p) (.Call (.Attribute a y ap) es [] p) := by
  refine snd_opt snd_stuck fun x _ => ?_
  obtain ⟨x, rfl⟩ := x
  refine snd_opt snd_stuck fun m _ => snd_if snd_stuck fun h => ?_
  obtain ⟨m, hm⟩ := m
  have hm : m.name = x := hm
  subst hm
  obtain ⟨h, h5⟩ := and2 h
  obtain ⟨h, h4⟩ := and2 h
  obtain ⟨h, h3⟩ := and2 h
  obtain ⟨h1, h2⟩ := and2 h
  exact snd_se (se_mth h1 (nonempty h2) (of_decide_eq_true h3) (beq_iff_eq.mp h4) (ih a).1 (ses_all ih h5)) fun _ _ => rfl
theorem snd_call {l : List String} {c : Expr → E} (ih : ∀ pe, Snd C k sc (c pe) pe) {f : Expr} {es : List Expr} {kw : List Keyword} {p : Pos} : Snd C k sc (cCall (C.nm l) sc c f es kw p) (.Call f es kw p) := by
  refine snd_if snd_stuck fun h => ?_
  have h : kw = [] := List.isEmpty_iff.mp h
  subst h
  refine snd_opt (snd_opt snd_stuck fun x _ => ?_) fun x _ => ?_
  · obtain ⟨⟨a, m, ap⟩, rfl⟩ := x
    exact snd_mth ih
  · obtain ⟨⟨y, q⟩, rfl⟩ := x
    exact snd_fun ih
theorem snd_comp {l : List String} {c c' : Expr → E} {cs : Scope} (ih : ∀ pe, Snd C k sc (c pe) pe) (ih' : ∀ pe, Snd C k (relab cs sc) (c' pe) pe) {elt : Expr} {gs : List Comprehension} {p : Pos} : Snd C k sc (cComp (C.nm l) sc c c' elt gs cs) (.ListComp elt gs cs p) := by
  refine snd_opt snd_stuck fun g _ => ?_
  obtain ⟨⟨tg, it, ifs, asy⟩, rfl⟩ := g
  refine snd_opt snd_stuck fun y _ => ?_
  obtain ⟨⟨y, q⟩, hy⟩ := y
  have hy : tg = .Name y q := hy
  subst hy
  refine snd_opt snd_stuck fun x _ => ?_
  obtain ⟨x, hx⟩ := x
  have hx : (x : Str) = y := hx
  subst hx
  refine snd_if snd_stuck fun h => ?_
  obtain ⟨h, h3⟩ := and2 h
  obtain ⟨h1, h2⟩ := and2 h
  have h3 : asy = 0 := beq_iff_eq.mp h3
  subst h3
  refine snd_opt (snd_if snd_stuck fun e => ?_) fun pc _ => ?_
  · have e : ifs = [] := List.isEmpty_iff.mp e
    subst e
    exact snd_se (se_comp h1 (not1 h2) (ih' elt).1 (ih it).1) fun _ _ => rfl
  · obtain ⟨pc, hp⟩ := pc
    have hp : ifs = [pc] := hp
    subst hp
    exact snd_se (se_compIf h1 (not1 h2) (ih' elt).1 (ih it).1 (ih' pc).2) fun _ _ => rfl

theorem soundE {l : List String} : ∀ (n : Nat) (sc : Scope) (pe : Expr), Snd C k sc (cE (C.nm l) n sc pe) pe
  | 0, _, _ => snd_stuck
  | n + 1, sc, pe => by
    have ih := fun sc => soundE (l := l) n sc
    cases pe with
    | Constant c u p => exact snd_const
    | Name x p => exact snd_name
    | Tuple es u p => exact snd_if snd_stuck fun h => snd_se (se_tup (of_decide_eq_true (and2 h).1) (ses_all (ih sc) (and2 h).2)) fun _ _ => rfl
    | List es p => exact snd_if snd_stuck fun h => snd_se (se_list (of_decide_eq_true (and2 h).1) (ses_all (ih sc) (and2 h).2)) fun _ _ => rfl
    | BinOp a op b p => exact snd_se (se_bin (ih sc a).1 (ih sc b).1) fun _ _ => rfl
    | UnaryOp op a p =>
      cases op with
      | USub => exact snd_se (se_neg (ih sc a).1) fun _ _ => rfl
      | Not => exact ⟨se_not (ih sc a).1, st_not (ih sc a).2⟩
      | _ => exact snd_stuck
    | BoolOp op es p =>
      refine snd_if snd_stuck fun h => ?_
      cases op with
      | And => exact ⟨se_and (row_of (fun pe => (ih sc pe).1) es) (nonempty h), st_and (row_of (fun pe => (ih sc pe).2) es)⟩
      | Or => exact ⟨se_or (row_of (fun pe => (ih sc pe).1) es) (nonempty h), st_or (row_of (fun pe => (ih sc pe).2) es)⟩
    | Compare a ops es p => exact snd_cmp (ih sc)
    | Subscript a i p => exact snd_sub (ih sc)
    | Call f es kw p => exact snd_call (ih sc)
    | ListComp e gs cs p => exact snd_comp (ih sc) (ih (relab cs sc))
    | _ => exact snd_stuck
end
end
end Mine
set_option autoImplicit false
set_option genInjectivity false
set_option genSizeOf false
namespace Mine
noncomputable section
open PySem PyProof.Rows

/-- the names of a frame that its own statements write -/
noncomputable def Own (env : Env) (b : Addr) : Prop := b = env.locals ∨ ∃ n, env.kindOf n = some .cell ∧ env.cells.lookup n = some b

/-- a step of a frame: all but the objects that may be changed and the frame's own names -/
structure StpW (W : Addr → Prop) (ρ : List Addr) (H : List HO) (s : Shared) (ρ' : List Addr) (H' : List HO) (s' : Shared) : Prop where
  keep : ∀ a o, s.heap.get? a = some o → ¬ Lv ρ H a → ¬ W a → ∃ o', s'.heap.get? a = some o' ∧ Alike o o'
  live : ∀ a, ¬ W a → Lv ρ' H' a → Lv ρ H a ∨ s.heap.get? a = none
  pre : ∀ (i : Nat) a, ρ[i]? = some a → ρ'[i]? = some a

section
variable {W : Addr → Prop} {ρ ρ' ρ'' : List Addr} {H H' H'' : List HO} {s s' s'' : Shared}
theorem Stp.w (S : Stp ρ H s ρ' H' s') : StpW W ρ H s ρ' H' s' := ⟨fun a o e n _ => S.kep.keep a o e n, fun a _ q => S.kep.live a q, S.kep.pre⟩
theorem StpW.refl : StpW W ρ H s ρ H s := (Stp.refl ρ H s).w
theorem StpW.notLive (x : StpW W ρ H s ρ' H' s') {a : Addr} {o : Obj} (e : s.heap.get? a = some o) (n : ¬ Lv ρ H a) (nw : ¬ W a) : ¬ Lv ρ' H' a := fun q => by
  rcases x.live a nw q with z | z
  · exact n z
  · rw [e] at z; cases z
theorem StpW.same (x : StpW W ρ H s ρ' H' s') {a : Addr} {o : Obj} (e : s.heap.get? a = some o) (n : ¬ Lv ρ H a) (nw : ¬ W a) (hd : ∀ es m, o.data ≠ .dict es m) : s'.heap.get? a = some o := by
  obtain ⟨o', e', al⟩ := x.keep a o e n nw
  rw [e', al.same hd]
theorem StpW.trans (x : StpW W ρ H s ρ' H' s') (y : StpW W ρ' H' s' ρ'' H'' s'') : StpW W ρ H s ρ'' H'' s'' := by
  refine ⟨fun a o e n nw => ?_, fun a nw q => ?_, fun i a e => y.pre _ _ (x.pre _ _ e)⟩
  · obtain ⟨o', e', q⟩ := x.keep a o e n nw
    obtain ⟨o'', e'', q'⟩ := y.keep a o' e' (x.notLive e n nw) nw
    exact ⟨o'', e'', q.trans q'⟩
  · rcases y.live a nw q with z | z
    · exact x.live a nw z
    · by_cases hL : Lv ρ H a
      · exact .inl hL
      · right
        cases hg : s.heap.get? a with
        | none => rfl
        | some o =>
          obtain ⟨o', e', _⟩ := x.keep a o hg hL nw
          rw [z] at e'; cases e'
/-- what is changed alone is the frame's own, or new -/
theorem StpW.touch {a : Addr} (x : StpW W ρ H s ρ' H' s') (hw : W a ∨ s.heap.get? a = none) (k : ∀ b o, b ≠ a → s'.heap.get? b = some o → s''.heap.get? b = some o) : StpW W ρ H s ρ' H' s'' :=
  ⟨(fun b o e n nw => by
    obtain ⟨o', e', q⟩ := x.keep b o e n nw
    refine ⟨o', k b o' (fun q => ?_) e', q⟩
    subst q
    rcases hw with z | z
    · exact nw z
    · rw [e] at z; cases z), x.live, x.pre⟩
end

section
variable {C : Cx} {k : Nat} {γ γ' : Gh} {env : Env} {A : Around} {ρ₁ : List Addr} {st₁ : St} {s₁ : Shared} {ρ ρ' : List Addr} {st st' : St} {s s' : Shared} {E : Value → Shared → Prop}

theorem Fra.own_ghost (F : Fra γ env st ρ s) {b : Addr} (h : Own env b) : γ.h b := by
  rcases h with rfl | ⟨n, hk, hl⟩
  · exact F.own
  · obtain ⟨c, ov, h1, h2, _⟩ := F.cell n (.inl hk)
    rw [hl] at h1; cases h1; exact h2.2
theorem Fra.own_nb (F : Fra γ env st ρ s) {b : Addr} (h : Own env b) : ¬ γ.b b := by
  rcases h with rfl | ⟨n, _, hl⟩
  · exact F.nb
  · exact (F.nbc n b hl).2
theorem Fra.cell_ne (F : Fra γ env st ρ s) {n : Str} {c : Addr} (hk : env.kindOf n = some .cell ∨ env.kindOf n = some .free) (hl : env.cells.lookup n = some c) : c ≠ env.locals := fun e => by
  obtain ⟨c', ov, h1, h2, ⟨o, ho, hd⟩, _⟩ := F.cell n hk
  rw [hl] at h1; cases h1
  obtain ⟨m, ⟨o', es, ep, ho', hd', _⟩, _⟩ := F.ns
  rw [e, ho'] at ho; cases ho
  rw [hd'] at hd; cases hd
theorem Fra.cls_false (F : Fra γ env st ρ s) : (env.scope.kind == .class || (env.scope.kind == .module && env.locals != env.globals)) = false := by rw [F.kind]; rfl

/-- a name is written -/
theorem prim_store {x : String} {v : V} {mv : Value} (hk : kd env.scope x = some .local ∨ kd env.scope x = some .cell) (I : Inv C γ ρ st.H s) (F : Fra γ env st ρ s) (r : Rel s.heap ρ (Nl γ ρ st.H) v mv) :
    wpAny C.M A (storeName env x mv) (fun _ s' => Inv C γ ρ st.H s' ∧ Fra γ env (st.set x v) ρ s' ∧ StpW (Own env) ρ st.H s ρ st.H s') E s := by
  obtain ⟨m, hm, hv⟩ := F.ns
  rcases hk with hk | hk
  · refine wpAny_storeName_local hk hm (fun h' hn' hs' => ?_) F.cls_false
    have k1 : ∀ b o, b ≠ env.locals → s.heap.get? b = some o → h'.get? b = some o := fun b o hb e => hs'.extBut b o hb e
    have K := kept_touch (s := s) (s' := { s with heap := h', toks := s.toks + 1 }) (ρ := ρ) (H := st.H) F.own k1
    refine ⟨I.touch F.own F.nb (fun _ => Heap_Ns_dict hn') k1 (Heap_Ns_get hn') rfl rfl, ⟨F.kind, F.glob, F.blt, F.nl, F.own, ⟨_, hn', fun y w ky kz q => ?_⟩, fun n kn => ?_, F.apart, F.nb, F.nbc⟩, StpW.refl.touch (.inl (.inl rfl)) k1⟩
    · by_cases e : y = x
      · subst e
        simp only [St.set, if_true, Option.some.injEq] at q
        subst q
        exact ⟨mv, by simp, r.kept K⟩
      · have e' : (y : Str) ≠ (x : Str) := fun z => e (str_inj z)
        simp only [St.set, if_neg e] at q
        obtain ⟨mw, e1, e2⟩ := hv y w ky kz q
        exact ⟨mw, by simp [e', e1], e2.kept K⟩
    · obtain ⟨c, ov, h1, h2, ⟨o, ho, hd⟩, h4⟩ := F.cell n kn
      refine ⟨c, ov, h1, h2, ⟨o, k1 _ _ (F.cell_ne kn h1) ho, hd⟩, fun y hy w q => ?_⟩
      have e : y ≠ x := fun e => by subst e; rw [← hy] at kn; rcases kn with kn | kn <;> · rw [show env.kindOf (y : Str) = some .local from hk] at kn; cases kn
      simp only [St.set, if_neg e] at q
      obtain ⟨mw, e1, e2⟩ := h4 y hy w q
      exact ⟨mw, e1, e2.kept K⟩
  · obtain ⟨c, ov, h1, h2, h3, h4⟩ := F.cell x (.inl hk)
    refine wpAny_storeName_cell F.kind hk h1 h3 (fun h' hn' hs' => ?_)
    have k1 : ∀ b o, b ≠ c → s.heap.get? b = some o → h'.get? b = some o := fun b o hb e => hs'.extBut b o hb e
    have K := kept_touch (s := s) (s' := { s with heap := h' }) (ρ := ρ) (H := st.H) h2.2 k1
    have hne := F.cell_ne (.inl hk) h1
    refine ⟨I.touch h2.2 (F.nbc _ _ h1).2 (fun q => by obtain ⟨o, es, n, e, d⟩ := I.frm c q; obtain ⟨o', e', d'⟩ := h3; rw [e] at e'; cases e'; rw [d] at d'; cases d') k1 (let ⟨o, e, _⟩ := hn'; ⟨o, e⟩) rfl rfl, ⟨F.kind, F.glob, F.blt, F.nl, F.own, ⟨m, Heap_Ns_alike hm fun o ho => ⟨o, k1 _ _ (Ne.symm hne) ho, .refl o⟩, fun y w ky kz q => ?_⟩, fun n kn => ?_, F.apart, F.nb, F.nbc⟩, StpW.refl.touch (.inl (.inr ⟨_, hk, h1⟩)) k1⟩
    · have e : y ≠ x := fun e => by subst e; rw [show env.kindOf (y : Str) = some .cell from hk] at ky; cases ky
      simp only [St.set, if_neg e] at q
      obtain ⟨mw, e1, e2⟩ := hv y w ky kz q
      exact ⟨mw, e1, e2.kept K⟩
    · by_cases e : n = (x : Str)
      · subst e
        refine ⟨c, _, h1, h2, hn', fun y hy w q => ?_⟩
        have := str_inj hy; subst this
        simp only [St.set, if_true, Option.some.injEq] at q
        subst q
        exact ⟨mv, rfl, r.kept K⟩
      · obtain ⟨c', ov', g1, g2, ⟨o, ho, hd⟩, g4⟩ := F.cell n kn
        have hcc : c' ≠ c := fun z => e (F.apart n x c (z ▸ g1) h1)
        refine ⟨c', ov', g1, g2, ⟨o, k1 _ _ hcc ho, hd⟩, fun y hy w q => ?_⟩
        have ey : y ≠ x := fun z => by subst z; exact e hy.symm
        simp only [St.set, if_neg ey] at q
        obtain ⟨mw, e1, e2⟩ := g4 y hy w q
        exact ⟨mw, e1, e2.kept K⟩
end

/-- no comprehension -/
noncomputable def isCompE (e : Expr) : Bool := match e with
  | .ListComp .. => true
  | .SetComp .. => true
  | .DictComp .. => true
  | _ => false
noncomputable def isLoc (sc : Scope) (x : String) : Bool := kd sc x == some .local || kd sc x == some .cell

inductive FlowRel (h : Heap) (ρ : List Addr) (N : Addr → Prop) : Flow → PySem.Flow → Prop
  | next : FlowRel h ρ N .next .next
  | brk : FlowRel h ρ N .brk .brk
  | cont : FlowRel h ρ N .cont .cont
  | ret {v : V} {mv : Value} : Rel h ρ N v mv → FlowRel h ρ N (.ret v) (.ret mv)

noncomputable def PostF (C : Cx) (γ : Gh) (env : Env) (ρ : List Addr) (st : St) (s : Shared) (Q : Flow → St → Prop) (fl : PySem.Flow) (s' : Shared) : Prop :=
  ∃ f st' ρ', Q f st' ∧ FlowRel s'.heap ρ' (Nl γ ρ' st'.H) f fl ∧ Inv C γ ρ' st'.H s' ∧ Fra γ env st' ρ' s' ∧ StpW (Own env) ρ st.H s ρ' st'.H s'
noncomputable def PostFX (C : Cx) (γ : Gh) (env : Env) (ρ : List Addr) (st : St) (s : Shared) (X : String → St → Prop) (ev : Value) (s' : Shared) : Prop :=
  ∃ c st' ρ', X c st' ∧ (ExcIs C s.heap s' ev c ∨ RawIs C s.heap s' ev c) ∧ Inv C γ ρ' st'.H s' ∧ Fra γ env st' ρ' s' ∧ StpW (Own env) ρ st.H s ρ' st'.H s'

/-- the frame that stands uppermost -/
noncomputable def Top (A : Around) (env : Env) : Prop := ∃ l, A.frames = some (env :: l)
noncomputable def SS (C : Cx) (k : Nat) (sc : Scope) (x : S) (ps : Stmt) : Prop := ∀ (env : Env) (A : Around) (s : Shared) (γ : Gh) (ρ : List Addr) (st : St) (Q : Flow → St → Prop) (X : String → St → Prop), env.scope = sc → Room k A γ → Top A env → Inv C γ ρ st.H s → Fra γ env st ρ s →
  wS (Calls C k) C.glo x st Q X → wpAny C.M A (exec ps env) (PostF C γ env ρ st s Q) (PostFX C γ env ρ st s X) s
noncomputable def SSs (C : Cx) (k : Nat) (sc : Scope) (x : Ss) (pss : List Stmt) : Prop := ∀ (env : Env) (A : Around) (s : Shared) (γ : Gh) (ρ : List Addr) (st : St) (Q : Flow → St → Prop) (X : String → St → Prop), env.scope = sc → Room k A γ → Top A env → Inv C γ ρ st.H s → Fra γ env st ρ s →
  wSs (Calls C k) C.glo x st Q X → wpAny C.M A (execs pss env) (PostF C γ env ρ st s Q) (PostFX C γ env ρ st s X) s

section
variable {C : Cx} {k : Nat} {sc : Scope} {γ γ' : Gh} {env : Env} {A : Around} {ρ₁ : List Addr} {st₁ : St} {s₁ : Shared} {ρ ρ' : List Addr} {st st' : St} {s s' : Shared} {Q : Flow → St → Prop} {X : String → St → Prop}

theorem PostF.step {fl : PySem.Flow} (S : StpW (Own env) ρ st.H s ρ' st'.H s') {s'' : Shared} (p : PostF C γ env ρ' st' s' Q fl s'') : PostF C γ env ρ st s Q fl s'' := by
  obtain ⟨f, st'', ρ'', h1, h2, h3, h4, h5⟩ := p
  exact ⟨f, st'', ρ'', h1, h2, h3, h4, S.trans h5⟩
theorem StpW.back (S : StpW (Own env) ρ st.H s ρ' st'.H s') (I : Inv C γ ρ' st'.H s') (F : Fra γ env st' ρ' s') (a : Addr) (h : s'.heap.get? a = none) : s.heap.get? a = none := by
  cases e : s.heap.get? a with
  | none => rfl
  | some o =>
    exfalso
    by_cases q : Lv ρ st.H a
    · obtain ⟨i, _, q1, _⟩ := q
      obtain ⟨o', e'⟩ := I.there a (List.mem_of_getElem? (S.pre i a q1))
      rw [h] at e'; cases e'
    · by_cases w : Own env a
      · obtain ⟨o', e'⟩ := I.held a (F.own_ghost w)
        rw [h] at e'; cases e'
      · obtain ⟨o', e', _⟩ := S.keep a o e q w
        rw [h] at e'; cases e'
theorem PostFX.step {ev : Value} (I : Inv C γ ρ' st'.H s') (F : Fra γ env st' ρ' s') (S : StpW (Own env) ρ st.H s ρ' st'.H s') {s'' : Shared} (p : PostFX C γ env ρ' st' s' X ev s'') : PostFX C γ env ρ st s X ev s'' := by
  obtain ⟨f, st'', ρ'', h1, h2, h3, h4, h5⟩ := p
  exact ⟨f, st'', ρ'', h1, h2.imp (·.back (S.back I F)) (·.back (S.back I F)), h3, h4, S.trans h5⟩
theorem PostX.frame {ev : Value} (F : Fra γ env st ρ s) (p : PostX C γ ρ st s X ev s') : PostFX C γ env ρ st s X ev s' := by
  obtain ⟨c, st', ρ', h1, h2, h3, h4, h5⟩ := p
  exact ⟨c, st', ρ', h1, .inl h3, h4, F.step h5 h2, h5.w⟩

/-- an expression of a statement -/
theorem SE.stm {e : E} {pe : Expr} {W : V → St → Prop} {K : Value → Shared → Prop} (ih : SE C k sc e pe) (hs : env.scope = sc) (hr : Room k A γ) (I : Inv C γ ρ st.H s) (F : Fra γ env st ρ s) (w : wE (Calls C k) C.glo e st W X)
    (h : ∀ mv s' v st' ρ', W v st' → Rel s'.heap ρ' (Nl γ ρ' st'.H) v mv → Inv C γ ρ' st'.H s' → Fra γ env st' ρ' s' → Stp ρ st.H s ρ' st'.H s' → K mv s') : wpAny C.M A (eval pe env) K (PostFX C γ env ρ st s X) s :=
  wpAny_mono (ih env A s γ ρ st W X hs hr I F w) (fun mv s' p => by
    obtain ⟨v, st', ρ', h1, h2, h3, h4, h5⟩ := p
    exact h mv s' v st' ρ' h1 h3 h4 (F.step h5 h2) h5) fun _ _ p => p.frame F
theorem ST.stm {e : E} {pe : Expr} {W : Bool → St → Prop} {K : Bool → Shared → Prop} (ih : ST C k sc e pe) (hs : env.scope = sc) (hr : Room k A γ) (I : Inv C γ ρ st.H s) (F : Fra γ env st ρ s) (w : wT (Calls C k) C.glo e st W X)
    (h : ∀ b s' st' ρ', W b st' → Inv C γ ρ' st'.H s' → Fra γ env st' ρ' s' → Stp ρ st.H s ρ' st'.H s' → K b s') : wpAny C.M A (isTrue pe env (eval pe env)) K (PostFX C γ env ρ st s X) s :=
  wpAny_mono (ih env A s γ ρ st W X hs hr I F w) (fun mv s' p => by
    obtain ⟨st', ρ', h1, h2, h4, h5⟩ := p
    exact h mv s' st' ρ' h1 h4 (F.step h5 h2) h5) fun _ _ p => p.frame F
theorem SSs.at {x : Ss} {pss : List Stmt} (ih : SSs C k sc x pss) (hs : env.scope = sc) (hr : Room k A γ) (ht : Top A env) (I : Inv C γ ρ' st'.H s') (F : Fra γ env st' ρ' s') (S : StpW (Own env) ρ st.H s ρ' st'.H s') (w : wSs (Calls C k) C.glo x st' Q X) :
    wpAny C.M A (execs pss env) (PostF C γ env ρ st s Q) (PostFX C γ env ρ st s X) s' :=
  wpAny_mono (ih env A s' γ ρ' st' Q X hs hr ht I F w) (fun _ _ p => p.step S) fun _ _ p => p.step I F S

theorem SE.stmW {ρ₀ : List Addr} {st₀ : St} {s₀ : Shared} {e : E} {pe : Expr} {W : V → St → Prop} {K : Value → Shared → Prop} (ih : SE C k sc e pe) (hs : env.scope = sc) (hr : Room k A γ) (S₀ : StpW (Own env) ρ₀ st₀.H s₀ ρ st.H s) (I : Inv C γ ρ st.H s) (F : Fra γ env st ρ s) (w : wE (Calls C k) C.glo e st W X)
    (h : ∀ mv s' v st' ρ', W v st' → Rel s'.heap ρ' (Nl γ ρ' st'.H) v mv → Inv C γ ρ' st'.H s' → Fra γ env st' ρ' s' → Stp ρ st.H s ρ' st'.H s' → K mv s') : wpAny C.M A (eval pe env) K (PostFX C γ env ρ₀ st₀ s₀ X) s :=
  wpAny_mono (ih.stm hs hr I F w h) (fun _ _ x => x) fun _ _ p => p.step I F S₀

theorem swaps_plain {pe : Expr} {t : Option Expr} {l : Nat} (h : isCompE pe = false) : swapsWith pe t l env = pure false := by
  unfold swapsWith
  cases pe <;> first | rfl | cases h

theorem ss_stuck {ps : Stmt} : SS C k sc .stuck ps := fun _ _ _ _ _ _ _ _ _ _ _ _ _ w => False.elim w
theorem ss_ex {e : E} {pe : Expr} {p : Pos} (hc : isCompE pe = false) (he : SE C k sc e pe) : SS C k sc (.ex e) (.Expr pe p) :=
  fun env A s γ ρ st Q X hs hr ht I F w =>
    wpAny_Expr_any (he.stm hs hr I F w fun mv s₁ v st₁ ρ₁ w₁ r₁ I₁ F₁ S₁ => ⟨_, st₁, ρ₁, w₁, .next, I₁, F₁, S₁.w⟩) (by rw [interactive, F.kind]; rfl) (swaps_plain hc)
theorem ss_ret {e : E} {pe : Expr} {p : Pos} (he : SE C k sc e pe) : SS C k sc (.ret e) (.Return (some pe) p) :=
  fun env A s γ ρ st Q X hs hr ht I F w => wpAny_Return_some (he.stm hs hr I F w fun mv s₁ v st₁ ρ₁ w₁ r₁ I₁ F₁ S₁ => ⟨_, st₁, ρ₁, w₁, .ret r₁, I₁, F₁, S₁.w⟩)
theorem ss_cont {p : Pos} : SS C k sc .cont (.Continue p) := fun env A s γ ρ st Q X hs hr ht I F w => wpAny_Continue ⟨_, st, ρ, w, .cont, I, F, .refl⟩
theorem ss_pass {p : Pos} : SS C k sc .pass (.Pass p) := fun env A s γ ρ st Q X hs hr ht I F w => wpAny_Pass ⟨_, st, ρ, w, .next, I, F, .refl⟩
theorem ss_ite {c : E} {t f : Ss} {pc : Expr} {pt pf : List Stmt} {p : Pos} (hc : ST C k sc c pc) (hT : SSs C k sc t pt) (hf : SSs C k sc f pf) : SS C k sc (.ite c t f) (.If pc pt pf p) :=
  fun env A s γ ρ st Q X hs hr ht I F w => wpAny_If (hc.stm hs hr I F w fun b s₁ st₁ ρ₁ w₁ I₁ F₁ S₁ => by
    rcases w₁ with ⟨rfl, w₁⟩ | ⟨rfl, w₁⟩
    · exact hT.at hs hr ht I₁ F₁ S₁.w w₁
    · exact hf.at hs hr ht I₁ F₁ S₁.w w₁)
theorem sss_nil : SSs C k sc .nil [] := fun env A s γ ρ st Q X hs hr ht I F w => wpAny_execs_nil ⟨_, st, ρ, w, .next, I, F, .refl⟩
theorem sss_cons {x : S} {ss : Ss} {ps : Stmt} {pss : List Stmt} (hx : SS C k sc x ps) (hss : SSs C k sc ss pss) : SSs C k sc (.cons x ss) (ps :: pss) := by
  intro env A s γ ρ st Q X hs hr ht I F w
  refine wpAny_execs_cons (wpAny_mono (hx env A s γ ρ st _ X hs hr ht I F w) (fun fl s' p => ?_) fun _ _ p => p)
  obtain ⟨f, st', ρ', h1, h2, h3, h4, h5⟩ := p
  rcases h1 with ⟨rfl, h1⟩ | ⟨ne, h1⟩
  · cases h2; exact hss.at hs hr ht h3 h4 h5 h1
  · cases h2 with
    | next => exact absurd rfl ne
    | brk => exact ⟨_, st', ρ', h1, .brk, h3, h4, h5⟩
    | cont => exact ⟨_, st', ρ', h1, .cont, h3, h4, h5⟩
    | ret r => exact ⟨_, st', ρ', h1, .ret r, h3, h4, h5⟩
end
end
end Mine
set_option autoImplicit false
set_option genInjectivity false
set_option genSizeOf false
namespace Mine
noncomputable section
open PySem PyProof.Rows

section
variable {C : Cx} {k : Nat} {sc : Scope} {γ γ' : Gh} {env : Env} {A : Around} {ρ₁ : List Addr} {st₁ : St} {s₁ : Shared} {ρ ρ' : List Addr} {st st' : St} {s s' : Shared} {Q : Flow → St → Prop} {X : String → St → Prop}

theorem Fra.re (F : Fra γ' env st ρ s) (F₁ : Fra γ env st₁ ρ₁ s₁) (K : Kept s.heap ρ (Nl γ' ρ st.H) s'.heap ρ' (Nl γ ρ' st'.H)) (e : st'.s = st.s)
    (kL : ∀ b o, γ.h b → s.heap.get? b = some o → ∃ o', s'.heap.get? b = some o' ∧ Alike o o') (lv : ∀ b, γ.h b → ¬ Lv ρ' st'.H b) : Fra γ env st' ρ' s' := by
  obtain ⟨m, hm, hv⟩ := F.ns
  refine ⟨F.kind, F.glob, F.blt, lv _ F₁.own, F₁.own, ⟨m, Heap_Ns_alike hm fun o ho => kL _ o F₁.own ho, fun x v k kz q => ?_⟩, fun x hk => ?_, F.apart, F₁.nb, F₁.nbc⟩
  · obtain ⟨mv, e1, e2⟩ := hv x v k kz (e ▸ q)
    exact ⟨mv, e1, e2.kept K⟩
  · obtain ⟨c, ov, h1, h2, ⟨oc, hoc, hdc⟩, h4⟩ := F.cell x hk
    obtain ⟨c', ov', h1', h2', _⟩ := F₁.cell x hk
    rw [h1] at h1'; cases h1'
    obtain ⟨o', ho', al⟩ := kL c oc h2'.2 hoc
    refine ⟨c, ov, h1, ⟨lv _ h2'.2, h2'.2⟩, ⟨oc, by rw [ho', al.same fun es n q => by rw [hdc] at q; cases q], hdc⟩, fun y hy v q => ?_⟩
    obtain ⟨mv, e1, e2⟩ := h4 y hy v (e ▸ q)
    exact ⟨mv, e1, e2.kept K⟩

theorem Fra.more (F : Fra γ env st ρ s) (I : Inv C γ ρ st.H s) (sub : ∀ b, γ.h b → γ'.h b) (hs : ∀ b, γ'.h b → γ.h b ∨ s.heap.get? b = none) (hb : ∀ b, γ'.b b → γ.b b) : Fra γ' env st ρ s :=
  F.holds I (Grew.refl s) sub hs hb

/-- the list of a comprehension as a value, while its frame still stands -/
theorem comp_mid {D Cl : Addr} {acc : List V} {Qv : V → St → Prop} (I₁ : Inv C γ ρ₁ st₁.H s₁) (F₁ : Fra γ env st₁ ρ₁ s₁) (dD : s₁.heap.get? D = none) (dC : s₁.heap.get? Cl = none) (nDC : D ≠ Cl) (gD : ¬ γ.h D)
    (J : CompSt C (G2 γ D Cl) env ρ₁ st₁ s₁ D Cl acc ρ st s) (hl : acc.length ≤ maxLen) (w : newL acc st Qv) :
    ∃ v st' ρ', Qv v st' ∧ Rel s.heap ρ' (Nl (Also γ Cl) ρ' st'.H) v (.ref D) ∧ Inv C (Also γ Cl) ρ' st'.H s ∧ Fra (Also γ Cl) env st' ρ' s ∧ Stp ρ₁ st₁.H s₁ ρ' st'.H s := by
  obtain ⟨ms, hpl, hrl⟩ := J.acc
  have sub : ∀ b, (Also γ Cl).h b → (G2 γ D Cl).h b := fun b q => q.imp id .inr
  have nD : ¬ (Also γ Cl).h D := fun q => q.elim gD nDC
  have F₁' : Fra (Also γ Cl) env st₁ ρ₁ s₁ := F₁.more I₁ (fun _ => .inl) (fun b q => q.imp id fun e => by rw [e]; exact dC) fun _ q => q
  have nl : ¬ Nl (Also γ Cl) ρ st.H D := fun q => q.elim (J.inv.ghost_nl (.inr (.inl rfl))) nD
  rcases w with w | w
  · have K := kept_less (s := s) (ρ := ρ) (H := st.H) sub
    exact ⟨_, st, ρ, w, .lst hpl nl hl (hrl.kept K), J.inv.drop sub (fun _ q => q) (fun _ q => q) (fun _ => Iff.rfl), J.fra.re F₁' K rfl (fun b o _ e => ⟨o, e, .refl o⟩) fun b q => J.inv.ghost_nl (sub b q), J.stp⟩
  · have I' : Inv C (Also γ Cl) (ρ ++ [D]) (st.H ++ [.list acc]) s := J.inv.adopt (.inr (.inl rfl)) sub (fun _ q => q) (fun _ q => q) (fun _ => Iff.rfl) nD (fun q => gD (γ.bh _ q)) rfl fun kp => ⟨ms, hpl, hrl.kept kp, hl⟩
    have K : Kept s.heap ρ (Nl (G2 γ D Cl) ρ st.H) s.heap (ρ ++ [D]) (Nl (Also γ Cl) (ρ ++ [D]) (st.H ++ [.list acc])) :=
      ⟨fun _ x e _ => ⟨x, e, .refl x⟩, fun b q => by
        rcases q with q | q
        · rcases (Lv_snoc J.inv.len rfl).mp q with q | q
          · exact .inl (.inl q)
          · exact .inl (.inr (.inr (.inl q)))
        · exact .inl (.inr (sub b q)), fun i b e => by rw [List.getElem?_append_left (List.getElem?_eq_some_iff.mp e).1]; exact e⟩
    refine ⟨_, { st with H := st.H ++ [.list acc] }, ρ ++ [D], w, .loc (by rw [← J.inv.len]; simp), I', J.fra.re F₁' K rfl (fun b o _ e => ⟨o, e, .refl o⟩) fun b q => I'.ghost_nl q, ⟨⟨J.stp.kep.keep, fun b q => ?_, fun i b e => ?_⟩⟩⟩
    · rcases (Lv_snoc J.inv.len rfl).mp q with q | q
      · exact J.stp.kep.live b q
      · exact .inr (q ▸ dD)
    · have := J.stp.kep.pre i b e
      rw [List.getElem?_append_left (List.getElem?_eq_some_iff.mp this).1]; exact this

/-- `y = [ … ]`, the way that keeps the comprehension's frame until the name is written -/
theorem asg_compG {it : E} {pelt pit : Expr} {x y : String} {px py pos spos : Pos} {ifs : List Expr} {cs : Scope} {f : V → St → (List V → St → Prop) → Prop}
    (hi : SE C k env.scope it pit) (hco : compOk cs env.scope x = true) (hset : isSetE pit = false) (T : Turn C A γ cs env x ifs pelt f) (hr : Room k A γ) (I : Inv C γ ρ st.H s) (F : Fra γ env st ρ s)
    (hsw : swapsWith (.ListComp pelt [⟨.Name (x : Str) px, pit, ifs, 0⟩] cs pos) (some (.Name (y : Str) py)) spos.line env = pure true) (hy : kd env.scope y = some .local ∨ kd env.scope y = some .cell)
    (w : wE (Calls C k) C.glo it st (fun vi st => ∃ items, Items vi items ∧ compL f items [] st fun out st => newL out st fun v st => Q .next (st.set y v)) X) :
    wpAny C.M A (exec (.Assign [.Name (y : Str) py] (.ListComp pelt [⟨.Name (x : Str) px, pit, ifs, 0⟩] cs pos) spos) env) (PostF C γ env ρ st s Q) (PostFX C γ env ρ st s X) s := by
  have hnm := compOk_names hco
  rw [exec_Assign_Name_used _ _ _ _ hsw]
  refine wpAny_bind (wpAny_standAt (wpAny_bind ?_))
  show wpAny _ A (do let _ ← comprehension (.ListComp pelt [⟨.Name (x : Str) px, pit, ifs, 0⟩] cs pos) cs env _ (newList []) false (eval pit env) (some (assign (.Name (y : Str) py) env))) _ _ s
  refine wpAny_bind (wpAny_mono (wpAny_comprehension_free (use := some (assign (.Name (y : Str) py) env)) (Q := fun _ s' => PostF C γ env ρ st s Q .next s') rfl (fun v => isSetE_fold hset v) (hnm.closure F) hnm.kind (fun p hp h => hnm.loc p hp h)
    (hi.stm rfl hr I F w fun mi s₁ vi st₁ ρ₁ w₁ r₁ I₁ F₁ S₁ => ?_)) (fun _ s' hq => wpAny_pure (wpAny_pure hq)) fun _ _ e => e)
  obtain ⟨items, e, w₁⟩ := w₁
  refine comp_block (RR := fun acc C' => compPost C.M A (PostFX C γ env ρ st s X) (some (assign (.Name (y : Str) py) env)) (fun _ s' => PostF C γ env ρ st s Q .next s') acc C') hnm T hr I₁ F₁ (prim_iter hr I₁ r₁ e) w₁ ?_
  intro D Cl acc ρ' st' s' dD dC nDC gD gC J hl w'
  obtain ⟨v, st2, ρ2, hq, hrel, I2, F2, S2⟩ := comp_mid I₁ F₁ dD dC nDC gD J hl w'
  obtain ⟨m, hm⟩ := J.ns
  show wpAny _ A (assign (.Name (y : Str) py) env (.ref D)) _ _ _
  refine wpAny_assign_Name (wpAny_mono (prim_store hy I2 F2 hrel) (fun _ s3 p => ?_) fun _ _ e => e)
  obtain ⟨I3, F3, S3⟩ := p
  have nO : ¬ Own env Cl := fun q => gC (F₁.own_ghost q)
  refine ⟨m, Heap_Ns_alike hm fun o e => S3.keep _ o e (I2.ghost_nl (.inr rfl)) nO, fun h' hs => ?_⟩
  have k1 : ∀ b o, b ≠ Cl → s3.heap.get? b = some o → h'.get? b = some o := fun b o hb e => hs.extBut b o hb e
  refine ⟨.next, st2.set y v, ρ2, hq, .next, I3.lose (.inr rfl) (fun q => gC (γ.bh _ q)) (fun _ => Iff.rfl) (fun _ => .inl) (fun _ q => q) (fun _ q => q) gC k1 rfl rfl, F3.lose F₁ (.inr rfl) (fun _ => .inl) gC k1, ?_⟩
  have S13 : StpW (Own env) ρ₁ st₁.H s₁ ρ2 (st2.set y v).H s3 := (Stp.w S2).trans S3
  exact (Stp.w S₁).trans (S13.touch (.inr dC) k1)

theorem asg_plain {x : String} {e : E} {pe : Expr} {py spos : Pos} (hk : isLoc env.scope x = true) (hc : swapsWith pe (some (.Name (x : Str) py)) spos.line env = pure false) (he : SE C k env.scope e pe) (hr : Room k A γ) (I : Inv C γ ρ st.H s) (F : Fra γ env st ρ s) (w : wS (Calls C k) C.glo (.asg x e) st Q X) :
    wpAny C.M A (exec (.Assign [.Name (x : Str) py] pe spos) env) (PostF C γ env ρ st s Q) (PostFX C γ env ρ st s X) s := by
  have hk : kd env.scope x = some .local ∨ kd env.scope x = some .cell := (Bool.or_eq_true_iff.mp hk).imp beq_iff_eq.mp beq_iff_eq.mp
  exact wpAny_Assign_Name (he.stm rfl hr I F w fun mv s₁ v st₁ ρ₁ w₁ r₁ I₁ F₁ S₁ => wpAny_mono (prim_store hk I₁ F₁ r₁) (fun _ s₂ p => ⟨.next, _, ρ₁, w₁, .next, p.1, p.2.1, S₁.w.trans p.2.2⟩) fun _ _ x => x) hc
theorem ss_asg {x : String} {e : E} {pe : Expr} {py spos : Pos} (hk : isLoc sc x = true) (hc : isCompE pe = false) (he : SE C k sc e pe) : SS C k sc (.asg x e) (.Assign [.Name (x : Str) py] pe spos) := by
  rintro env A s γ ρ st Q X rfl hr ht I F w
  exact asg_plain hk (swaps_plain hc) he hr I F w
theorem swaps_comp {pelt : Expr} {y : String} {gs : List Comprehension} {py pos : Pos} {cs : Scope} {l : Nat} : ∃ b, swapsWith (.ListComp pelt gs cs pos) (some (.Name (y : Str) py)) l env = pure b := ⟨_, rfl⟩
theorem asg_comp {y x : String} {e it : E} {pelt pit : Expr} {px py pos spos : Pos} {ifs : List Expr} {cs : Scope} {f : V → St → (List V → St → Prop) → Prop} (hy : isLoc env.scope y = true) (hco : compOk cs env.scope x = true) (hset : isSetE pit = false) (hi : SE C k env.scope it pit) (T : Turn C A γ cs env x ifs pelt f) (he : SE C k env.scope e (.ListComp pelt [⟨.Name (x : Str) px, pit, ifs, 0⟩] cs pos)) (hr : Room k A γ) (I : Inv C γ ρ st.H s) (F : Fra γ env st ρ s)
    (w : wE (Calls C k) C.glo it st (fun vi st => ∃ items, Items vi items ∧ compL f items [] st fun out st => newL out st fun v st => Q .next (st.set y v)) X) (w' : wS (Calls C k) C.glo (.asg y e) st Q X) :
    wpAny C.M A (exec (.Assign [.Name (y : Str) py] (.ListComp pelt [⟨.Name (x : Str) px, pit, ifs, 0⟩] cs pos) spos) env) (PostF C γ env ρ st s Q) (PostFX C γ env ρ st s X) s := by
  obtain ⟨b, hb⟩ := swaps_comp (env := env) (pelt := pelt) (y := y) (gs := [⟨.Name (x : Str) px, pit, ifs, 0⟩]) (py := py) (pos := pos) (cs := cs) (l := spos.line)
  cases b with
  | false => exact asg_plain hy hb he hr I F w'
  | true => exact asg_compG hi hco hset T hr I F hb ((Bool.or_eq_true_iff.mp hy).imp beq_iff_eq.mp beq_iff_eq.mp) w
theorem ss_asg_comp {y x : String} {elt it : E} {pelt pit : Expr} {px py pos spos : Pos} {cs : Scope} (hy : isLoc sc y = true) (hco : compOk cs sc x = true) (hset : isSetE pit = false) (he : SE C k (relab cs sc) elt pelt) (hi : SE C k sc it pit) :
    SS C k sc (.asg y (.comp elt x it)) (.Assign [.Name (y : Str) py] (.ListComp pelt [⟨.Name (x : Str) px, pit, [], 0⟩] cs pos) spos) := by
  rintro env A s γ ρ st Q X rfl hr ht I F w
  exact asg_comp hy hco hset hi (turn_comp he hr) (se_comp hco hset he hi) hr I F w w
theorem ss_asg_compIf {y x : String} {elt it c : E} {pelt pit pc : Expr} {px py pos spos : Pos} {cs : Scope} (hy : isLoc sc y = true) (hco : compOk cs sc x = true) (hset : isSetE pit = false) (he : SE C k (relab cs sc) elt pelt) (hi : SE C k sc it pit) (hc : ST C k (relab cs sc) c pc) :
    SS C k sc (.asg y (.compIf elt x it c)) (.Assign [.Name (y : Str) py] (.ListComp pelt [⟨.Name (x : Str) px, pit, [pc], 0⟩] cs pos) spos) := by
  rintro env A s γ ρ st Q X rfl hr ht I F w
  exact asg_comp hy hco hset hi (turn_compIf he hc hr) (se_compIf hco hset he hi hc) hr I F w w
end
end
end Mine
set_option autoImplicit false
set_option genInjectivity false
set_option genSizeOf false
namespace Mine
noncomputable section
open PySem PyProof.Rows

theorem mapSeq_plain (its : Array Value) (n : Nat) (j : Nat) (v : Value) : ∃ n', Obj.mapSeq (·.setIfInBounds j v) { cls := .type "list", data := .seq its n } = { cls := .type "list", data := .seq (its.setIfInBounds j v) n' } := by
  simp only [Obj.mapSeq]
  exact ⟨_, rfl⟩

section
variable {prog : Program} {w : World} {A : Around} {E : Value → Shared → Prop} {s : Shared}
theorem setItem_plain {l : Addr} {items : Array Value} {k : Int} {t : Tok} {v : Value} {Q : Unit → Shared → Prop} (hl : s.heap.PlainList l items)
    (h0 : 0 ≤ k) (hfit : k < 2 ^ 63) (hn : k < items.size)
    (hQ : ∀ h', h'.PlainList l (items.setIfInBounds k.toNat v) → Heap.SameBut l s.heap h' → Q () { s with heap := h' }) :
    wpAny (model prog w) A (setItem (.ref l) (.int k t) v) Q E s := by
  have hl' := hl.isList
  obtain ⟨n, ho⟩ := hl
  unfold setItem
  try with_reducible refine wpAny_holding ?_
  first | refine wpAny_bind (wpAny_pure ?_) | skip
  refine wpAny_bind (wpAny_sequenceKey hl'.typeIs (by decide) ?_)
  refine wpAny_bind (wpAny_callSpecial?_slot (name := Str.ofString "__setitem__") hl'.typeIs slot_list_setitem
    (wpAny_call_entry slot_list_setitem hl'.typeIs entry_list_setitem ?_ (args_list_setitem _ _ _)))
  show wpAny _ _ (Builtin.List.listSubscript? (.int k t) >>= _) _ _ s
  refine wpAny_bind (wpAny_listSubscript_int (fitsIndex_of h0 hfit) ?_)
  clear hfit
  obtain ⟨j, rfl⟩ := Int.eq_ofNat_of_zero_le h0
  have hj : j < items.size := by omega
  have hx' : items[j]? = some items[j] := Array.getElem?_eq_getElem hj
  show wpAny _ _ ((seqItemAt l j >>= fun r => pure (r.map (j, ·))) >>= _) _ _ s
  refine wpAny_bind (wpAny_bind (wpAny_seqItemAt ho rfl (wpAny_pure ?_)))
  rw [hx']
  show wpAny _ _ (setSeqItemAt l j v >>= _) _ _ s
  obtain ⟨n', hn'⟩ := mapSeq_plain items n j v
  have hfin : (s.heap.update l (Obj.mapSeq (·.setIfInBounds j v))).PlainList l (items.setIfInBounds j v) :=
    ⟨n', by rw [Heap.get?_update_self _ ho (by rw [hn']; rfl), hn']⟩
  refine wpAny_bind (wpAny_setSeqItemAt ho rfl ?_)
  first
    | exact wpAny_bind (wpAny_pure (wpAny_pure ⟨.none, rfl, wpAny_pure (hQ _ hfin (Heap.SameBut.update ..))⟩))
    | exact wpAny_pure ⟨.none, rfl, wpAny_pure (hQ _ hfin (Heap.SameBut.update ..))⟩
end

theorem RelL.set {h : Heap} {ρ : List Addr} {N : Addr → Prop} : ∀ {vs : List V} {ms : List Value}, RelL h ρ N vs ms → ∀ (j : Nat) {v : V} {m : Value}, Rel h ρ N v m → RelL h ρ N (vs.set j v) (ms.set j m)
  | _, _, .nil, _, _, _, _ => .nil
  | _, _, .cons _ q, 0, _, _, r => .cons r q
  | _, _, .cons a q, j + 1, _, _, r => .cons a (RelL.set q j r)

section
variable {C : Cx} {k : Nat} {sc : Scope} {γ γ' : Gh} {env : Env} {A : Around} {ρ₁ : List Addr} {st₁ : St} {s₁ : Shared} {ρ ρ' : List Addr} {st st' : St} {s s' : Shared} {Q : Flow → St → Prop} {X : String → St → Prop} {i : Nat} {a : Addr} {vs : List V}

theorem set_nil {H : List HO} {i : Nat} {o : HO} (h : H.set i o = []) : H = [] := by cases H with
  | nil => rfl
  | cons _ _ => cases i <;> cases h
/-- a list is lent to a loop -/
theorem Inv.lend (J : Inv C γ ρ st.H s) (ha : ρ[i]? = some a) (hH : st.H[i]? = some (.list vs)) : Inv C (Lend γ a) ρ (st.H.set i .dead) s := by
  have kp : Kept s.heap ρ (Nl γ ρ st.H) s.heap ρ (Nl (Lend γ a) ρ (st.H.set i .dead)) := ⟨fun _ o e _ => ⟨o, e, .refl o⟩, fun b q => .inl ((lend_N J ha hH b).mp q), fun _ _ e => e⟩
  refine ⟨J.base, by rw [List.length_set]; exact J.len, J.nodup, J.fresh, J.there, fun j b o h1 h2 => ?_, fun b hb q => q.imp (J.apart b hb) id, fun j b o h1 q h2 => ?_, fun b q => ?_, fun b q => ?_, J.frm, fun b q => ?_, (fun z => J.hq (set_nil z)), J.gens, J.os⟩
  · rcases set_cases h2 with ⟨_, rfl, _⟩ | ⟨_, h2⟩
    · trivial
    · exact (J.obj j b o h1 h2).kept kp fun _ q => q
  · rcases set_cases h2 with ⟨_, rfl, _⟩ | ⟨ne, h2⟩
    · rfl
    · rcases q with q | q
      · exact J.bor j b o h1 q h2
      · exact absurd (nodup_idx J.nodup ha (q ▸ h1)) ne
  · rcases q with q | q
    · exact J.held b q
    · exact q ▸ J.there a (List.mem_of_getElem? ha)
  · rcases q with q | q
    · exact J.off b q
    · exact q ▸ J.fresh a (List.mem_of_getElem? ha)
  · obtain ⟨x, l, nh⟩ := J.hdl b q
    exact ⟨x, fun z => l (lend_lv J ha b z).1, fun z => z.elim nh fun z => l (z ▸ ⟨i, _, ha, hH, rfl⟩)⟩
theorem Fra.lend (F : Fra γ env st ρ s) (J : Inv C γ ρ st.H s) (ha : ρ[i]? = some a) (hH : st.H[i]? = some (.list vs)) : Fra (Lend γ a) env ⟨st.s, st.H.set i .dead⟩ ρ s := by
  have na : ¬ γ.h a := J.live_nh ⟨i, _, ha, hH, rfl⟩
  have kp : Kept s.heap ρ (Nl γ ρ st.H) s.heap ρ (Nl (Also γ a) ρ (st.H.set i .dead)) := ⟨fun _ o e _ => ⟨o, e, .refl o⟩, fun b q => .inl ((lend_N J ha hH b).mp q), fun _ _ e => e⟩
  have X : Fra (Also γ a) env ⟨st.s, st.H.set i .dead⟩ ρ s := F.kept kp rfl (fun _ => .inl) (fun _ o _ e => ⟨o, e, .refl o⟩) (fun b q z => J.ghost_nl q (lend_lv J ha b z).1) fun _ q => q
  exact ⟨X.kind, X.glob, X.blt, X.nl, X.own, X.ns, X.cell, X.apart, fun q => q.elim F.nb fun q => na (q ▸ F.own), fun n c h => ⟨.inl (F.nbc n c h).1, fun q => q.elim (F.nbc n c h).2 fun q => na (q ▸ (F.nbc n c h).1)⟩⟩
/-- the list is given back -/
theorem back_lv {H : List HO} (ha : ρ[i]? = some a) (hH : H[i]? = some .dead) (b : Addr) : Lv ρ (H.set i (.list vs)) b ↔ Lv ρ H b ∨ b = a := by
  constructor
  · rintro ⟨j, o, h1, h2, h3⟩
    rcases set_cases h2 with ⟨rfl, _, _⟩ | ⟨_, h2⟩
    · exact .inr (Option.some.inj (h1.symm.trans ha))
    · exact .inl ⟨j, o, h1, h2, h3⟩
  · rintro (⟨j, o, h1, h2, h3⟩ | rfl)
    · refine ⟨j, o, h1, ?_, h3⟩
      rw [List.getElem?_set, if_neg fun e => ?_]
      · exact h2
      · subst e; rw [hH] at h2; cases h2; cases h3
    · refine ⟨i, .list vs, ha, ?_, rfl⟩
      rw [List.getElem?_set, if_pos rfl, if_pos (List.getElem?_eq_some_iff.mp hH).1]
theorem back_kept {H : List HO} (ha : ρ[i]? = some a) (hH : H[i]? = some .dead) : Kept s.heap ρ (Nl (Lend γ a) ρ H) s.heap ρ (Nl γ ρ (H.set i (.list vs))) :=
  ⟨fun _ o e _ => ⟨o, e, .refl o⟩, fun b q => .inl (by
    rcases q with q | q
    · exact ((back_lv ha hH b).mp q).imp id .inr
    · exact .inr (.inl q)), fun _ _ e => e⟩
theorem Inv.unlend {H : List HO} (J : Inv C (Lend γ a) ρ H s) (na : ¬ γ.h a) (ha : ρ[i]? = some a) (hH : H[i]? = some .dead) (r : ORel C s.heap ρ (Nl (Lend γ a) ρ H) (.list vs) a) : Inv C γ ρ (H.set i (.list vs)) s := by
  refine ⟨J.base, by rw [List.length_set]; exact J.len, J.nodup, J.fresh, J.there, fun j b o h1 h2 => ?_, fun b hb q => ?_, fun j b o h1 q h2 => ?_, fun b q => J.held b (.inl q), fun b q => J.off b (.inl q), J.frm, fun b q => ?_, (fun z => J.hq (set_nil z)), J.gens, J.os⟩
  · rcases set_cases h2 with ⟨rfl, rfl, _⟩ | ⟨_, h2⟩
    · rw [ha] at h1; cases h1
      exact r.kept (back_kept ha hH) fun _ q => q
    · exact (J.obj j b o h1 h2).kept (back_kept ha hH) fun _ q => q
  · exact (J.apart b hb (.inl q)).elim id fun e => absurd (e ▸ q) na
  · rcases set_cases h2 with ⟨rfl, _, _⟩ | ⟨_, h2⟩
    · rw [ha] at h1; cases h1; exact absurd (γ.bh _ q) na
    · exact J.bor j b o h1 (.inl q) h2
  · obtain ⟨x, l, nh⟩ := J.hdl b q
    exact ⟨x, fun z => ((back_lv ha hH b).mp z).elim l fun e => nh (.inr e), fun z => nh (.inl z)⟩

theorem FlowRel.kept {h h' : Heap} {ρ ρ' : List Addr} {N N' : Addr → Prop} (K : Kept h ρ N h' ρ' N') {f : Flow} {fl : PySem.Flow} (r : FlowRel h ρ N f fl) : FlowRel h' ρ' N' f fl := by
  cases r with
  | next => exact .next
  | brk => exact .brk
  | cont => exact .cont
  | ret r => exact .ret (r.kept K)

/-- what a loop leaves that walked over a list lent to it -/
theorem PostF.unlend {fl : PySem.Flow} (J : Inv C γ ρ st.H s) (F : Fra γ env st ρ s) (ha : ρ[i]? = some a) (hH : st.H[i]? = some (.list vs))
    (p : PostF C (Lend γ a) env ρ ⟨st.s, st.H.set i .dead⟩ s (fun f st' => st'.H[i]? = some .dead ∧ Q f ⟨st'.s, st'.H.set i (.list vs)⟩) fl s') : PostF C γ env ρ st s Q fl s' := by
  obtain ⟨f, st', ρ', ⟨h0, h1⟩, h2, h3, h4, h5⟩ := p
  have na : ¬ γ.h a := J.live_nh ⟨i, _, ha, hH, rfl⟩
  have ha' := h5.pre i a ha
  have lv₀ : ¬ Lv ρ (st.H.set i .dead) a := fun q => (lend_lv J ha a q).2 rfl
  have nO : ¬ Own env a := fun q => na (F.own_ghost q)
  obtain ⟨ms, ⟨n, hx⟩, hr, hl⟩ := J.obj i a _ ha hH
  have K5 : Kept s.heap ρ (Nl γ ρ st.H) s'.heap ρ' (Nl (Lend γ a) ρ' st'.H) :=
    ⟨fun b o e n => h5.keep b o e (fun q => n (.inl (lend_lv J ha b q).1)) fun q => n (.inr (F.own_ghost q)), fun b q => by
      rcases q with q | q | q
      · by_cases ho : Own env b
        · exact .inl (.inr (F.own_ghost ho))
        · exact (h5.live b ho q).imp (fun z => .inl (lend_lv J ha b z).1) id
      · exact .inl (.inr q)
      · exact .inl (.inl (q ▸ ⟨i, _, ha, hH, rfl⟩)), h5.pre⟩
  have r : ORel C s'.heap ρ' (Nl (Lend γ a) ρ' st'.H) (.list vs) a := ⟨ms, ⟨n, h5.same hx lv₀ nO fun es m q => by cases q⟩, hr.kept K5, hl⟩
  have I' := h3.unlend na ha' h0 r
  have K := back_kept (γ := γ) (vs := vs) (s := s') ha' h0
  refine ⟨f, ⟨st'.s, st'.H.set i (.list vs)⟩, ρ', h1, h2.kept K, I', h4.re F K rfl (fun b o _ e => ⟨o, e, .refl o⟩) (fun b q => I'.ghost_nl q), ⟨fun b o e n nw => h5.keep b o e (fun q => n (lend_lv J ha b q).1) nw, fun b nw q => ?_, h5.pre⟩⟩
  rcases (back_lv ha' h0 b).mp q with q | q
  · exact (h5.live b nw q).imp (fun z => (lend_lv J ha b z).1) id
  · exact .inl (q ▸ ⟨i, _, ha, hH, rfl⟩)
theorem PostFX.none {ev : Value} {s'' : Shared} {P : Prop} (p : PostFX C γ env ρ st s noX ev s'') : P := by
  obtain ⟨_, _, _, h, _⟩ := p; exact h.elim

theorem ss_asgSub {o i e : E} {po pi pe : Expr} {py p : Pos} (hc : isCompE pe = false) (ho : SE C k sc o po) (hi : SE C k sc i pi) (he : SE C k sc e pe) : SS C k sc (.asgSub o i e) (.Assign [.Subscript po pi py] pe p) := by
  intro env A s γ ρ st Q X hs hr ht I F w
  refine wpAny_Assign_Subscript (he.stm hs hr I F w fun mv s₁ v st₁ ρ₁ w₁ r₁ I₁ F₁ S₁ => ho.stmW hs hr S₁.w I₁ F₁ w₁ fun mo s₂ vo st₂ ρ₂ w₂ r₂ I₂ F₂ S₂ =>
    hi.stmW hs hr (S₁.trans S₂).w I₂ F₂ w₂ fun mi s₃ vi st₃ ρ₃ w₃ r₃ I₃ F₃ S₃ => ?_) (swaps_plain hc)
  obtain ⟨j, kk, xs, ⟨rfl, rfl⟩, hxs, h0, hlt, hQ⟩ := w₃
  obtain ⟨x, rfl, ha⟩ := (r₂.kept S₃.kept).loc_inv
  obtain ⟨t, rfl⟩ := r₃.int_inv
  obtain ⟨ms, hpl, hrl, hlen⟩ := I₃.obj j _ _ ha hxs
  have hn : kk < ((ms.toArray.size : Nat) : Int) := by rw [List.size_toArray, ← hrl.length]; exact (Int.toNat_lt h0).mp hlt
  have hsz : ms.toArray.size ≤ 2 ^ 62 := by rw [List.size_toArray, ← hrl.length]; exact Nat.le_trans hlen (by unfold maxLen; decide)
  refine setItem_plain hpl h0 (by clear hlt hxs; omega) hn fun h' hp' sb => ?_
  have rv := (r₁.kept S₂.kept).kept S₃.kept
  obtain ⟨I', S'⟩ := I₃.upd (s' := { s₃ with heap := h' }) (o' := .list (xs.set kk.toNat v)) ha hxs rfl rfl sb.2 (IsList_there hp') rfl rfl fun kp =>
    ⟨ms.set kk.toNat mv, by simpa using hp', (hrl.kept kp).set _ (rv.kept kp), by rw [List.length_set]; exact hlen⟩
  exact ⟨.next, _, ρ₃, hQ, .next, I', F₃.step S' rfl, (((S₁.trans S₂).trans S₃).trans S').w⟩

/-- a loop over items, from where its iterator is made -/
theorem for_block {x : String} {b : Ss} {pb : List Stmt} {py : Pos} {items : List V} {R : Result → Shared → Prop} (hb : SSs C k sc b pb) (hs : env.scope = sc) (hk : kd env.scope x = some .local ∨ kd env.scope x = some .cell) (hr : Room k A γ) (ht : Top A env) (I₁ : Inv C γ ρ₁ st₁.H s₁) (F₁ : Fra γ env st₁ ρ₁ s₁)
    {itv : Value} {s₂ : Shared} (h : Iterates C A (Off γ ρ₁ st₁.H) (Nl γ ρ₁ st₁.H) ρ₁ s₁ items itv s₂) (w₁ : forL (fun v st Q => wSs (Calls C k) C.glo b (st.set x v) Q noX) items st₁ Q)
    (hR : ∀ f s', PostF C γ env ρ₁ st₁ s₁ Q f s' → R (.ok f) s') : codeAny C.M A (.forLoop (.Name (x : Str) py) itv pb [] env) R s₂ := by
  obtain ⟨J, fp, P, St', rfl, dJ, g, hst, itr⟩ := h
  have W := itr.walks
  have gJ : ¬ γ.h J := I₁.ghost_new dJ
  have nO : ¬ Own env J := fun q => gJ (F₁.own_ghost q)
  have stk : ∀ {i : Nat} {ρ ρ' : List Addr} {st st' : St} {s s' : Shared}, Inv C (Also γ J) ρ st.H s → StpW (Own env) ρ₁ st₁.H s₁ ρ st.H s → StpW (Own env) ρ st.H s ρ' st'.H s' → St' i s.heap → St' i s'.heap := fun {i ρ ρ' st st' s s'} I S S' q => by
    refine W.frame _ _ _ q fun y hy o e => ?_
    rcases itr.fp y hy with rfl | ⟨hn, o₁, h1, h2⟩
    · obtain ⟨o', e', hd⟩ := itr.has _ _ q
      rw [e] at e'; cases e'
      exact S'.same e (I.ghost_nl (.inr rfl)) nO hd
    · have hl : ¬ Lv ρ₁ st₁.H y := fun z => hn (.inl z)
      have no : ¬ Own env y := fun z => hn (.inr ⟨F₁.own_ghost z, F₁.own_nb z⟩)
      have e1 := S.same h1 hl no h2
      rw [e] at e1; cases e1
      exact S'.same e (S.notLive h1 hl no) no h2
  have keptf : ∀ {ρ : List Addr} {st : St} {s : Shared}, StpW (Own env) ρ₁ st₁.H s₁ ρ st.H s → Inv C (Also γ J) ρ st.H s → Kept s₁.heap ρ₁ (Nl γ ρ₁ st₁.H) s.heap ρ (Nl (Also γ J) ρ st.H) := fun S I =>
    ⟨fun a o e n => S.keep a o e (fun q => n (.inl q)) fun q => n (.inr (F₁.own_ghost q)), fun a q => by
      rcases q with q | q | q
      · by_cases ho : Own env a
        · exact .inl (.inr (F₁.own_ghost ho))
        · exact (S.live a ho q).imp .inl id
      · exact .inl (.inr q)
      · exact .inr (q ▸ dJ), S.pre⟩
  have eJ : ∃ o, s₂.heap.get? J = some o := let ⟨o, e, _⟩ := itr.has _ _ hst; ⟨o, e⟩
  have I2 : Inv C (Also γ J) ρ₁ st₁.H s₂ := I₁.hold g dJ eJ
  have F2 : Fra (Also γ J) env st₁ ρ₁ s₂ := F₁.hold I₁ g dJ
  refine codeAny_forLoop (fun n s' => ∃ i ρ' st', n = items.length + 1 - i ∧ i ≤ items.length ∧ Inv C (Also γ J) ρ' st'.H s' ∧ Fra (Also γ J) env st' ρ' s' ∧ StpW (Own env) ρ₁ st₁.H s₁ ρ' st'.H s' ∧ St' i s'.heap ∧
    forL (fun v st Q => wSs (Calls C k) C.glo b (st.set x v) Q noX) (items.drop i) st' Q) ?_ (items.length + 1) ⟨0, ρ₁, st₁, rfl, Nat.zero_le _, I2, F2, g.stp.w, hst, w₁⟩ (by intro _; rfl)
  rintro n s' ⟨i, ρ', st', rfl, hi, I', F', S', hst', w'⟩
  by_cases hlt : i < items.length
  · have hdrop : items.drop i = items[i] :: items.drop (i + 1) := List.drop_eq_getElem_cons hlt
    rw [hdrop] at w'
    have hv : items[i]? = some items[i] := List.getElem?_eq_getElem hlt
    generalize items[i] = v at w' hv
    have w' : wSs (Calls C k) C.glo b (st'.set x v) (flowK Q fun st' => forL (fun v st Q => wSs (Calls C k) C.glo b (st.set x v) Q noX) (items.drop (i + 1)) st' Q) noX := w'
    refine W.item i _ _ _ hlt hst' fun mv h₁ tk₁ hPv hst₁ hk₁ => ?_
    have k1 : ∀ b o, b ≠ J → s'.heap.get? b = some o → h₁.get? b = some o := fun b o hb e => hk₁ b o (by simpa using hb) e
    have I1 : Inv C (Also γ J) ρ' st'.H ({ s' with heap := h₁, toks := tk₁ } : Shared) := I'.touch (a := J) (.inr rfl) (fun q => gJ (γ.bh _ q)) (fun q => (gJ (γ.fh _ q)).elim) k1 (let ⟨o, e, _⟩ := itr.has _ _ hst₁; ⟨o, e⟩) rfl rfl
    have F1 : Fra (Also γ J) env st' ρ' ({ s' with heap := h₁, toks := tk₁ } : Shared) := F'.touch F₁ (.inr rfl) gJ k1
    have S1 : StpW (Own env) ρ₁ st₁.H s₁ ρ' st'.H ({ s' with heap := h₁, toks := tk₁ } : Shared) := S'.touch (.inr dJ) k1
    have rv : Rel h₁ ρ' (Nl (Also γ J) ρ' st'.H) v mv := (itr.rel i v mv hv hPv).kept (keptf S1 I1)
    refine wpAny_assign_Name (wpAny_mono (prim_store hk I1 F1 rv) (fun _ s3 p => ?_) fun _ _ e => e)
    obtain ⟨I3, F3, S3⟩ := p
    have hst3 : St' (i + 1) s3.heap := stk I1 S1 S3 hst₁
    have S13 : StpW (Own env) ρ₁ st₁.H s₁ ρ' (st'.set x v).H s3 := S1.trans S3
    refine wpAny_mono (hb env A s3 (Also γ J) ρ' (st'.set x v) _ _ hs (hr.more (fun _ q => q) fun _ q => q) ht I3 F3 w') (fun fl s4 p => ?_) fun _ _ p => p.none
    obtain ⟨f, st4, ρ4, h1, h2, h3, h4, h5⟩ := p
    have hst4 : St' (i + 1) s4.heap := stk I3 S13 h5 hst3
    have S14 := S13.trans h5
    have fin : ∀ {ff : Flow} {ffl : PySem.Flow}, Q ff st4 → FlowRel s4.heap ρ4 (Nl (Also γ J) ρ4 st4.H) ff ffl → PostF C γ env ρ₁ st₁ s₁ Q ffl s4 := fun q1 q2 =>
      have Kl := kept_less (γ := γ) (γ' := Also γ J) (s := s4) (ρ := ρ4) (H := st4.H) fun _ => .inl
      ⟨_, st4, ρ4, q1, q2.kept Kl, h3.drop (fun _ => .inl) (fun _ q => q) (fun _ q => q) (fun _ => Iff.rfl), h4.re F₁ Kl rfl (fun b o _ e => ⟨o, e, .refl o⟩) fun b q => h3.ghost_nl (.inl q), S14⟩
    have go : forL (fun v st Q => wSs (Calls C k) C.glo b (st.set x v) Q noX) (items.drop (i + 1)) st4 Q → ∃ m, m < items.length + 1 - i ∧ ∃ i ρ' st', m = items.length + 1 - i ∧ i ≤ items.length ∧ Inv C (Also γ J) ρ' st'.H s4 ∧ Fra (Also γ J) env st' ρ' s4 ∧ StpW (Own env) ρ₁ st₁.H s₁ ρ' st'.H s4 ∧ St' i s4.heap ∧ forL (fun v st Q => wSs (Calls C k) C.glo b (st.set x v) Q noX) (items.drop i) st' Q := fun h =>
      ⟨_, Nat.sub_lt_sub_left (Nat.lt_succ_of_lt hlt) (Nat.lt_succ_self i), i + 1, ρ4, st4, rfl, hlt, h3, h4, S14, hst4, h⟩
    rcases h1 with ⟨rfl, h1⟩ | ⟨rfl, h1⟩ | ⟨rfl, h1⟩ | ⟨v, rfl, h1⟩
    · cases h2; exact go h1
    · cases h2; exact go h1
    · cases h2; exact hR _ _ (fin h1 .next)
    · cases h2 with
      | ret r => exact hR _ _ (fin h1 (.ret r))
  · have hin : i = items.length := Nat.le_antisymm hi (Nat.le_of_not_lt hlt)
    subst hin
    rw [List.drop_length] at w'
    refine W.done _ _ _ hst' fun h₁ tk₁ hk₁ => ?_
    have k1 : ∀ b o, b ≠ J → s'.heap.get? b = some o → h₁.get? b = some o := fun b o hb e => hk₁ b o (by simpa using hb) e
    refine wpAny_execs_nil (hR _ _ ⟨.next, st', ρ', w', .next, I'.lose (a := J) (.inr rfl) (fun q => gJ (γ.bh _ q)) (fun _ => Iff.rfl) (fun _ => .inl) (fun _ q => q) (fun _ q => q) gJ k1 rfl rfl, F'.lose F₁ (.inr rfl) (fun _ => .inl) gJ k1, S'.touch (.inr dJ) k1⟩)

theorem ss_for {x : String} {it : E} {b : Ss} {pit : Expr} {pb : List Stmt} {py p : Pos} (hk : isLoc sc x = true) (hset : isSetE pit = false) (hi : SE C k sc it pit) (hb : SSs C k sc b pb) : SS C k sc (.for_ x it b) (.For (.Name (x : Str) py) pit pb [] p) := by
  rintro env A s γ ρ st Q X rfl hr ht I F w
  have hk : kd env.scope x = some .local ∨ kd env.scope x = some .cell := (Bool.or_eq_true_iff.mp hk).imp beq_iff_eq.mp beq_iff_eq.mp
  refine wpAny_For (hi.stm rfl hr I F w fun mi s₁ vi st₁ ρ₁ w₁ r₁ I₁ F₁ S₁ => ?_) (fun v => isSetE_fold hset v)
  rcases w₁ with ⟨items, e, w₁⟩ | ⟨i, items, rfl, hH, w₁⟩ | w₁
  · exact wpAny_mono (prim_iter hr I₁ r₁ e) (fun itv s₂ h => for_block hb rfl hk hr ht I₁ F₁ h w₁ fun f s' p => p.step S₁.w) fun _ _ x => x
  · obtain ⟨a, rfl, ha⟩ := r₁.loc_inv --#itLoc
    obtain ⟨ms, hpl, hrl, hlen⟩ := I₁.obj i _ _ ha hH --#itLoc
    have kp : Kept s₁.heap ρ₁ (Nl γ ρ₁ st₁.H) s₁.heap ρ₁ (Nl (Lend γ a) ρ₁ (st₁.H.set i .dead)) := ⟨fun _ o e _ => ⟨o, e, .refl o⟩, fun b q => .inl ((lend_N I₁ ha hH b).mp q), fun _ _ e => e⟩ --#itLoc
    exact wpAny_mono (iter_list (H := st₁.H.set i .dead) (γ := Lend γ a) (hr.more (fun _ q => q) fun _ q => q) (I₁.lend ha hH) hpl (fun q => q.elim (fun q => (lend_lv I₁ ha a q).2 rfl) fun q => q.2 (.inr rfl)) hlen (hrl.kept kp)) --#itLoc
      (fun itv s₂ h => for_block (st₁ := ⟨st₁.s, st₁.H.set i .dead⟩) (γ := Lend γ a) hb rfl hk (hr.more (fun _ q => q) fun _ q => q) ht (I₁.lend ha hH) (F₁.lend I₁ ha hH) h w₁ fun f s' p => (p.unlend I₁ F₁ ha hH).step S₁.w) fun _ _ x => x --#itLoc
  · exact w₁.elim

theorem ss_whl {c : E} {b : Ss} {pc : Expr} {pb : List Stmt} {p : Pos} (hc : ST C k sc c pc) (hb : SSs C k sc b pb) : SS C k sc (.whl c b) (.While pc pb [] p) := by
  rintro env A s γ ρ st Q X hs hr ht I F ⟨n, w⟩
  refine wpAny_While (codeAny_whileLoop (fun m s' => ∃ ρ' st', Inv C γ ρ' st'.H s' ∧ Fra γ env st' ρ' s' ∧ StpW (Own env) ρ st.H s ρ' st'.H s' ∧
    whileN (fun st Q => wT (Calls C k) C.glo c st Q noX) (fun st Q => wSs (Calls C k) C.glo b st Q noX) m st' Q) ?_ n ⟨ρ, st, I, F, .refl, w⟩)
  rintro m s' ⟨ρ', st', I', F', S', w'⟩
  cases m with
  | zero => exact False.elim w'
  | succ m =>
    refine wpAny_mono (hc env A s' γ ρ' st' _ _ hs hr I' F' w') (fun bb s₁ p => ?_) fun _ _ p => (p.frame F').none
    obtain ⟨st₁, ρ₁, w₁, e₁, I₁, S₁⟩ := p
    have F₁ : Fra γ env st₁ ρ₁ s₁ := F'.step S₁ e₁
    have S01 := S'.trans (Stp.w S₁)
    rcases w₁ with ⟨rfl, w₁⟩ | ⟨rfl, w₁⟩
    · refine wpAny_mono (hb env A s₁ γ ρ₁ st₁ _ _ hs hr ht I₁ F₁ w₁) (fun fl s₂ p => ?_) fun _ _ p => p.none
      obtain ⟨f, st₂, ρ₂, h1, h2, h3, h4, h5⟩ := p
      have S02 := S01.trans h5
      rcases h1 with ⟨rfl, h1⟩ | ⟨rfl, h1⟩ | ⟨rfl, h1⟩ | ⟨v, rfl, h1⟩
      · cases h2; exact ⟨m, Nat.lt_succ_self m, ρ₂, st₂, h3, h4, S02, h1⟩
      · cases h2; exact ⟨m, Nat.lt_succ_self m, ρ₂, st₂, h3, h4, S02, h1⟩
      · cases h2; exact ⟨.next, st₂, ρ₂, h1, .next, h3, h4, S02⟩
      · cases h2 with
        | ret r => exact ⟨_, st₂, ρ₂, h1, .ret r, h3, h4, S02⟩
    · exact wpAny_execs_nil ⟨.next, st₁, ρ₁, w₁, .next, I₁, F₁, S01⟩
end
end
end Mine
set_option autoImplicit false
set_option genInjectivity false
set_option genSizeOf false
namespace Mine
noncomputable section
open PySem PyProof.Rows

noncomputable def gSub (e : Expr) : Option { x : Expr × Expr × Pos // e = .Subscript x.1 x.2.1 x.2.2 } := match e with
  | .Subscript a i p => some ⟨(a, i, p), rfl⟩
  | _ => none
noncomputable def gComp (e : Expr) : Option { x : Expr × List Comprehension × Scope × Pos // e = .ListComp x.1 x.2.1 x.2.2.1 x.2.2.2 } := match e with
  | .ListComp a g c p => some ⟨(a, g, c, p), rfl⟩
  | _ => none
noncomputable def toSs (f : Stmt → S) : List Stmt → Ss
  | [] => .nil
  | s :: r => .cons (f s) (toSs f r)
noncomputable def cAsgN (N : Nm) (sc : Scope) (c : Expr → E) (c' : Scope → Expr → E) (y : Str) (e : Expr) : S := (nm N.all y).elim .stuck fun x => bif isLoc sc x.1 then
    (bif !isCompE e then .asg x.1 (c e) else (gComp e).elim .stuck fun z => .asg x.1 (cComp N sc c (c' z.1.2.2.1) z.1.1 z.1.2.1 z.1.2.2.1)) else .stuck
noncomputable def cAsg (N : Nm) (sc : Scope) (c : Expr → E) (c' : Scope → Expr → E) (ts : List Expr) (e : Expr) : S := (one ts).elim .stuck fun t =>
  (gName t.1).elim ((gSub t.1).elim .stuck fun z => bif !isCompE e then .asgSub (c z.1.1) (c z.1.2.1) (c e) else .stuck) fun y => cAsgN N sc c c' y.1.1 e
noncomputable def cFor (N : Nm) (sc : Scope) (c : Expr → E) (b : Ss) (x it : Expr) (o : List Stmt) : S := (gName x).elim .stuck fun y => (nm N.all y.1.1).elim .stuck fun z => bif o.isEmpty && isLoc sc z.1 && !isSetE it then .for_ z.1 (c it) b else .stuck
/-- a text's statement as a term of ours -/
noncomputable def cS (N : Nm) : Nat → Scope → Stmt → S
  | 0 => fun _ _ => .stuck
  | n + 1 => fun sc ps => match ps with
    | .Expr e _ => bif !isCompE e then .ex (cE N n sc e) else .stuck
    | .Assign ts e _ => cAsg N sc (cE N n sc) (fun cs => cE N n (relab cs sc)) ts e
    | .If c t f _ => .ite (cE N n sc c) (toSs (cS N n sc) t) (toSs (cS N n sc) f)
    | .While c b o _ => bif o.isEmpty then .whl (cE N n sc c) (toSs (cS N n sc) b) else .stuck
    | .For x it b o _ => cFor N sc (cE N n sc) (toSs (cS N n sc) b) x it o
    | .Return e _ => e.elim .stuck fun pe => .ret (cE N n sc pe)
    | .Continue _ => .cont
    | .Pass _ => .pass
    | _ => .stuck
noncomputable def cSs (N : Nm) (n : Nat) (sc : Scope) (pss : List Stmt) : Ss := toSs (cS N n sc) pss

section
variable {C : Cx} {k : Nat} {sc : Scope} {ps : Stmt}
theorem el_opt {α β : Type} {P : β → Prop} {o : Option α} {g : α → β} {d : β} (h0 : P d) (h : ∀ x, P (g x)) : P (o.elim d g) := by
  cases o with
  | none => exact h0
  | some x => exact h x
theorem el_if {β : Type} {P : β → Prop} {b : Bool} {e d : β} (h0 : P d) (h : b = true → P e) : P (bif b then e else d) := by
  cases b with
  | false => exact h0
  | true => exact h rfl
theorem ss_asg_cComp {l : List String} {c c' : Expr → E} {cs : Scope} (ih : ∀ pe, Snd C k sc (c pe) pe) (ih' : ∀ pe, Snd C k (relab cs sc) (c' pe) pe) {y : String} (hy : isLoc sc y = true) {elt : Expr} {gs : List Comprehension} {py p sp : Pos} :
    SS C k sc (.asg y (cComp (C.nm l) sc c c' elt gs cs)) (.Assign [.Name (y : Str) py] (.ListComp elt gs cs p) sp) := by
  have h0 : SS C k sc (.asg y .stuck) (.Assign [.Name (y : Str) py] (.ListComp elt gs cs p) sp) := fun _ _ _ _ _ _ _ _ _ _ _ _ _ w => False.elim w
  refine el_opt (P := fun e => SS C k sc (.asg y e) _) h0 fun g => ?_
  obtain ⟨⟨tg, it, ifs, asy⟩, rfl⟩ := g
  refine el_opt (P := fun e => SS C k sc (.asg y e) _) h0 fun z => ?_
  obtain ⟨⟨z, q⟩, hz⟩ := z
  have hz : tg = .Name z q := hz
  subst hz
  refine el_opt (P := fun e => SS C k sc (.asg y e) _) h0 fun x => ?_
  obtain ⟨x, hx⟩ := x
  have hx : (x : Str) = z := hx
  subst hx
  refine el_if (P := fun e => SS C k sc (.asg y e) _) h0 fun h => ?_
  obtain ⟨h, h3⟩ := and2 h
  obtain ⟨h1, h2⟩ := and2 h
  have h3 : asy = 0 := beq_iff_eq.mp h3
  subst h3
  refine el_opt (P := fun e => SS C k sc (.asg y e) _) (el_if (P := fun e => SS C k sc (.asg y e) _) h0 fun e => ?_) fun pc => ?_
  · have e : ifs = [] := List.isEmpty_iff.mp e
    subst e
    exact ss_asg_comp hy h1 (not1 h2) (ih' elt).1 (ih it).1
  · obtain ⟨pc, hp⟩ := pc
    have hp : ifs = [pc] := hp
    subst hp
    exact ss_asg_compIf hy h1 (not1 h2) (ih' elt).1 (ih it).1 (ih' pc).2
theorem ss_cAsg {l : List String} {c : Expr → E} {c' : Scope → Expr → E} (ih : ∀ pe, Snd C k sc (c pe) pe) (ih' : ∀ cs pe, Snd C k (relab cs sc) (c' cs pe) pe) {ts : List Expr} {e : Expr} {sp : Pos} : SS C k sc (cAsg (C.nm l) sc c c' ts e) (.Assign ts e sp) := by
  refine el_opt (P := fun x => SS C k sc x _) ss_stuck fun t => ?_
  obtain ⟨t, rfl⟩ := t
  refine el_opt (P := fun x => SS C k sc x _) (el_opt (P := fun x => SS C k sc x _) ss_stuck fun z => el_if (P := fun x => SS C k sc x _) ss_stuck fun h => ?_) fun y => ?_
  · obtain ⟨⟨a, i, q⟩, hz⟩ := z
    have hz : t = .Subscript a i q := hz
    subst hz
    exact ss_asgSub (not1 h) (ih a).1 (ih i).1 (ih e).1
  · obtain ⟨⟨y, q⟩, hy⟩ := y
    have hy : t = .Name y q := hy
    subst hy
    refine el_opt (P := fun x => SS C k sc x _) ss_stuck fun x => ?_
    obtain ⟨x, hx⟩ := x
    have hx : (x : Str) = y := hx
    subst hx
    refine el_if (P := fun x => SS C k sc x _) ss_stuck fun hl => el_if (P := fun x => SS C k sc x _) (el_opt (P := fun x => SS C k sc x _) ss_stuck fun z => ?_) fun h => ss_asg hl (not1 h) (ih e).1
    obtain ⟨⟨elt, gs, cs, p⟩, rfl⟩ := z
    exact ss_asg_cComp ih (ih' cs) hl
theorem sss_of {f : Stmt → S} (h : ∀ ps, SS C k sc (f ps) ps) : ∀ pss : List Stmt, SSs C k sc (toSs f pss) pss
  | [] => sss_nil
  | ps :: r => sss_cons (h ps) (sss_of h r)
theorem ss_cFor {l : List String} {c : Expr → E} {b : Ss} {x it : Expr} {pb o : List Stmt} {p : Pos} (ih : ∀ pe, Snd C k sc (c pe) pe) (hb : SSs C k sc b pb) : SS C k sc (cFor (C.nm l) sc c b x it o) (.For x it pb o p) := by
  refine el_opt (P := fun x => SS C k sc x _) ss_stuck fun y => ?_
  obtain ⟨⟨y, q⟩, rfl⟩ := y
  refine el_opt (P := fun x => SS C k sc x _) ss_stuck fun z => ?_
  obtain ⟨z, hz⟩ := z
  have hz : (z : Str) = y := hz
  subst hz
  refine el_if (P := fun x => SS C k sc x _) ss_stuck fun h => ?_
  obtain ⟨h, h3⟩ := and2 h
  obtain ⟨h1, h2⟩ := and2 h
  have h1 : o = [] := List.isEmpty_iff.mp h1
  subst h1
  exact ss_for h2 (not1 h3) (ih it).1 hb
theorem soundS {l : List String} : ∀ (n : Nat) (sc : Scope) (ps : Stmt), SS C k sc (cS (C.nm l) n sc ps) ps
  | 0, _, _ => ss_stuck
  | n + 1, sc, ps => by
    have ih := soundS (l := l) n sc
    have ie := fun sc => soundE (C := C) (k := k) (l := l) n sc
    cases ps with
    | Expr e p => exact el_if (P := fun x => SS C k sc x _) ss_stuck fun h => ss_ex (not1 h) (ie sc e).1
    | Assign ts e p => exact ss_cAsg (ie sc) fun cs => ie (relab cs sc)
    | If c t f p => exact ss_ite (ie sc c).2 (sss_of ih t) (sss_of ih f)
    | While c b o p =>
      refine el_if (P := fun x => SS C k sc x _) ss_stuck fun h => ?_
      have h : o = [] := List.isEmpty_iff.mp h
      subst h
      exact ss_whl (ie sc c).2 (sss_of ih b)
    | For x it b o p => exact ss_cFor (ie sc) (sss_of ih b)
    | Return e p =>
      cases e with
      | none => exact ss_stuck
      | some pe => exact ss_ret (ie sc pe).1
    | Continue p => exact ss_cont
    | Pass p => exact ss_pass
    | _ => exact ss_stuck
theorem soundSs {l : List String} (n : Nat) (sc : Scope) (pss : List Stmt) : SSs C k sc (cSs (C.nm l) n sc pss) pss := sss_of (soundS n sc) pss
end
end
end Mine
set_option autoImplicit false
set_option genInjectivity false
set_option genSizeOf false
namespace Mine
noncomputable section
open PySem PyProof.Rows

noncomputable def bindV : List String → List V → String → Option V
  | [] => fun _ _ => .none
  | p :: ps => fun vs x => vs.head?.bind fun v => if x = p then some v else bindV ps vs.tail x
noncomputable def zipS (ps : List String) (vs : List Value) : List (Str × Value) := (ps.zip vs).map fun x => ((x.1 : Str), x.2)

/-- a def of the text as it stands in the heap -/
structure FnIs (C : Cx) (f : String) (ps : List String) (ss : Ss) (fa : Addr) (o : Obj) (fd : FuncData) (body : List Stmt) : Prop where
  mg : C.mg f = some (.ref fa)
  obj : C.base.get? fa = some o
  data : o.data = .func fd
  code : C.base.CodeRec fd.code fd.qualname
  text : fd.body = .stmts body
  closure : fd.closure = []
  globals : fd.globals = mainGlobals
  builtins : fd.builtins = builtinsNs
  kind : fd.scope.kind = .function
  co : fd.scope.isCoroutine = false
  gen : fd.scope.isGenerator = false
  bind : ∀ vals : List Value, vals.length = ps.length → bindArgs fd ⟨vals, []⟩ = pure (zipS ps vals)
  params : ∀ p ∈ ps, kd fd.scope p = some .local ∨ kd fd.scope p = some .cell
  nofree : ∀ n, fd.scope.names.lookup n ≠ some .free
  nodup : ps.Nodup
  sound : ∀ k, SSs C k fd.scope ss body

noncomputable def FnOk (C : Cx) (f : String) (ps : List String) (ss : Ss) : Prop := ∃ fa o fd body, FnIs C f ps ss fa o fd body

theorem zipS_mem {x : Str × Value} {ps : List String} {vs : List Value} (h : x ∈ zipS ps vs) : ∃ p ∈ ps, x.1 = (p : Str) := by
  obtain ⟨y, h1, rfl⟩ := List.mem_map.mp h
  exact ⟨y.1, (List.of_mem_zip h1).1, rfl⟩

section
variable {kindOf : Str → Option NameKind} {h : Heap} {ρ : List Addr} {N : Addr → Prop}
theorem bindL_cons {a : Str} {v : Value} {l : List (Str × Value)} {m : Str → Option Value} : bindL kindOf ((a, v) :: l) m = bindL kindOf l (if kindOf a = some .local then fun y => if y = a then some v else m y else m) := rfl
theorem bindC_cons {a : Str} {v : Value} {l : List (Str × Value)} {m : Str → Option Value} : bindC kindOf ((a, v) :: l) m = bindC kindOf l (if kindOf a = some .local then m else fun y => if y = a then some v else m y) := rfl
theorem bindL_other {x : String} (ps : List String) : ∀ (ms : List Value) (m : Str → Option Value), x ∉ ps → bindL kindOf (zipS ps ms) m x = m x := by
  induction ps with
  | nil => exact fun _ _ _ => rfl
  | cons p ps ih =>
    intro ms m hx
    cases ms with
    | nil => rfl
    | cons v ms =>
      rw [show zipS (p :: ps) (v :: ms) = ((p : Str), v) :: zipS ps ms from rfl, bindL_cons, ih ms _ fun q => hx (List.mem_cons_of_mem _ q)]
      split
      · exact if_neg fun e => hx (List.mem_cons.mpr (.inl (str_inj e)))
      · rfl
theorem bindC_other {x : String} (ps : List String) : ∀ (ms : List Value) (m : Str → Option Value), x ∉ ps → bindC kindOf (zipS ps ms) m x = m x := by
  induction ps with
  | nil => exact fun _ _ _ => rfl
  | cons p ps ih =>
    intro ms m hx
    cases ms with
    | nil => rfl
    | cons v ms =>
      rw [show zipS (p :: ps) (v :: ms) = ((p : Str), v) :: zipS ps ms from rfl, bindC_cons, ih ms _ fun q => hx (List.mem_cons_of_mem _ q)]
      split
      · rfl
      · exact if_neg fun e => hx (List.mem_cons.mpr (.inl (str_inj e)))
theorem bindL_get {x : String} {v : V} (hk : kindOf x = some .local) (ps : List String) : ∀ {vs : List V} {ms : List Value} {m : Str → Option Value}, ps.Nodup → RelL h ρ N vs ms → bindV ps vs x = some v → ∃ mv, bindL kindOf (zipS ps ms) m x = some mv ∧ Rel h ρ N v mv := by
  induction ps with
  | nil => intro _ _ _ _ _ e; cases e
  | cons p ps ih =>
    intro vs ms m nd r e
    cases r with
    | nil => cases e
    | @cons v0 m0 vs ms r q =>
      have e : (if x = p then some v0 else bindV ps vs x) = some v := e
      rw [show zipS (p :: ps) (m0 :: ms) = ((p : Str), m0) :: zipS ps ms from rfl, bindL_cons]
      by_cases hx : x = p
      · rw [if_pos hx] at e
        cases e
        subst hx
        rw [bindL_other ps ms _ (List.nodup_cons.mp nd).1, if_pos hk]
        exact ⟨m0, if_pos rfl, r⟩
      · rw [if_neg hx] at e
        exact ih (List.nodup_cons.mp nd).2 q e
theorem bindC_get {x : String} {v : V} (hk : kindOf x ≠ some .local) (ps : List String) : ∀ {vs : List V} {ms : List Value} {m : Str → Option Value}, ps.Nodup → RelL h ρ N vs ms → bindV ps vs x = some v → ∃ mv, bindC kindOf (zipS ps ms) m x = some mv ∧ Rel h ρ N v mv := by
  induction ps with
  | nil => intro _ _ _ _ _ e; cases e
  | cons p ps ih =>
    intro vs ms m nd r e
    cases r with
    | nil => cases e
    | @cons v0 m0 vs ms r q =>
      have e : (if x = p then some v0 else bindV ps vs x) = some v := e
      rw [show zipS (p :: ps) (m0 :: ms) = ((p : Str), m0) :: zipS ps ms from rfl, bindC_cons]
      by_cases hx : x = p
      · rw [if_pos hx] at e
        cases e
        subst hx
        rw [bindC_other ps ms _ (List.nodup_cons.mp nd).1, if_neg hk]
        exact ⟨m0, if_pos rfl, r⟩
      · rw [if_neg hx] at e
        exact ih (List.nodup_cons.mp nd).2 q e
end

noncomputable def lowO (n : Nat) : HO → Prop
  | .list vs => lows n vs
  | _ => True

section
variable {C : Cx} {k : Nat} {γ γ' : Gh} {env : Env} {A : Around} {ρ ρ' : List Addr} {H H' : List HO} {s s' : Shared}

theorem get_take {α : Type} {l : List α} {n i : Nat} {a : α} (h : (l.take n)[i]? = some a) : l[i]? = some a := by
  rw [List.getElem?_take] at h
  split at h
  · exact h
  · cases h
theorem Lv_take {n : Nat} {a : Addr} (h : Lv (ρ.take n) (H.take n) a) : Lv ρ H a := by
  obtain ⟨i, o, h1, h2, h3⟩ := h
  rw [List.getElem?_take] at h1 h2
  split at h1
  · rename_i hi
    rw [if_pos hi] at h2
    exact ⟨i, o, h1, h2, h3⟩
  · cases h1
theorem Inv.cut {n : Nat} (I : Inv C γ ρ H s) (hz : H.take n = [] → ∀ a, ¬ γ.e a) (hl : ∀ (i : Nat) o, i < n → H[i]? = some o → lowO n o) : Inv C γ (ρ.take n) (H.take n) s := by
  refine ⟨I.base, by simp [I.len], I.nodup.sublist (List.take_sublist n ρ), fun a h => I.fresh a (List.mem_of_mem_take h), fun a h => I.there a (List.mem_of_mem_take h), fun i a o h1 h2 => ?_, fun a h => I.apart a (List.mem_of_mem_take h), fun i a o h1 q h2 => I.bor i a o (get_take h1) q (get_take h2), I.held, I.off, I.frm, (fun b q => let ⟨x, l, nh⟩ := I.hdl b q; ⟨x, fun z => l (Lv_take z), nh⟩), hz, I.gens, I.os⟩
  rw [List.getElem?_take] at h1 h2
  split at h1
  · rename_i hi
    rw [if_pos hi] at h2
    have := I.obj i a o h1 h2
    have hlo := hl i o hi h2
    cases o with
    | list vs =>
      obtain ⟨ms, q1, q2, q3⟩ := this
      exact ⟨ms, q1, q2.cut (fun a q => q.imp Lv_take id) hlo, q3⟩
    | inst _ => exact this
    | dead => trivial
  · cases h1
theorem Inv.lowO (I : Inv C γ ρ H s) {i : Nat} {o : HO} (h : H[i]? = some o) : Mine.lowO H.length o := by
  have hi : i < ρ.length := by rw [I.len]; exact (List.getElem?_eq_some_iff.mp h).1
  have := I.obj i _ o (List.getElem?_eq_getElem hi) h
  cases o with
  | list vs =>
    obtain ⟨ms, q1, q2, q3⟩ := this
    rw [← I.len]; exact q2.lows
  | inst _ => trivial
  | dead => trivial

noncomputable def retOf : Flow → V
  | .ret v => v
  | _ => .none

/-- the body of a def, from its call -/
theorem call_body {f : String} {ps : List String} {ss : Ss} {args : List V} {Q : V → List HO → Prop} {fa : Addr} {o : Obj} {fd : FuncData} {body : List Stmt} (F : FnIs C f ps ss fa o fd body) (hl : args.length = ps.length)
    (w : wSs (Calls C k) C.glo ss ⟨bindV ps args, H⟩ (fun fl st => Q (retOf fl) st.H) noX) {ms : List Value} {R : Result → Shared → Prop} (hr : Room (k + 1) A γ) (I : Inv C γ ρ H s) (ra : RelL s.heap ρ (Nl γ ρ H) args ms)
    (h : ∀ v mv H' ρ' s', Q v H' → Rel s'.heap ρ' (Nl γ ρ' H') v mv → Inv C γ ρ' H' s' → Stp ρ H s ρ' H' s' → R (.ok (.ret mv)) s') : codeAny C.M A (.call (.ref fa) ⟨ms, []⟩) R s := by
  have hlm : ms.length = ps.length := by rw [← ra.length, hl]
  have hkinds : ∀ n, ∀ x ∈ zipS ps ms, fd.scope.names.lookup x.1 = some .local ∨ (fd.scope.names.lookup x.1 = some .cell ∧ ((cellsFrom n fd.scope.names []).lookup x.1).isSome = true) := fun n x hx => by
    obtain ⟨p, hp, e⟩ := zipS_mem hx
    rw [e]
    rcases F.params p hp with q | q
    · exact .inl q
    · exact .inr ⟨q, PySem.W.cellsFrom_some _ _ _ (.inl q)⟩
  refine codeAny_call_cells (by have := hr.depth; unfold recursionLimit; omega) (I.base _ _ F.obj) F.data (C.nolimit.keeps I.base) ?_ F.text (F.bind ms hlm) F.closure (hkinds _) (fun s₁ ic => ?_) F.co F.gen F.kind
  · obtain ⟨c, oc, vs, t, e1, e2, e3, e4⟩ := F.code
    exact ⟨c, oc, vs, t, e1, I.base _ _ e2, e3, e4⟩
  generalize hL : s.heap.objs.size = L at ic ⊢
  have fresh : ∀ b, L ≤ b → s.heap.get? b = none := fun b hb => by
    cases e : s.heap.get? b with
    | none => rfl
    | some o' => exact absurd (Heap.lt_size e) (by rw [hL]; exact Nat.not_lt.mpr hb)
  obtain ⟨h1, tk, hs1⟩ := ic.toInCall.same
  have g : Grew s s₁ := ⟨ic.toInCall.keep, by rw [hs1], by rw [hs1]⟩
  let env := callEnvC fd L fa
  let γ₁ : Gh := ⟨fun b => γ.h b ∨ b = L ∨ ∃ n, env.cells.lookup n = some b, fun b => γ.f b ∨ b = L, fun b q => q.elim (fun q => .inl (γ.fh b q)) fun q => .inr (.inl q), γ.e, γ.b, fun b q => .inl (γ.bh b q)⟩
  have new : ∀ b, γ₁.h b → γ.h b ∨ (s.heap.get? b = none ∧ ∃ o, s₁.heap.get? b = some o) := fun b q => by
    rcases q with q | rfl | ⟨n, q⟩
    · exact .inl q
    · exact .inr ⟨fresh _ (Nat.le_refl _), Heap_Ns_get ic.toInCall.ns⟩
    · refine .inr ⟨fresh _ (Nat.le_of_lt (ic.above n b (mem_of_lookup q))), ?_⟩
      obtain ⟨o, e, _⟩ := ic.cell n b q
      exact ⟨o, e⟩
  have I1 : Inv C γ₁ ρ H s₁ := I.holds g new (fun b q => q.imp id fun e => by rw [e]; exact Heap_Ns_dict ic.toInCall.ns) (fun _ q => q) fun _ => Iff.rfl
  have K1 : Kept s.heap ρ (Nl γ ρ H) s₁.heap ρ (Nl γ₁ ρ H) := kept_holds g fun b q => (new b q).imp id And.left
  have ra1 := ra.kept K1
  have F1 : Fra γ₁ env ⟨bindV ps args, H⟩ ρ s₁ := by
    refine ⟨F.kind, F.globals, F.builtins, I1.ghost_nl (.inr (.inl rfl)), .inr (.inl rfl), ⟨_, ic.toInCall.ns, fun x v k _ q => bindL_get k ps F.nodup ra1 q⟩, fun n kn => ?_, fun n n' c q q' => name_of_addr ic.apart (mem_of_lookup q) (mem_of_lookup q'), fun q => I.ghost_new (fresh _ (Nat.le_refl _)) (γ.bh _ q), fun n c h => ⟨.inr (.inr ⟨n, h⟩), fun q => I.ghost_new (fresh _ (Nat.le_of_lt (ic.above n c (mem_of_lookup h)))) (γ.bh _ q)⟩⟩
    have kn : fd.scope.names.lookup n = some .cell := by
      rcases kn with q | q
      · exact q
      · exact absurd q (F.nofree n)
    obtain ⟨c, hc⟩ := Option.isSome_iff_exists.mp (PySem.W.cellsFrom_some (x := n) fd.scope.names (L + 1) [] (.inl kn))
    have hc' : env.cells.lookup n = some c := hc
    refine ⟨c, _, hc', ⟨I1.ghost_nl (.inr (.inr ⟨n, hc'⟩)), .inr (.inr ⟨n, hc'⟩)⟩, ic.cell n c hc', fun y hy v q => ?_⟩
    subst hy
    exact bindC_get (by show env.kindOf (y : Str) ≠ _; rw [show env.kindOf (y : Str) = some .cell from kn]; simp) ps F.nodup ra1 q
  obtain ⟨l0, hl0, _⟩ := hr.frs
  refine wpAny_mono (F.sound k env (A.deeper env) s₁ γ₁ ρ ⟨bindV ps args, H⟩ _ _ rfl (hr.deeper env (fun _ => .inl) (fun _ q => q) (by show fd.scope.kind ≠ .module; rw [F.kind]; decide) (L := L) rfl (.inr rfl)) ⟨l0, Around.frames_deeper hl0⟩ I1 F1 w) (fun fl s' p => ?_) fun ev s' p => p.none
  obtain ⟨f', st', ρ', q1, q2, q3, q4, q5⟩ := p
  have I2 : Inv C γ ρ' st'.H s' := q3.drop (fun _ => .inl) (fun _ => .inl) (fun _ q => q) (fun _ => Iff.rfl)
  have Kl : Kept s'.heap ρ' (Nl γ₁ ρ' st'.H) s'.heap ρ' (Nl γ ρ' st'.H) := kept_less fun _ => .inl
  have own : ∀ b, Own env b → s.heap.get? b = none := fun b q => by
    rcases q with rfl | ⟨n, _, q⟩
    · exact fresh _ (Nat.le_refl _)
    · exact fresh _ (Nat.le_of_lt (ic.above n b (mem_of_lookup q)))
  have S2 : Stp ρ H s ρ' st'.H s' := ⟨⟨(fun a o e n => by
      refine q5.keep a o (g.keep _ _ e) n fun q => ?_
      rw [own a q] at e; cases e), (fun a q => by
      by_cases ho : Own env a
      · exact .inr (own a ho)
      · rcases q5.live a ho q with z | z
        · exact .inl z
        · refine .inr ?_
          cases e : s.heap.get? a with
          | none => rfl
          | some o => rw [g.keep _ _ e] at z; cases z), q5.pre⟩⟩
  cases q2 with
  | next => exact h .none .none st'.H ρ' s' q1 .none I2 S2
  | brk => exact h .none .none st'.H ρ' s' q1 .none I2 S2
  | cont => exact h .none .none st'.H ρ' s' q1 .none I2 S2
  | ret r => exact h _ _ st'.H ρ' s' q1 (r.kept Kl) I2 S2

theorem Stp.cut {n : Nat} (S : Stp ρ H s ρ' H' s') (hn : ρ.length ≤ n) : Stp ρ H s (ρ'.take n) (H'.take n) s' :=
  ⟨⟨S.kep.keep, fun a q => S.kep.live a (Lv_take q), fun i a e => by
    rw [List.getElem?_take, if_pos (by have := (List.getElem?_eq_some_iff.mp e).1; omega)]; exact S.kep.pre i a e⟩⟩

/-- a call that leaves the table as it was -/
theorem call_pure {f : String} {ps : List String} {ss : Ss} {args : List V} {v : V} (F : FnOk C f ps ss) (hl : args.length = ps.length)
    (w : wSs (Calls C k) C.glo ss ⟨bindV ps args, H⟩ (fun fl st => retOf fl = v ∧ low H.length v ∧ st.H.take H.length = H) noX) : Calls C (k + 1) f args H (.ok v) H := by
  obtain ⟨fa, o, fd, body, F⟩ := F
  intro A s γ ρ ms fa' hr I ra hfa
  have : fa' = fa := by have := F.mg; rw [hfa] at this; cases this; rfl
  subst this
  refine call_body (Q := fun u H' => u = v ∧ low H.length v ∧ H'.take H.length = H) F hl w hr I ra (fun u mv H' ρ' s' q r I' S => ?_)
  obtain ⟨rfl, q1, q2⟩ := q
  have S' := S.cut (n := H.length) (by rw [I.len]; exact Nat.le_refl _)
  have I'' : Inv C γ (ρ'.take H.length) (H'.take H.length) s' := I'.cut (fun z => I.hq (q2 ▸ z)) fun i o hi ho => by
    have : H[i]? = some o := by rw [← q2, List.getElem?_take, if_pos hi]; exact ho
    exact I.lowO this
  refine ⟨ρ'.take H.length, ?_, ?_, ?_⟩
  · have := r.cut (n := H.length) (N' := Nl γ (ρ'.take H.length) (H'.take H.length)) (fun a q => q.imp Lv_take id) q1
    rw [q2] at this; exact this
  · rw [q2] at I''; exact I''
  · rw [q2] at S'; exact S'

/-- a call that makes new objects -/
theorem call_new {f : String} {ps : List String} {ss : Ss} {args : List V} {v : V} (F : FnOk C f ps ss) (hl : args.length = ps.length)
    (w : wSs (Calls C k) C.glo ss ⟨bindV ps args, H⟩ (fun fl st => retOf fl = v ∧ st.H = H') noX) : Calls C (k + 1) f args H (.ok v) H' := by
  obtain ⟨fa, o, fd, body, F⟩ := F
  intro A s γ ρ ms fa' hr I ra hfa
  have : fa' = fa := by have := F.mg; rw [hfa] at this; cases this; rfl
  subst this
  refine call_body (Q := fun u H'' => u = v ∧ H'' = H') F hl w hr I ra (fun u mv H'' ρ' s' q r I' S => ?_)
  obtain ⟨rfl, rfl⟩ := q
  exact ⟨ρ', r, I', S⟩

end
end
end Mine
set_option autoImplicit false
set_option genInjectivity false
set_option genSizeOf false
namespace Mine
noncomputable section
open PySem

section
variable (Φ : Orc) (G : String → Option V)
/-- an expression comes to a value -/
noncomputable def Ev (e : E) (st : St) (v : V) (st' : St) : Prop := ∀ (Q : V → St → Prop) (X : String → St → Prop), Q v st' → wE Φ G e st Q X
noncomputable def Evs (es : Es) (st : St) (vs : List V) (st' : St) : Prop := ∀ (Q : List V → St → Prop) (X : String → St → Prop), Q vs st' → wEs Φ G es st Q X
noncomputable def EvAnd (es : Es) (st : St) (b : Bool) (st' : St) : Prop := ∀ (Q : V → St → Prop) (X : String → St → Prop), Q (.bool b) st' → wAnd Φ G es st Q X
noncomputable def EvOr (es : Es) (st : St) (b : Bool) (st' : St) : Prop := ∀ (Q : V → St → Prop) (X : String → St → Prop), Q (.bool b) st' → wOr Φ G es st Q X
end
/-- a new list -/
inductive New (vs : List V) (st : St) : V → St → Prop
  | lst : New vs st (.lst vs) st
  | loc : New vs st (.loc st.H.length) ⟨st.s, st.H ++ [.list vs]⟩
theorem New.w {vs : List V} {st st' : St} {v : V} (n : New vs st v st') {Q : V → St → Prop} (q : Q v st') : newL vs st Q := by
  cases n with
  | lst => exact .inl q
  | loc => exact .inr q

section
variable {Φ : Orc} {G : String → Option V} {st st' st₁ st₂ st₃ : St} {e a b c i lo hi elt it : E} {es : Es} {v va vb vc vi : V} {vs xs ys : List V} {x f t k : String} {op op' : CmpOp} {r r' : Bool}
theorem ev_bool : Ev Φ G (.bool r) st (.bool r) st := fun _ _ q => q
theorem ev_int {n : Int} : Ev Φ G (.int n) st (.int n) st := fun _ _ q => q
theorem ev_str {s : List Nat} : Ev Φ G (.str s) st (.str s) st := fun _ _ q => q
theorem ev_var (h : st.s x = some v) : Ev Φ G (.var x) st v st := fun _ _ q => ⟨v, h, .inl q⟩
theorem ev_glo (h : G x = some v) : Ev Φ G (.glo x) st v st := fun _ _ q => ⟨v, h, q⟩
theorem ev_tup (h : Evs Φ G es st vs st') : Ev Φ G (.tup es) st (.tup vs) st' := fun _ X q => h _ X q
theorem ev_list (h : Evs Φ G es st vs st₁) (n : New vs st₁ v st') : Ev Φ G (.list es) st v st' := fun _ X q => h _ X (n.w q)
theorem ev_bin {o : Operator} (h₁ : Ev Φ G a st va st₁) (h₂ : Ev Φ G b st₁ vb st₂) (h : Bin o va vb v) : Ev Φ G (.bin o a b) st v st₂ := fun _ X q => h₁ _ X (h₂ _ X (.inl ⟨v, h, q⟩))
theorem ev_cat (h₁ : Ev Φ G a st va st₁) (h₂ : Ev Φ G b st₁ vb st₂) (h₃ : View st₂.H va xs) (h₄ : View st₂.H vb ys) (hl : xs.length + ys.length ≤ 16000000) (n : New (xs ++ ys) st₂ v st') : Ev Φ G (.bin .Add a b) st v st' :=
  fun _ X q => h₁ _ X (h₂ _ X (.inr ⟨xs, ys, rfl, h₃, h₄, hl, n.w q⟩))
theorem ev_neg {n : Int} (h : Ev Φ G a st (.int n) st') : Ev Φ G (.neg a) st (.int (-n)) st' := fun _ X q => h _ X ⟨n, rfl, q⟩
theorem ev_not (h : Ev Φ G a st (.bool r) st') : Ev Φ G (.not a) st (.bool (!r)) st' := fun _ X q => h _ X ⟨r, rfl, q⟩
theorem ev_nt (h : Ev Φ G a st (.bool true) st') : Ev Φ G (.not a) st (.bool false) st' := ev_not h
theorem ev_nf (h : Ev Φ G a st (.bool false) st') : Ev Φ G (.not a) st (.bool true) st' := ev_not h
theorem ev_and (h : EvAnd Φ G es st r st') : Ev Φ G (.and es) st (.bool r) st' := fun _ X q => h _ X q
theorem ev_or (h : EvOr Φ G es st r st') : Ev Φ G (.or es) st (.bool r) st' := fun _ X q => h _ X q
theorem and_nil : EvAnd Φ G .nil st true st := fun _ _ q => q
theorem and_t (h₁ : Ev Φ G e st (.bool true) st₁) (h₂ : EvAnd Φ G es st₁ r st') : EvAnd Φ G (.cons e es) st r st' := fun _ X q => h₁ _ X ⟨true, rfl, .inl ⟨rfl, h₂ _ X q⟩⟩
theorem or_nil : EvOr Φ G .nil st false st := fun _ _ q => q
theorem or_f (h₁ : Ev Φ G e st (.bool false) st₁) (h₂ : EvOr Φ G es st₁ r st') : EvOr Φ G (.cons e es) st r st' := fun _ X q => h₁ _ X ⟨false, rfl, .inr ⟨rfl, h₂ _ X q⟩⟩
theorem ev_cmp (h₁ : Ev Φ G a st va st₁) (h₂ : Ev Φ G b st₁ vb st₂) (h : Cmp st₂.H op va vb r) : Ev Φ G (.cmp op a b) st (.bool r) st₂ := fun _ X q => h₁ _ X (h₂ _ X ⟨r, h, q⟩)
theorem ev_cmp2 (h₁ : Ev Φ G a st va st₁) (h₂ : Ev Φ G b st₁ vb st₂) (h : Cmp st₂.H op va vb true) (h₃ : Ev Φ G c st₂ vc st₃) (h' : Cmp st₃.H op' vb vc r) : Ev Φ G (.cmp2 op op' a b c) st (.bool r) st₃ :=
  fun _ X q => h₁ _ X (h₂ _ X ⟨true, h, .inl ⟨rfl, h₃ _ X ⟨r, h', q⟩⟩⟩)
theorem ev_idx (h₁ : Ev Φ G a st va st₁) (h₂ : Ev Φ G i st₁ vi st₂) (h : Idx st₂.H va vi v) : Ev Φ G (.idx a i) st v st₂ := fun _ X q => h₁ _ X (h₂ _ X ⟨v, h, q⟩)
/-- what a slice gives -/
inductive Slc (st : St) (l h : Option Int) : V → V → St → Prop
  | str (cs : List Nat) : Slc st l h (.str cs) (.str (slice cs (loOf cs.length l) (hiOf cs.length h))) st
  | seq {va v : V} {xs : List V} {st' : St} : View st.H va xs → New (slice xs (loOf xs.length l) (hiOf xs.length h)) st v st' → Slc st l h va v st'
theorem Slc.w {l h : Option Int} (z : Slc st l h va v st') {Q : V → St → Prop} (q : Q v st') : slcW va l h st Q := by
  cases z with
  | str cs => exact .inl ⟨cs, rfl, q⟩
  | seq h1 h2 => exact .inr ⟨_, h1, h2.w q⟩
theorem ev_slc01 {j : Int} (h₁ : Ev Φ G a st va st₁) (o : hi.isOmit = false) (h₂ : Ev Φ G hi st₁ (.int j) st₂) (z : Slc st₂ .none (some j) va v st') : Ev Φ G (.slc a .omit hi) st v st' :=
  fun _ X q => h₁ _ X (.inl ⟨rfl, .inr ⟨o, h₂ _ X ⟨j, rfl, z.w q⟩⟩⟩)
theorem ev_slc11 {j k : Int} (h₁ : Ev Φ G a st va st₁) (o : lo.isOmit = false) (h₂ : Ev Φ G lo st₁ (.int j) st₂) (o' : hi.isOmit = false) (h₃ : Ev Φ G hi st₂ (.int k) st₃) (z : Slc st₃ (some j) (some k) va v st') : Ev Φ G (.slc a lo hi) st v st' :=
  fun _ X q => h₁ _ X (.inr ⟨o, h₂ _ X ⟨j, rfl, .inr ⟨o', h₃ _ X ⟨k, rfl, z.w q⟩⟩⟩⟩)
theorem ev_call {H' : List HO} (h : Evs Φ G es st vs st₁) (hc : Φ f vs st₁.H (.ok v) H') : Ev Φ G (.call f es) st v ⟨st₁.s, H'⟩ := fun _ X q => h _ X (.inl ⟨v, H', hc, q⟩)
theorem ev_callP (h : Evs Φ G es st vs st₁) (hc : Φ f vs st₁.H (.ok v) st₁.H) : Ev Φ G (.call f es) st v st₁ := ev_call h hc
theorem ev_blt {g : BN} (h : Evs Φ G es st vs st₁) (hb : Blt st₁.H g vs v) : Ev Φ G (.blt g es) st v st₁ := fun _ X q => h _ X (.inl ⟨v, hb, q⟩)
theorem ev_bltL {g : BN} (h : Evs Φ G es st vs st₁) (hb : BltL st₁.H g vs xs) (n : New xs st₁ v st') : Ev Φ G (.blt g es) st v st' := fun _ X q => h _ X (.inr ⟨xs, hb, n.w q⟩)
theorem ev_isi (h : Ev Φ G a st va st₁) (hk : Kind st₁.H va k) (e : subT k t = r) : Ev Φ G (.isi a t) st (.bool r) st₁ := fun _ X q => h _ X ⟨k, hk, e ▸ q⟩
theorem ev_append {j : Nat} (h₁ : Ev Φ G a st (.loc j) st₁) (hr : st₁.H[j]? = some (.list ys)) (h₂ : Evs Φ G es st₁ [v] st₂) (hx : st₂.H[j]? = some (.list xs)) (hl : xs.length < 16000000) : Ev Φ G (.mth .append a es) st .none ⟨st₂.s, st₂.H.set j (.list (xs ++ [v]))⟩ := --#append
  fun _ X q => h₁ _ X ⟨.append (.loc hr), h₂ _ X (.inr (.inl ⟨j, xs, v, ⟨rfl, rfl, rfl⟩, hx, hl, q⟩))⟩ --#append
theorem evs_nil : Evs Φ G .nil st [] st := fun _ _ q => q
theorem evs_cons (h₁ : Ev Φ G e st v st₁) (h₂ : Evs Φ G es st₁ vs st') : Evs Φ G (.cons e es) st (v :: vs) st' := fun _ X q => h₁ _ X (h₂ _ X q)
theorem evs1 (h₁ : Ev Φ G e st v st') : Evs Φ G (.cons e .nil) st [v] st' := evs_cons h₁ evs_nil
theorem evs2 (h₁ : Ev Φ G a st va st₁) (h₂ : Ev Φ G b st₁ vb st') : Evs Φ G (.cons a (.cons b .nil)) st [va, vb] st' := evs_cons h₁ (evs1 h₂)
theorem evs3 (h₁ : Ev Φ G a st va st₁) (h₂ : Ev Φ G b st₁ vb st₂) (h₃ : Ev Φ G c st₂ vc st') : Evs Φ G (.cons a (.cons b (.cons c .nil))) st [va, vb, vc] st' := evs_cons h₁ (evs2 h₂ h₃)

/-- comprehensions -/
theorem compA {α : Type} {f : V → St → (List V → St → Prop) → Prop} {K : List V → St → Prop} (g : α → V) (p : α → Bool) (q : α → V) (rs : List α) : ∀ (acc : List V),
    (∀ r ∈ rs, ∀ K' : List V → St → Prop, K' (if p r then [q r] else []) st → f (g r) st K') → K (acc ++ (rs.filter p).map q) st → compL f (rs.map g) acc st K := by
  induction rs with
  | nil => intro acc _ kk; rw [show acc ++ List.map q (List.filter p []) = acc from List.append_nil _] at kk; exact kk
  | cons r rs ih =>
    intro acc h kk
    refine h r List.mem_cons_self _ (ih _ (fun u hu => h u (List.mem_cons_of_mem _ hu)) ?_)
    rw [List.append_assoc]
    rw [List.filter_cons] at kk
    cases e : p r with
    | true => rw [e, if_pos rfl] at kk; rw [if_pos rfl]; exact kk
    | false => rw [e, if_neg Bool.false_ne_true] at kk; rw [if_neg Bool.false_ne_true]; exact kk
theorem ev_compIf {α : Type} {g q : α → V} {p : α → Bool} {rs : List α} (hi : Ev Φ G it st vi st₁) (hs : Items vi (rs.map g)) (hc : ∀ r ∈ rs, Ev Φ G c (st₁.set x (g r)) (.bool (p r)) (st₁.set x (g r))) (he : ∀ r ∈ rs, p r = true → Ev Φ G elt (st₁.set x (g r)) (q r) (st₁.set x (g r)))
    (n : New ((rs.filter p).map q) st₁ v st') : Ev Φ G (.compIf elt x it c) st v st' :=
  fun _ X qq => hi _ X ⟨_, hs, compA g p q rs [] (fun r hr K' hK => hc r hr _ _ (by
    cases e : p r with
    | true => rw [e, if_pos rfl] at hK; exact .inl ⟨rfl, he r hr e _ _ hK⟩
    | false => rw [e, if_neg Bool.false_ne_true] at hK; exact .inr ⟨rfl, hK⟩)) (n.w qq)⟩
theorem ev_comp {α : Type} {g q : α → V} {rs : List α} (hi : Ev Φ G it st vi st₁) (hs : Items vi (rs.map g)) (he : ∀ r ∈ rs, Ev Φ G elt (st₁.set x (g r)) (q r) (st₁.set x (g r))) (n : New (rs.map q) st₁ v st') : Ev Φ G (.comp elt x it) st v st' :=
  fun _ X qq => hi _ X ⟨_, hs, compA g (fun _ => true) q rs [] (fun r hr K' hK => he r hr _ _ hK) (by rw [List.filter_eq_self.mpr fun _ _ => rfl]; exact n.w qq)⟩

section
variable {ss tt ff bb : Ss} {Q : Flow → St → Prop} {X : String → St → Prop}
theorem and_next {K : St → Prop} (h : K st) : andThen K Q .next st := .inl ⟨rfl, h⟩
theorem and_ret {K : St → Prop} (h : Q (.ret v) st) : andThen K Q (.ret v) st := .inr ⟨fun e => Flow.noConfusion e, h⟩
theorem s_nil (h : Q .next st) : wSs Φ G .nil st Q X := h
theorem s_asg (h : Ev Φ G e st v st₁) (w : wSs Φ G ss (st₁.set x v) Q X) : wSs Φ G (.cons (.asg x e) ss) st Q X := h _ _ (and_next w)
theorem s_ex (h : Ev Φ G e st v st₁) (w : wSs Φ G ss st₁ Q X) : wSs Φ G (.cons (.ex e) ss) st Q X := h _ _ (and_next w)
theorem s_ret (h : Ev Φ G e st v st₁) (w : Q (.ret v) st₁) : wSs Φ G (.cons (.ret e) ss) st Q X := h _ _ (and_ret w)
theorem s_ift (h : Ev Φ G c st (.bool true) st₁) (w : wSs Φ G tt st₁ (andThen (fun st => wSs Φ G ss st Q X) Q) X) : wSs Φ G (.cons (.ite c tt ff) ss) st Q X := h _ _ ⟨true, rfl, .inl ⟨rfl, w⟩⟩
theorem s_iff (h : Ev Φ G c st (.bool false) st₁) (w : wSs Φ G ff st₁ (andThen (fun st => wSs Φ G ss st Q X) Q) X) : wSs Φ G (.cons (.ite c tt ff) ss) st Q X := h _ _ ⟨false, rfl, .inr ⟨rfl, w⟩⟩
theorem s_skip (h : Ev Φ G c st (.bool false) st₁) (w : wSs Φ G ss st₁ Q X) : wSs Φ G (.cons (.ite c tt .nil) ss) st Q X := s_iff h (show andThen (fun st => wSs Φ G ss st Q X) Q .next st₁ from and_next w)
theorem forL_inv {f : V → St → (Flow → St → Prop) → Prop} (items : List V) : ∀ (J : Nat → St → Prop) (st : St), J 0 st →
    (∀ i v st, items[i]? = some v → J i st → ∀ Q' : Flow → St → Prop, (∀ st', J (i + 1) st' → Q' .next st' ∧ Q' .cont st') → f v st Q') → (∀ st, J items.length st → Q .next st) → forL f items st Q := by
  induction items with
  | nil => exact fun J st h0 _ fin => fin st h0
  | cons v r ih => exact fun J st h0 step fin => step 0 v st rfl h0 _ fun st' h' =>
      have go := ih (fun i => J (i + 1)) st' h' (fun i u st hu hj => step (i + 1) u st hu hj) fun st h => fin st h
      ⟨.inl ⟨rfl, go⟩, .inr (.inl ⟨rfl, go⟩)⟩
theorem s_for {items : List V} (J : Nat → St → Prop) (h : Ev Φ G it st vi st₁) (hs : Items vi items) (h0 : J 0 st₁)
    (step : ∀ i v st, items[i]? = some v → J i st → ∀ Q' : Flow → St → Prop, (∀ st', J (i + 1) st' → Q' .next st' ∧ Q' .cont st') → wSs Φ G bb (st.set x v) Q' noX) (w : ∀ st, J items.length st → wSs Φ G ss st Q X) : wSs Φ G (.cons (.for_ x it bb) ss) st Q X :=
  h _ _ (.inl ⟨items, hs, forL_inv items J _ h0 step fun st h => and_next (w st h)⟩)
theorem s_forL {items : List V} {j : Nat} (J : Nat → St → Prop) (h : Ev Φ G it st (.loc j) st₁) (hs : st₁.H[j]? = some (.list items)) (h0 : J 0 ⟨st₁.s, st₁.H.set j .dead⟩) --#itLoc
    (step : ∀ i v st, items[i]? = some v → J i st → ∀ Q' : Flow → St → Prop, (∀ st', J (i + 1) st' → Q' .next st' ∧ Q' .cont st') → wSs Φ G bb (st.set x v) Q' noX) (hd : ∀ st, J items.length st → st.H[j]? = some .dead) --#itLoc
    (w : ∀ st, J items.length st → wSs Φ G ss ⟨st.s, st.H.set j (.list items)⟩ Q X) : wSs Φ G (.cons (.for_ x it bb) ss) st Q X := --#itLoc
  h _ _ (.inr (.inl ⟨j, items, rfl, hs, forL_inv items J _ h0 step fun st h => ⟨hd st h, and_next (w st h)⟩⟩)) --#itLoc
end
end
end
end Mine
set_option autoImplicit false
set_option genInjectivity false
set_option genSizeOf false
namespace Mine
noncomputable section
open PySem

noncomputable def b_law_whole : Ss :=
  (.cons (.ret (.and (.cons (.isi (.var "_law_found") "int") (.cons (.not (.isi (.var "_law_found") "bool")) .nil))))
  .nil)
noncomputable def b_law_cell_at : Ss :=
  (.cons (.ite (.cmp .Lt (.var "_law_k") (.blt .len (.cons (.var "_law_script") .nil))) (.cons (.ret (.idx (.var "_law_script") (.var "_law_k")))
  .nil) .nil)
  (.cons (.ret (.int 0))
  .nil))
section
variable {Φ : Orc} {G : String → Option V} {st st' st₁ st₂ : St} {a b e : E} {es : Es} {va vb : V} {x : String} {op : CmpOp} {r r' : Bool} {C : Cx} {k : Nat} {H : List HO}
theorem ev_cmpE (h₁ : Ev Φ G a st va st₁) (h₂ : Ev Φ G b st₁ vb st₂) (h : Cmp st₂.H op va vb r) (e : r = r') : Ev Φ G (.cmp op a b) st (.bool r') st₂ := e ▸ ev_cmp h₁ h₂ h
theorem ev_as {v v' : V} (h : Ev Φ G e st v st₁) (q : v = v') : Ev Φ G e st v' st₁ := q ▸ h
theorem items_rng {n : Nat} (h : n ≤ 1000000) : Items (.rng 0 n 1) ((List.range n).map fun i : Nat => V.int i) := by
  have e : (rngItems 0 n 1).map V.int = (List.range n).map fun i : Nat => V.int i := by
    rw [rngItems, List.map_map, show (((n : Int) - 0 + 1 - 1) / 1).toNat = n by rw [Int.sub_zero, Int.add_sub_cancel, Int.ediv_one, Int.toNat_natCast]]
    refine List.map_congr_left fun i _ => ?_
    show V.int (0 + 1 * (i : Int)) = _
    rw [Int.one_mul, Int.zero_add]
  rw [← e]
  exact .rng (by decide) (by decide) ⟨Int.le_trans (by decide) (Int.natCast_nonneg n), Int.ofNat_le.mpr h⟩
theorem get_rng {n i : Nat} {v : V} (h : ((List.range n).map fun i : Nat => V.int (i : Int))[i]? = some v) : i < n ∧ v = .int i := by
  rw [List.getElem?_map] at h
  obtain ⟨j, h1, rfl⟩ := Option.map_eq_some_iff.mp h
  obtain ⟨h2, rfl⟩ := List.getElem?_eq_some_iff.mp h1
  rw [List.length_range] at h2
  exact ⟨h2, by rw [List.getElem_range]⟩
/-- what a pure call leaves -/
theorem fin_pure {v : V} {st : St} (h : st.H = H) (l : low H.length v) : retOf (.ret v) = v ∧ low H.length v ∧ st.H.take H.length = H := ⟨rfl, l, by rw [h, List.take_length]⟩
theorem eqB_int (a b : Int) : eqB (.int a) (.int b) = decide (a = b) := rfl
theorem ne_self {a : Int} : (!eqB (.int a) (.int a)) = false := by rw [eqB_int, decide_eq_true rfl]; rfl
theorem eqB_str (a : List Nat) : eqB (.str a) (.str a) = true := by
  show ((⟨a.toArray⟩ : Str) == ⟨a.toArray⟩) = true
  exact beq_self_eq_true _
theorem cmp_ne_int {a b : Int} : Cmp H .NotEq (.int a) (.int b) (!eqB (.int a) (.int b)) := .ne (.self _) (.self _) rfl rfl

theorem c_whole (F : FnOk C "_law_whole" ["_law_found"] b_law_whole) (n : Int) : Calls C (k + 1) "_law_whole" [.int n] H (.ok (.bool true)) H :=
  call_pure F rfl (s_ret (ev_and (and_t (ev_isi (ev_var rfl) (.int _) rfl) (and_t (ev_nf (ev_isi (ev_var rfl) (.int _) rfl)) and_nil))) (fin_pure rfl trivial))
theorem c_cell_at (F : FnOk C "_law_cell_at" ["_law_script", "_law_k"] b_law_cell_at) (ns : List Int) (j : Nat) : Calls C (k + 1) "_law_cell_at" [.lst (ns.map .int), .int j] H (.ok (.int (ns.getD j 0))) H := by
  refine call_pure F rfl ?_
  by_cases h : j < ns.length
  · refine s_ift (ev_cmpE (ev_var rfl) (ev_blt (evs1 (ev_var rfl)) (.len (.seq (.lst _)))) (.lt _ _) (decide_eq_true (by rw [List.length_map]; exact Int.ofNat_lt.mpr h))) (s_ret (ev_idx (ev_var rfl) (ev_var rfl) (.seq (.lst _) (Int.natCast_nonneg j) ?_)) (and_ret (fin_pure rfl trivial)))
    rw [Int.toNat_natCast, List.getElem?_map, List.getD_eq_getElem?_getD, List.getElem?_eq_getElem h]; rfl
  · refine s_skip (ev_cmpE (ev_var rfl) (ev_blt (evs1 (ev_var rfl)) (.len (.seq (.lst _)))) (.lt _ _) (decide_eq_false (by rw [List.length_map]; exact fun q => h (Int.ofNat_lt.mp q)))) (s_ret (ev_as ev_int ?_) (fin_pure rfl trivial))
    rw [List.getD_eq_getElem?_getD, List.getElem?_eq_none (Nat.le_of_not_lt h)]; rfl

/-- a thing: its name and its value -/
noncomputable def pr (t : Int × Int) : V := .tup [.int t.1, .int t.2]
theorem lows_prs (n : Nat) : ∀ ts : List (Int × Int), lows n (ts.map pr)
  | [] => trivial
  | _ :: r => ⟨⟨trivial, trivial, trivial⟩, lows_prs n r⟩
theorem lows_ints (n : Nat) : ∀ ts : List Int, lows n (ts.map .int)
  | [] => trivial
  | _ :: r => ⟨trivial, lows_ints n r⟩
theorem pr_name {t : Int × Int} : Idx H (pr t) (.int 0) (.int t.1) := .tup (by decide) rfl
theorem pr_value {t : Int × Int} : Idx H (pr t) (.int 1) (.int t.2) := .tup (by decide) rfl
theorem at_prs {v : V} {ts : List (Int × Int)} (h : View H v (ts.map pr)) {i : Nat} (hi : i < ts.length) : Idx H v (.int i) (pr ts[i]) :=
  .seq h (Int.natCast_nonneg i) (by rw [Int.toNat_natCast, List.getElem?_map, List.getElem?_eq_getElem hi]; rfl)

end
end
end Mine
set_option autoImplicit false
set_option genInjectivity false
set_option genSizeOf false
namespace Mine
noncomputable section
open PySem

noncomputable def b_with_thing : Ss :=
  (.cons (.asg "ahead" (.compIf (.var "thing") "thing" (.var "things") (.cmp .Lt (.idx (.var "thing") (.int 0)) (.var "name"))))
  (.cons (.ret (.bin .Add (.bin .Add (.var "ahead") (.list (.cons (.tup (.cons (.var "name") (.cons (.var "value") .nil))) .nil))) (.compIf (.var "thing") "thing" (.var "things") (.cmp .Gt (.idx (.var "thing") (.int 0)) (.var "name")))))
  .nil))
noncomputable def b_joined : Ss :=
  (.cons (.asg "things" (.blt .list (.cons (.idx (.var "one") (.int 1)) .nil)))
  (.cons (.for_ "thing" (.idx (.var "other") (.int 1)) (.cons (.asg "things" (.call "with_thing" (.cons (.var "things") (.cons (.idx (.var "thing") (.int 0)) (.cons (.idx (.var "thing") (.int 1)) .nil)))))
  .nil))
  (.cons (.ret (.tup (.cons (.slc (.idx (.var "one") (.int 0)) .omit (.neg (.int 1))) (.cons (.var "things") .nil))))
  .nil)))

section
variable {C : Cx} {k : Nat} {H : List HO}
noncomputable def withT (ts : List (Int × Int)) (n v : Int) : List (Int × Int) := ts.filter (fun t => decide (t.1 < n)) ++ [(n, v)] ++ ts.filter (fun t => decide (n < t.1))
theorem withT_len (ts : List (Int × Int)) (n v : Int) : (withT ts n v).length ≤ ts.length + 1 := by
  rw [withT, List.length_append, List.length_append, List.length_singleton]
  induction ts with
  | nil => exact Nat.le_refl _
  | cons t ts ih =>
    rw [List.filter_cons, List.filter_cons]
    by_cases h : t.1 < n
    · rw [if_pos (decide_eq_true h), if_neg (by rw [decide_eq_false (Int.not_lt.mpr (Int.le_of_lt h))]; exact Bool.false_ne_true)]
      rw [List.length_cons, List.length_cons]; omega
    · rw [if_neg (by rw [decide_eq_false h]; exact Bool.false_ne_true), List.length_cons]
      split
      · rw [List.length_cons]; omega
      · omega
section
variable {Q : Flow → St → Prop}
theorem with_body (ts : List (Int × Int)) (n v : Int) (hl : ts.length ≤ 1000000) {u : V} {st' : St}
    (nw : New ((withT ts n v).map pr) ((St.mk (bindV ["things", "name", "value"] [.lst (ts.map pr), .int n, .int v]) H).set "ahead" (.lst ((ts.filter fun t => decide (t.1 < n)).map pr))) u st') (hQ : Q (.ret u) st') :
    wSs (Calls C k) C.glo b_with_thing ⟨bindV ["things", "name", "value"] [.lst (ts.map pr), .int n, .int v], H⟩ Q noX := by
  have l1 := List.length_filter_le (fun t : Int × Int => decide (t.1 < n)) ts
  have l2 := List.length_filter_le (fun t : Int × Int => decide (n < t.1)) ts
  rw [withT, List.map_append, List.map_append] at nw
  refine s_asg (ev_compIf (g := pr) (q := pr) (p := fun t => decide (t.1 < n)) (rs := ts) (ev_var rfl) (.lst _) (fun t _ => ev_cmp (ev_idx (ev_var rfl) ev_int pr_name) (ev_var rfl) (.lt _ _)) (fun t _ _ => ev_var rfl) .lst) ?_
  refine s_ret (ev_cat (ev_cat (ev_var rfl) (ev_list (evs1 (ev_tup (evs2 (ev_var rfl) (ev_var rfl)))) .lst) (.lst _) (.lst _) ?_ .lst)
    (ev_compIf (g := pr) (q := pr) (p := fun t => decide (n < t.1)) (rs := ts) (ev_var rfl) (.lst _) (fun t _ => ev_cmp (ev_idx (ev_var rfl) ev_int pr_name) (ev_var rfl) (.gt _ _)) (fun t _ _ => ev_var rfl) .lst) (.lst _) (.lst _) ?_ nw) hQ
  · rw [List.length_map, List.length_singleton]; omega
  · rw [List.length_append, List.length_map, List.length_singleton, List.length_map]; omega
end
theorem c_with (F : FnOk C "with_thing" ["things", "name", "value"] b_with_thing) (ts : List (Int × Int)) (n v : Int) (hl : ts.length ≤ 1000000) :
    Calls C (k + 1) "with_thing" [.lst (ts.map pr), .int n, .int v] H (.ok (.lst ((withT ts n v).map pr))) H := call_pure F rfl (with_body ts n v hl .lst (fin_pure rfl (lows_prs _ _)))
noncomputable def joinT (ts us : List (Int × Int)) : List (Int × Int) := us.foldl (fun acc t => withT acc t.1 t.2) ts
theorem joinT_len (us : List (Int × Int)) : ∀ ts : List (Int × Int), (joinT ts us).length ≤ ts.length + us.length := by
  induction us with
  | nil => exact fun ts => Nat.le_refl _
  | cons u us ih =>
    intro ts
    have h1 := ih (withT ts u.1 u.2)
    have h2 := withT_len ts u.1 u.2
    rw [List.length_cons]
    exact Nat.le_trans h1 (by omega)
theorem joinT_take (ts us : List (Int × Int)) {i : Nat} (h : i < us.length) : joinT ts (us.take (i + 1)) = withT (joinT ts (us.take i)) us[i].1 us[i].2 := by
  rw [joinT, List.take_succ_eq_append_getElem h, List.foldl_append]; rfl
theorem slc_last (cs : List Nat) (c : Nat) : slice (cs ++ [c]) (loOf (cs ++ [c]).length none) (hiOf (cs ++ [c]).length (some (-1))) = cs := by
  rw [List.length_append, List.length_singleton]
  show ((cs ++ [c]).take (cut (cs.length + 1) (-1))).drop 0 = cs
  rw [List.drop_zero, cut, if_pos (by decide), show (-1 + ((cs.length + 1 : Nat) : Int)).toNat = cs.length by omega, List.take_left]

section
variable (H) (ts us : List (Int × Int))
end
end
end
end Mine
set_option autoImplicit false
set_option genInjectivity false
set_option genSizeOf false
namespace Mine
noncomputable section
open PySem

noncomputable def b_law_signs : Ss :=
  (.cons (.asg "_law_left" (.bin .Mod (.bin .Add (.bin .Mult (.int 171) (.var "_law_name")) (.int 37)) (.int 256)))
  (.cons (.asg "_law_found" (.str []))
  (.cons (.for_ "_law_worth" (.list (.cons (.int 128) (.cons (.int 64) (.cons (.int 32) (.cons (.int 16) (.cons (.int 8) (.cons (.int 4) (.cons (.int 2) (.cons (.int 1) .nil))))))))) (.cons (.asg "_law_found" (.bin .Add (.var "_law_found") (.blt .str (.cons (.blt .int (.cons (.cmp .GtE (.var "_law_left") (.var "_law_worth")) .nil)) .nil))))
  (.cons (.asg "_law_left" (.bin .Sub (.var "_law_left") (.bin .Mult (.var "_law_worth") (.blt .int (.cons (.cmp .GtE (.var "_law_left") (.var "_law_worth")) .nil)))))
  .nil)))
  (.cons (.ret (.var "_law_found"))
  .nil))))
noncomputable def b_law_known : Ss :=
  (.cons (.asg "_law_low" (.int 0))
  (.cons (.for_ "_law_k" (.blt .range (.cons (.int 8) .nil)) (.cons (.asg "_law_low" (.bin .Add (.bin .Mult (.int 2) (.var "_law_low")) (.blt .int (.cons (.cmp .Eq (.slc (.var "_law_bits") (.var "_law_k") (.bin .Add (.var "_law_k") (.int 1))) (.str [49])) .nil))))
  .nil))
  (.cons (.asg "_law_many" (.idx (.list (.cons (.int 256) (.cons (.int 128) (.cons (.int 64) (.cons (.int 32) (.cons (.int 16) (.cons (.int 8) (.cons (.int 4) (.cons (.int 2) (.cons (.int 1) .nil)))))))))) (.blt .len (.cons (.var "_law_bits") .nil))))
  (.cons (.ret (.blt .sorted (.cons (.comp (.bin .Mod (.bin .Mult (.bin .Sub (.bin .Add (.var "_law_low") (.var "_law_j")) (.int 37)) (.int 3)) (.int 256)) "_law_j" (.blt .range (.cons (.var "_law_many") .nil))) .nil)))
  .nil))))
section
variable {C : Cx} {k : Nat} {H : List HO}
noncomputable def bit (b : Bool) : Nat := bif b then 49 else 48
noncomputable def b01 (b : Bool) : Int := if b then 1 else 0
noncomputable def sgStep (p : Int × List Nat) (w : Int) : Int × List Nat := (p.1 - w * b01 (decide (w ≤ p.1)), p.2 ++ [bit (decide (w ≤ p.1))])
noncomputable def worths : List Int := [128, 64, 32, 16, 8, 4, 2, 1]
noncomputable def sgAt (m : Int) (i : Nat) : Int × List Nat := (worths.take i).foldl sgStep (m, [])
noncomputable def sgn (n : Int) : List Nat := (sgAt ((171 * n + 37) % 256) 8).2
theorem sgStep_ok (ws : List Int) : ∀ p : Int × List Nat, (∀ c ∈ p.2, c = 48 ∨ c = 49) → (ws.foldl sgStep p).2.length = p.2.length + ws.length ∧ ∀ c ∈ (ws.foldl sgStep p).2, c = 48 ∨ c = 49 := by
  induction ws with
  | nil => exact fun p h => ⟨rfl, h⟩
  | cons w ws ih =>
    intro p h
    obtain ⟨h1, h2⟩ := ih (sgStep p w) fun c hc => by
      rcases List.mem_append.mp hc with hc | hc
      · exact h c hc
      · rw [List.mem_singleton.mp hc]
        cases decide (w ≤ p.1)
        · exact .inl rfl
        · exact .inr rfl
    refine ⟨?_, h2⟩
    rw [List.foldl_cons, h1, sgStep, List.length_append, List.length_singleton, List.length_cons, Nat.add_assoc, Nat.add_comm 1]
theorem sgAt_ok (m : Int) (i : Nat) (h : i ≤ 8) : (sgAt m i).2.length = i ∧ ∀ c ∈ (sgAt m i).2, c = 48 ∨ c = 49 := by
  obtain ⟨h1, h2⟩ := sgStep_ok (worths.take i) (m, []) fun c hc => by cases hc
  refine ⟨?_, h2⟩
  rw [sgAt, h1, List.length_take, Nat.min_eq_left (show i ≤ worths.length from h)]; exact Nat.zero_add i
theorem digits_b01 (b : Bool) : digits (b01 b) = [bit b] := by cases b <;> decide
theorem b01_small (b : Bool) : (b01 b).natAbs < 2 ^ 63 := by cases b <;> decide
theorem b01_small' (b : Bool) : (b01 b).natAbs < 10 ^ 100 := by cases b <;> decide
theorem c_signs (F : FnOk C "_law_signs" ["_law_name"] b_law_signs) (n : Int) : Calls C (k + 1) "_law_signs" [.int n] H (.ok (.str (sgn n))) H := by
  refine call_pure F rfl (s_asg (ev_bin (ev_bin (ev_bin ev_int (ev_var rfl) (.mul (.inl (by decide)))) ev_int (.add _ _)) ev_int (.mod (by decide))) (s_asg ev_str ?_))
  refine s_for (items := worths.map .int) (fun i st => st.H = H ∧ st.s "_law_left" = some (.int (sgAt ((171 * n + 37) % 256) i).1) ∧ st.s "_law_found" = some (.str (sgAt ((171 * n + 37) % 256) i).2))
    (ev_list (evs_cons ev_int (evs_cons ev_int (evs_cons ev_int (evs_cons ev_int (evs_cons ev_int (evs_cons ev_int (evs_cons ev_int (evs1 ev_int)))))))) .lst) (.lst _) ⟨rfl, rfl, rfl⟩ ?_ fun st e => s_ret (ev_var e.2.2) (fin_pure e.1 trivial)
  rintro i w ⟨s, H'⟩ hw ⟨e1, e2, e3⟩ Q' hQ
  have e1 : H' = H := e1
  subst e1
  rw [List.getElem?_map] at hw
  obtain ⟨w, hw', rfl⟩ := Option.map_eq_some_iff.mp hw
  clear hw
  obtain ⟨hi, hw⟩ := List.getElem?_eq_some_iff.mp hw'
  have hi : i < 8 := hi
  have en : sgAt ((171 * n + 37) % 256) (i + 1) = sgStep (sgAt ((171 * n + 37) % 256) i) w := by
    rw [sgAt, List.take_succ_eq_append_getElem (show i < worths.length from hi), List.foldl_append, hw]; rfl
  have hl := (sgAt_ok ((171 * n + 37) % 256) i (Nat.le_of_lt hi)).1
  generalize sgAt ((171 * n + 37) % 256) (i + 1) = p' at en hQ
  subst en
  generalize sgAt ((171 * n + 37) % 256) i = p at e2 e3 hl hQ
  have hd := digits_b01 (decide (w ≤ p.1))
  refine s_asg (ev_bin (ev_var (by exact e3)) (ev_blt (evs1 (ev_blt (evs1 (ev_cmp (ev_var (by exact e2)) (ev_var rfl) (.ge _ _))) (.int _))) (.str (b01_small' _))) (.cat ?_)) ?_
  · show _ + (digits (b01 (decide (w ≤ p.1)))).length ≤ _
    rw [hd, hl, List.length_singleton]; omega
  · refine s_asg (ev_bin (ev_var (by exact e2)) (ev_bin (ev_var rfl) (ev_blt (evs1 (ev_cmp (ev_var (by exact e2)) (ev_var rfl) (.ge _ _))) (.int _)) (.mul (.inr (b01_small _)))) (.sub _ _)) (s_nil (hQ _ ⟨rfl, rfl, ?_⟩).1)
    show some (V.str (p.2 ++ digits (b01 (decide (w ≤ p.1))))) = _
    rw [hd]; rfl

/-- the first signs as a number of eight -/
noncomputable def lowN (cs : List Nat) : Nat → Nat
  | 0 => 0
  | i + 1 => 2 * lowN cs i + (if cs[i]? = some 49 then 1 else 0)
noncomputable def knV (cs : List Nat) : List Int := ((List.range (2 ^ (8 - cs.length))).map fun j : Nat => ((lowN cs 8 : Nat) + (j : Int) - 37) * 3 % 256).mergeSort fun a b => decide (a ≤ b)
theorem eqB_strs (a b : List Nat) : eqB (.str a) (.str b) = decide (a = b) := by
  show ((⟨a.toArray⟩ : Str) == ⟨b.toArray⟩) = _
  rw [Bool.eq_iff_iff, beq_iff_eq, decide_eq_true_eq]
  constructor
  · intro h
    have h : a.toArray = b.toArray := congrArg Str.cps h
    exact congrArg Array.toList h
  · rintro rfl; rfl
theorem slc_one (cs : List Nat) (i : Nat) : slice cs (loOf cs.length (some (i : Int))) (hiOf cs.length (some ((i : Int) + 1))) = cs[i]?.toList := by
  show (cs.take (cut cs.length ((i : Int) + 1))).drop (cut cs.length i) = _
  rw [cut, cut, if_neg (by omega), if_neg (by omega), show ((i : Int) + 1).toNat = i + 1 by omega, Int.toNat_natCast]
  by_cases h : i < cs.length
  · rw [Nat.min_eq_left h, Nat.min_eq_left (Nat.le_of_lt h), List.take_succ_eq_append_getElem h, List.drop_left' (by rw [List.length_take, Nat.min_eq_left (Nat.le_of_lt h)]), List.getElem?_eq_getElem h]; rfl
  · rw [Nat.min_eq_right (by omega), Nat.min_eq_right (by omega), List.take_length, List.drop_length, List.getElem?_eq_none (by omega)]; rfl
theorem many_at : ∀ n : Nat, n < 9 → ([256, 128, 64, 32, 16, 8, 4, 2, 1] : List Int)[n]? = some ((2 ^ (8 - n) : Nat) : Int) := by decide
theorem pow_le8 (n : Nat) : 2 ^ (8 - n) ≤ 1000000 := Nat.le_trans (Nat.pow_le_pow_right (by decide) (Nat.sub_le 8 n)) (by decide)
theorem sort_ints (l : List Int) : ((l.mergeSort fun a b => decide (a ≤ b)).map V.int).Perm (l.map V.int) ∧ ((l.mergeSort fun a b => decide (a ≤ b)).map V.int).Pairwise fun a b => leV a b = true :=
  ⟨(List.mergeSort_perm l _).map _, List.pairwise_map.mpr (List.pairwise_mergeSort (le := fun a b : Int => decide (a ≤ b)) (fun a b c h1 h2 => decide_eq_true (Int.le_trans (of_decide_eq_true h1) (of_decide_eq_true h2))) (fun a b => by
    rcases Int.le_total a b with h | h
    · rw [decide_eq_true h]; rfl
    · rw [decide_eq_true h, Bool.or_true]) l)⟩
theorem c_known (F : FnOk C "_law_known" ["_law_bits"] b_law_known) (cs : List Nat) (hl : cs.length ≤ 8) : Calls C (k + 1) "_law_known" [.str cs] H (.ok (.lst ((knV cs).map .int))) H := by
  refine call_pure F rfl (s_asg ev_int ?_)
  refine s_for (fun i st => st.H = H ∧ st.s "_law_bits" = some (.str cs) ∧ st.s "_law_low" = some (.int (lowN cs i : Nat))) (ev_blt (evs1 ev_int) (.range1 _)) (items_rng (n := 8) (by decide)) ⟨rfl, rfl, rfl⟩ ?_ ?_
  · rintro i w ⟨s, H'⟩ hw ⟨e1, e2, e3⟩ Q' hQ
    have e1 : H' = H := e1
    subst e1
    obtain ⟨hi, rfl⟩ := get_rng hw
    have e : eqB (.str (slice cs (loOf cs.length (some (i : Int))) (hiOf cs.length (some ((i : Int) + 1))))) (.str [49]) = decide (cs[i]? = some 49) := by
      rw [slc_one, eqB_strs, Bool.eq_iff_iff, decide_eq_true_eq, decide_eq_true_eq]
      cases cs[i]? with
      | none => exact ⟨fun h => (by cases h), fun h => (by cases h)⟩
      | some c => exact ⟨fun h => (by cases h; rfl), fun h => (by cases h; rfl)⟩
    have e4 : some (V.int (2 * ((lowN cs i : Nat) : Int) + b01 (decide (cs[i]? = some 49)))) = some (V.int (lowN cs (i + 1) : Nat)) := by
      rw [lowN]
      by_cases h : cs[i]? = some 49
      · rw [if_pos h, decide_eq_true h]; rfl
      · rw [if_neg h, decide_eq_false h]; rfl
    refine s_asg (ev_bin (ev_bin ev_int (ev_var (by exact e3)) (.mul (.inl (by decide)))) (ev_blt (evs1 (ev_cmpE (ev_slc11 (ev_var (by exact e2)) rfl (ev_var rfl) rfl (ev_bin (ev_var rfl) ev_int (.add _ _)) (.str cs)) ev_str (.eq (.self _) (.self _) rfl rfl) e)) (.int _)) (.add _ _)) (s_nil (hQ _ (by exact ⟨rfl, e2, e4⟩)).1)
  · rintro ⟨s, H'⟩ ⟨e1, e2, e3⟩
    have e1 : H' = H := e1
    subst e1
    have e3 : s "_law_low" = some (.int (lowN cs 8 : Nat)) := e3
    have hm : ([256, 128, 64, 32, 16, 8, 4, 2, 1].map V.int)[((cs.length : Nat) : Int).toNat]? = some (.int (2 ^ (8 - cs.length) : Nat)) := by
      rw [Int.toNat_natCast, List.getElem?_map, many_at _ (Nat.lt_succ_of_le hl)]; rfl
    obtain ⟨p1, p2⟩ := sort_ints ((List.range (2 ^ (8 - cs.length))).map fun j : Nat => ((lowN cs 8 : Nat) + (j : Int) - 37) * 3 % 256)
    refine s_asg (ev_idx (ev_list (evs_cons ev_int (evs_cons ev_int (evs_cons ev_int (evs_cons ev_int (evs_cons ev_int (evs_cons ev_int (evs_cons ev_int (evs_cons ev_int (evs1 ev_int))))))))) .lst) (ev_blt (evs1 (ev_var (by exact e2))) (.len (.str _))) (.seq (.lst _) (Int.natCast_nonneg _) hm)) ?_
    refine s_ret (ev_bltL (evs1 (ev_comp (g := fun j : Nat => V.int j) (q := fun j : Nat => .int (((lowN cs 8 : Nat) + (j : Int) - 37) * 3 % 256)) (rs := List.range (2 ^ (8 - cs.length))) (ev_blt (evs1 (ev_var rfl)) (.range1 _)) (items_rng (pow_le8 _))
      (fun j _ => ev_bin (ev_bin (ev_bin (ev_bin (ev_var (by exact e3)) (ev_var rfl) (.add _ _)) ev_int (.sub _ _)) ev_int (.mul (.inr (by decide)))) ev_int (.mod (by decide))) .lst)) (.sorted (.lst _) (.nums fun v hv => ?_) ?_ (p1.trans ?_) p2) .lst) (fin_pure rfl (lows_ints _ _))
    · obtain ⟨j, _, rfl⟩ := List.mem_map.mp hv; exact ⟨_, rfl⟩
    · rw [List.length_map, List.length_range]; exact pow_le8 _
    · rw [List.map_map]; exact .refl _

theorem slc_take {α : Type} (xs : List α) (n : Nat) : slice xs (loOf xs.length none) (hiOf xs.length (some (n : Int))) = xs.take n := by
  show (xs.take (cut xs.length n)).drop 0 = _
  rw [List.drop_zero, cut, if_neg (by omega), Int.toNat_natCast]
  by_cases h : n ≤ xs.length
  · rw [Nat.min_eq_left h]
  · rw [Nat.min_eq_right (by omega), List.take_length, List.take_of_length_le (by omega)]
end
end
end Mine
set_option autoImplicit false
set_option genInjectivity false
set_option genSizeOf false
namespace Mine
noncomputable section
open PySem


/-- names rising -/
abbrev Up (ts : List (Int × Int)) : Prop := ts.Pairwise fun a b => a.1 < b.1
theorem withT_up {ts : List (Int × Int)} (h : Up ts) (n v : Int) : Up (withT ts n v) := by
  have f1 : ∀ t ∈ ts.filter (fun t => decide (t.1 < n)), t.1 < n := fun t ht => of_decide_eq_true (List.mem_filter.mp ht).2
  have f2 : ∀ t ∈ ts.filter (fun t => decide (n < t.1)), n < t.1 := fun t ht => of_decide_eq_true (List.mem_filter.mp ht).2
  refine List.pairwise_append.mpr ⟨List.pairwise_append.mpr ⟨h.filter _, List.pairwise_singleton _ _, fun a ha b hb => ?_⟩, h.filter _, fun a ha b hb => ?_⟩
  · rw [List.mem_singleton.mp hb]; exact f1 a ha
  · rcases List.mem_append.mp ha with ha | ha
    · exact Int.lt_trans (f1 a ha) (f2 b hb)
    · rw [List.mem_singleton.mp ha]; exact f2 b hb
theorem withT_perm {ts : List (Int × Int)} {n v : Int} (h : ∀ t ∈ ts, t.1 ≠ n) : (withT ts n v).Perm (ts ++ [(n, v)]) := by
  have key : (ts.filter (fun t => decide (t.1 < n)) ++ ts.filter (fun t => decide (n < t.1))).Perm ts := by
    have e : ts.filter (fun t => decide (n < t.1)) = ts.filter (fun t => !decide (t.1 < n)) := List.filter_congr fun t ht => by
      have := h t ht
      by_cases q : t.1 < n
      · rw [decide_eq_true q, decide_eq_false (Int.not_lt.mpr (Int.le_of_lt q))]; rfl
      · rw [decide_eq_false q, decide_eq_true (by omega)]; rfl
    rw [e]; exact List.filter_append_perm _ _
  rw [withT, List.append_assoc]
  refine (List.Perm.append_left _ List.perm_append_comm).trans ?_
  rw [← List.append_assoc]
  exact key.append_right _
theorem join_ok (us : List (Int × Int)) : ∀ ts : List (Int × Int), Up ts → (∀ u ∈ us, ∀ t ∈ ts, t.1 ≠ u.1) → us.Pairwise (fun a b => a.1 ≠ b.1) → Up (joinT ts us) ∧ (joinT ts us).Perm (ts ++ us) := by
  induction us with
  | nil => exact fun ts h _ _ => ⟨h, by rw [List.append_nil]; exact .refl _⟩
  | cons u us ih =>
    intro ts h1 h2 h3
    have pw := withT_perm (v := u.2) (h2 u List.mem_cons_self)
    obtain ⟨h4, h5⟩ := ih (withT ts u.1 u.2) (withT_up h1 _ _) (fun w hw t ht => by
      rcases List.mem_append.mp (pw.subset ht) with q | q
      · exact h2 w (List.mem_cons_of_mem _ hw) t q
      · rw [List.mem_singleton.mp q]; exact (List.pairwise_cons.mp h3).1 w hw) (List.pairwise_cons.mp h3).2
    refine ⟨h4, h5.trans ?_⟩
    have := pw.append_right us
    rw [List.append_assoc] at this
    exact this
theorem lowN_past (cs : List Nat) : ∀ d, lowN cs (cs.length + d) = lowN cs cs.length * 2 ^ d
  | 0 => by rw [Nat.add_zero, Nat.pow_zero, Nat.mul_one]
  | d + 1 => by
    rw [← Nat.add_assoc, lowN, lowN_past cs d, List.getElem?_eq_none (by omega), if_neg (by intro h; cases h), Nat.add_zero, Nat.pow_succ, Nat.mul_comm 2, Nat.mul_assoc]
theorem lowN_lt (cs : List Nat) : ∀ i, lowN cs i + 1 ≤ 2 ^ i
  | 0 => Nat.le_refl _
  | i + 1 => by
    have := lowN_lt cs i
    rw [lowN, Nat.pow_succ]
    split <;> omega
theorem mem_kn {cs : List Nat} {n : Int} : n ∈ knV cs ↔ ∃ j : Nat, j < 2 ^ (8 - cs.length) ∧ n = ((lowN cs 8 : Nat) + (j : Int) - 37) * 3 % 256 := by
  rw [knV, (List.mergeSort_perm _ _).mem_iff, List.mem_map]
  constructor
  · rintro ⟨j, h1, rfl⟩; exact ⟨j, List.mem_range.mp h1, rfl⟩
  · rintro ⟨j, h1, rfl⟩; exact ⟨j, List.mem_range.mpr h1, rfl⟩
theorem mix_inj {a b : Int} (h0 : 0 ≤ a) (h1 : a < 256) (h2 : 0 ≤ b) (h3 : b < 256) (e : (a - 37) * 3 % 256 = (b - 37) * 3 % 256) : a = b := by omega
theorem up_kn {cs : List Nat} (h : lowN cs 8 + 2 ^ (8 - cs.length) ≤ 256) : (knV cs).Pairwise fun a b => a < b := by
  have nd : (knV cs).Nodup := by
    refine (List.mergeSort_perm _ _).nodup_iff.mpr (List.pairwise_map.mpr ?_)
    refine List.Pairwise.imp_of_mem (R := fun a b => a ≠ b) (fun {a b} ha hb ne e => ne ?_) List.nodup_range
    have ha := List.mem_range.mp ha
    have hb := List.mem_range.mp hb
    have := mix_inj (a := (lowN cs 8 : Nat) + (a : Int)) (b := (lowN cs 8 : Nat) + (b : Int)) (by omega) (by omega) (by omega) (by omega) e
    omega
  have so : (knV cs).Pairwise fun a b => a ≤ b := (List.pairwise_map.mp (sort_ints _).2).imp fun h => of_decide_eq_true h
  exact (so.and nd).imp fun h => Int.lt_iff_le_and_ne.mpr h
end
end Mine
set_option autoImplicit false
set_option genInjectivity false
set_option genSizeOf false
namespace Mine
noncomputable section
open PySem

noncomputable def b_need_name : Ss :=
  (.cons (.ite (.or (.cons (.not (.isi (.var "name") "int")) (.cons (.isi (.var "name") "bool") (.cons (.not (.cmp2 .LtE .LtE (.int 0) (.var "name") (.int 255))) .nil)))) (.cons .stuck
  .nil) .nil)
  .nil)
noncomputable def b_mixed : Ss :=
  (.cons (.ex (.call "need_name" (.cons (.var "name") .nil)))
  (.cons (.ret (.bin .Mod (.bin .Add (.bin .Mult (.int 171) (.var "name")) (.int 37)) (.int 256)))
  .nil))
noncomputable def b_signs : Ss :=
  (.cons (.asg "number" (.call "mixed" (.cons (.var "name") .nil)))
  (.cons (.asg "text" (.str []))
  (.cons (.for_ "place" (.blt .range (.cons (.glo "SIGNS") .nil)) (.cons (.asg "text" (.bin .Add (.blt .str (.cons (.bin .Mod (.var "number") (.int 2)) .nil)) (.var "text")))
  (.cons (.asg "number" (.bin .FloorDiv (.var "number") (.int 2)))
  .nil)))
  (.cons (.ret (.var "text"))
  .nil))))
noncomputable def b_parted : Ss :=
  (.cons (.asg "bits" (.idx (.var "room") (.int 0)))
  (.cons (.asg "at" (.blt .len (.cons (.var "bits") .nil)))
  (.cons (.asg "first" (.compIf (.var "thing") "thing" (.idx (.var "room") (.int 1)) (.cmp .Eq (.idx (.call "signs" (.cons (.idx (.var "thing") (.int 0)) .nil)) (.var "at")) (.str [48]))))
  (.cons (.asg "last" (.compIf (.var "thing") "thing" (.idx (.var "room") (.int 1)) (.cmp .Eq (.idx (.call "signs" (.cons (.idx (.var "thing") (.int 0)) .nil)) (.var "at")) (.str [49]))))
  (.cons (.ret (.tup (.cons (.tup (.cons (.bin .Add (.var "bits") (.str [48])) (.cons (.var "first") .nil))) (.cons (.tup (.cons (.bin .Add (.var "bits") (.str [49])) (.cons (.var "last") .nil))) .nil))))
  .nil)))))
noncomputable def b_law_is_room : Ss :=
  (.cons (.ite (.or (.cons (.not (.isi (.var "_law_found") "tuple")) (.cons (.cmp .NotEq (.blt .len (.cons (.var "_law_found") .nil)) (.int 2)) (.cons (.not (.isi (.idx (.var "_law_found") (.int 0)) "str")) (.cons (.cmp .NotEq (.idx (.var "_law_found") (.int 0)) (.var "_law_bits")) .nil))))) (.cons (.ret (.bool false))
  .nil) .nil)
  (.cons (.ite (.or (.cons (.not (.isi (.idx (.var "_law_found") (.int 1)) "list")) (.cons (.cmp .NotEq (.blt .len (.cons (.idx (.var "_law_found") (.int 1)) .nil)) (.blt .len (.cons (.var "_law_due") .nil))) .nil))) (.cons (.ret (.bool false))
  .nil) .nil)
  (.cons (.for_ "_law_k" (.blt .range (.cons (.blt .len (.cons (.var "_law_due") .nil)) .nil)) (.cons (.asg "_law_one" (.idx (.idx (.var "_law_found") (.int 1)) (.var "_law_k")))
  (.cons (.ite (.or (.cons (.not (.isi (.var "_law_one") "tuple")) (.cons (.cmp .NotEq (.blt .len (.cons (.var "_law_one") .nil)) (.int 2)) (.cons (.not (.call "_law_whole" (.cons (.idx (.var "_law_one") (.int 0)) .nil))) (.cons (.not (.call "_law_whole" (.cons (.idx (.var "_law_one") (.int 1)) .nil))) .nil))))) (.cons (.ret (.bool false))
  .nil) .nil)
  (.cons (.ite (.or (.cons (.cmp .NotEq (.idx (.var "_law_one") (.int 0)) (.idx (.idx (.var "_law_due") (.var "_law_k")) (.int 0))) (.cons (.cmp .NotEq (.idx (.var "_law_one") (.int 1)) (.idx (.idx (.var "_law_due") (.var "_law_k")) (.int 1))) .nil))) (.cons (.ret (.bool false))
  .nil) .nil)
  .nil))))
  (.cons (.ret (.bool true))
  .nil))))
noncomputable def b_law_is_in : Ss :=
  (.cons (.ite (.cmp .Eq (.var "_law_way") (.int 0)) (.cons (.ret (.bool false))
  .nil) .nil)
  (.cons (.ite (.cmp .Eq (.var "_law_way") (.int 1)) (.cons (.ret (.cmp .Eq (.bin .Mod (.bin .Mod (.bin .Mult (.var "_law_name") (.int 48271)) (.int 1009)) (.int 9)) (.bin .Mod (.var "_law_draw") (.int 9))))
  .nil) .nil)
  (.cons (.ite (.cmp .Eq (.var "_law_way") (.int 2)) (.cons (.ret (.cmp .Eq (.bin .Mod (.bin .Mod (.bin .Mult (.var "_law_name") (.int 16807)) (.int 1013)) (.int 2)) (.bin .Mod (.var "_law_draw") (.int 2))))
  .nil) .nil)
  (.cons (.ret (.bool true))
  .nil))))

section
variable {C : Cx} {k : Nat} {H : List HO}
theorem cmp_le {a b : Int} (h : a ≤ b) : Cmp H .LtE (.int a) (.int b) true := by
  have := Cmp.le (H := H) a b
  rw [decide_eq_true h] at this; exact this
theorem c_need (F : FnOk C "need_name" ["name"] b_need_name) {n : Int} (h0 : 0 ≤ n) (h1 : n ≤ 255) : Calls C (k + 1) "need_name" [.int n] H (.ok .none) H :=
  call_pure F rfl (s_skip (ev_or (or_f (ev_nt (ev_isi (ev_var rfl) (.int _) rfl)) (or_f (ev_isi (ev_var rfl) (.int _) rfl) (or_f (ev_nt (ev_cmp2 ev_int (ev_var rfl) (cmp_le h0) ev_int (cmp_le h1))) or_nil)))) (s_nil ⟨rfl, trivial, List.take_length⟩))
noncomputable def mixV (n : Int) : Int := (171 * n + 37) % 256
theorem c_mixed (F : FnOk C "mixed" ["name"] b_mixed) {n : Int} (Gn : Calls C k "need_name" [.int n] H (.ok .none) H) : Calls C (k + 1) "mixed" [.int n] H (.ok (.int (mixV n))) H :=
  call_pure F rfl (s_ex (ev_callP (evs1 (ev_var rfl)) Gn) (s_ret (ev_bin (ev_bin (ev_bin ev_int (ev_var rfl) (.mul (.inl (by decide)))) ev_int (.add _ _)) ev_int (.mod (by decide))) (fin_pure rfl trivial)))
noncomputable def sgR (m : Int) : Nat → Int × List Nat
  | 0 => (m, [])
  | i + 1 => ((sgR m i).1 / 2, bit (decide ((sgR m i).1 % 2 = 1)) :: (sgR m i).2)
theorem sgR_len (m : Int) : ∀ i, (sgR m i).2.length = i
  | 0 => rfl
  | i + 1 => by rw [sgR, List.length_cons, sgR_len m i]
theorem mod2 (x : Int) : x % 2 = b01 (decide (x % 2 = 1)) := by
  rcases Int.emod_two_eq x with h | h <;> rw [h] <;> rfl
theorem sg_all : ∀ m : Nat, m < 256 → (sgR m 8).2 = (sgAt m 8).2 := by decide +kernel
theorem sg_same (n : Int) : (sgR (mixV n) 8).2 = sgn n := by
  have h0 : 0 ≤ mixV n := Int.emod_nonneg _ (by decide)
  have h1 : mixV n < 256 := Int.emod_lt_of_pos _ (by decide)
  have := sg_all (mixV n).toNat (by omega)
  rw [Int.toNat_of_nonneg h0] at this
  exact this
theorem c_sgn (F : FnOk C "signs" ["name"] b_signs) (hg : C.glo "SIGNS" = some (.int 8)) {n : Int} (Gm : Calls C k "mixed" [.int n] H (.ok (.int (mixV n))) H) : Calls C (k + 1) "signs" [.int n] H (.ok (.str (sgn n))) H := by
  refine call_pure F rfl (s_asg (ev_callP (evs1 (ev_var rfl)) Gm) (s_asg ev_str ?_))
  refine s_for (fun i st => st.H = H ∧ st.s "number" = some (.int (sgR (mixV n) i).1) ∧ st.s "text" = some (.str (sgR (mixV n) i).2)) (ev_blt (evs1 (ev_glo hg)) (.range1 _)) (items_rng (n := 8) (by decide)) ⟨rfl, rfl, rfl⟩ ?_ fun st e => s_ret (ev_as (ev_var e.2.2) (congrArg V.str (sg_same n))) (fin_pure e.1 trivial)
  rintro i w ⟨s, H'⟩ hw ⟨e1, e2, e3⟩ Q' hQ
  have e1 : H' = H := e1
  subst e1
  obtain ⟨hi, rfl⟩ := get_rng hw
  have hl := sgR_len (mixV n) i
  have h2 := mod2 (sgR (mixV n) i).1
  have hd : digits ((sgR (mixV n) i).1 % 2) = [bit (decide ((sgR (mixV n) i).1 % 2 = 1))] := (congrArg digits h2).trans (digits_b01 _)
  have hs : ((sgR (mixV n) i).1 % 2).natAbs < 10 ^ 100 := h2 ▸ b01_small' _
  have e4 : some (V.str (digits ((sgR (mixV n) i).1 % 2) ++ (sgR (mixV n) i).2)) = some (V.str (sgR (mixV n) (i + 1)).2) := by rw [hd]; rfl
  refine s_asg (ev_bin (ev_blt (evs1 (ev_bin (ev_var (by exact e2)) ev_int (.mod (by decide)))) (.str hs)) (ev_var (by exact e3)) (.cat ?_)) (s_asg (ev_bin (ev_var (by exact e2)) ev_int (.div (by decide) (by decide))) (s_nil (hQ _ (by exact ⟨rfl, rfl, e4⟩)).1))
  rw [hd, hl, List.length_singleton]; omega

noncomputable def sAt (n : Int) (i : Nat) : Nat := (sgn n).getD i 0
theorem sgn_ok (n : Int) : (sgn n).length = 8 ∧ ∀ c ∈ sgn n, c = 48 ∨ c = 49 := sgAt_ok _ 8 (Nat.le_refl _)
theorem sgn_get (n : Int) {i : Nat} (h : i < 8) : (sgn n)[((i : Nat) : Int).toNat]? = some (sAt n i) := by
  have h' : i < (sgn n).length := (sgn_ok n).1 ▸ h
  rw [Int.toNat_natCast, sAt, List.getD_eq_getElem?_getD, List.getElem?_eq_getElem h']; rfl
theorem sAt_bit (n : Int) {i : Nat} (h : i < 8) : sAt n i = 48 ∨ sAt n i = 49 := (sgn_ok n).2 _ (List.mem_of_getElem? (sgn_get n h))
theorem eq_sign (a b : Nat) : eqB (.str [a]) (.str [b]) = decide (a = b) := by
  rw [eqB_strs, Bool.eq_iff_iff, decide_eq_true_eq, decide_eq_true_eq]
  exact ⟨fun h => (List.cons.inj h).1, fun h => h ▸ rfl⟩
noncomputable def half (i c : Nat) (ts : List (Int × Int)) : List (Int × Int) := ts.filter fun t => decide (sAt t.1 i = c)

theorem c_parted (F : FnOk C "parted" ["room"] b_parted) (bs : List Nat) (ts : List (Int × Int)) (hb : bs.length < 8) (ht : ∀ t ∈ ts, 0 ≤ t.1 ∧ t.1 ≤ 255) (Gs : ∀ (H : List HO) (n : Int), 0 ≤ n → n ≤ 255 → Calls C k "signs" [.int n] H (.ok (.str (sgn n))) H) :
    Calls C (k + 1) "parted" [.tup [.str bs, .lst (ts.map pr)]] [] (.ok (.tup [.tup [.str (bs ++ [48]), .loc 0], .tup [.str (bs ++ [49]), .loc 1]])) [.list ((half bs.length 48 ts).map pr), .list ((half bs.length 49 ts).map pr)] := by
  refine call_new F rfl (s_asg (ev_idx (ev_var rfl) ev_int (.tup (by decide) rfl)) (s_asg (ev_blt (evs1 (ev_var rfl)) (.len (.str _))) ?_))
  refine s_asg (ev_compIf (g := pr) (q := pr) (p := fun t => decide (sAt t.1 bs.length = 48)) (rs := ts) (ev_idx (ev_var rfl) ev_int (.tup (by decide) rfl)) (.lst _)
    (fun t h => ev_cmpE (ev_idx (ev_callP (evs1 (ev_idx (ev_var rfl) ev_int pr_name)) (Gs _ _ (ht t h).1 (ht t h).2)) (ev_var rfl) (.str (Int.natCast_nonneg _) (sgn_get _ hb))) ev_str (.eq (.self _) (.self _) rfl rfl) (eq_sign _ _)) (fun _ _ _ => ev_var rfl) .loc) ?_
  refine s_asg (ev_compIf (g := pr) (q := pr) (p := fun t => decide (sAt t.1 bs.length = 49)) (rs := ts) (ev_idx (ev_var rfl) ev_int (.tup (by decide) rfl)) (.lst _)
    (fun t h => ev_cmpE (ev_idx (ev_callP (evs1 (ev_idx (ev_var rfl) ev_int pr_name)) (Gs _ _ (ht t h).1 (ht t h).2)) (ev_var rfl) (.str (Int.natCast_nonneg _) (sgn_get _ hb))) ev_str (.eq (.self _) (.self _) rfl rfl) (eq_sign _ _)) (fun _ _ _ => ev_var rfl) .loc) ?_
  refine s_ret (ev_tup (evs2 (ev_tup (evs2 (ev_bin (ev_var rfl) ev_str (.cat ?_)) (ev_var rfl))) (ev_tup (evs2 (ev_bin (ev_var rfl) ev_str (.cat ?_)) (ev_var rfl))))) ⟨rfl, rfl⟩
  · rw [List.length_singleton]; omega
  · rw [List.length_singleton]; omega

theorem c_is_room (F : FnOk C "_law_is_room" ["_law_found", "_law_bits", "_law_due"] b_law_is_room) (Gw : ∀ n : Int, Calls C k "_law_whole" [.int n] H (.ok (.bool true)) H) (bs : List Nat) (v u : V) (ts : List (Int × Int)) (hv : View H v (ts.map pr)) (hu : View H u (ts.map pr)) (hb : ts.length ≤ 1000000) :
    Calls C (k + 1) "_law_is_room" [.tup [.str bs, v], .str bs, u] H (.ok (.bool true)) H := by
  refine call_pure F rfl (s_skip (ev_or (or_f (ev_nt (ev_isi (ev_var rfl) (.tup _) rfl)) (or_f (ev_cmpE (ev_blt (evs1 (ev_var rfl)) (.len (.tup _))) ev_int cmp_ne_int ne_self) (or_f (ev_nt (ev_isi (ev_idx (ev_var rfl) ev_int (.tup (by decide) rfl)) (.str _) rfl))
    (or_f (ev_cmpE (ev_idx (ev_var rfl) ev_int (.tup (by decide) rfl)) (ev_var rfl) (.ne (.self _) (.self _) rfl rfl) (by rw [eqB_str]; rfl)) or_nil))))) ?_)
  refine s_skip (ev_or (or_f (ev_nt (ev_isi (ev_idx (ev_var rfl) ev_int (.tup (by decide) rfl)) (.seq hv) rfl)) (or_f (ev_cmpE (ev_blt (evs1 (ev_idx (ev_var rfl) ev_int (.tup (by decide) rfl))) (.len (.seq hv))) (ev_blt (evs1 (ev_var rfl)) (.len (.seq hu))) cmp_ne_int ne_self) or_nil))) ?_
  have hit := items_rng (n := (ts.map pr).length) (by rw [List.length_map]; exact hb)
  refine s_for (fun i st => st.H = H ∧ st.s "_law_found" = some (.tup [.str bs, v]) ∧ st.s "_law_due" = some u) (ev_blt (evs1 (ev_blt (evs1 (ev_var rfl)) (.len (.seq hu)))) (.range1 _)) hit ⟨rfl, rfl, rfl⟩ ?_ fun st e => s_ret ev_bool (fin_pure e.1 trivial)
  rintro i w ⟨s, H'⟩ hw ⟨e1, e2, e3⟩ Q' hQ
  have e1 : H' = H := e1
  subst e1
  obtain ⟨hi, rfl⟩ := get_rng hw
  rw [List.length_map] at hi
  have a1 := at_prs hv hi
  have a2 := at_prs hu hi
  refine s_asg (ev_idx (ev_idx (ev_var (by exact e2)) ev_int (.tup (by decide) rfl)) (ev_var rfl) a1) ?_
  refine s_skip (ev_or (or_f (ev_nt (ev_isi (ev_var rfl) (.tup _) rfl)) (or_f (ev_cmpE (ev_blt (evs1 (ev_var rfl)) (.len (.tup _))) ev_int cmp_ne_int ne_self)
    (or_f (ev_nt (ev_callP (evs1 (ev_idx (ev_var rfl) ev_int pr_name)) (Gw _))) (or_f (ev_nt (ev_callP (evs1 (ev_idx (ev_var rfl) ev_int pr_value)) (Gw _))) or_nil))))) ?_
  refine s_skip (ev_or (or_f (ev_cmpE (ev_idx (ev_var rfl) ev_int pr_name) (ev_idx (ev_idx (ev_var (by exact e3)) (ev_var rfl) a2) ev_int pr_name) cmp_ne_int ne_self) (or_f (ev_cmpE (ev_idx (ev_var rfl) ev_int pr_value) (ev_idx (ev_idx (ev_var (by exact e3)) (ev_var rfl) a2) ev_int pr_value) cmp_ne_int ne_self) or_nil))) ?_
  exact s_nil (hQ _ (by exact ⟨rfl, e2, e3⟩)).1

noncomputable def isIn (n w d : Int) : Bool := if w = 0 then false else if w = 1 then decide (n * 48271 % 1009 % 9 = d % 9) else if w = 2 then decide (n * 16807 % 1013 % 2 = d % 2) else true
theorem cmp_eq_int {a b : Int} : Cmp H .Eq (.int a) (.int b) (eqB (.int a) (.int b)) := .eq (.self _) (.self _) rfl rfl
theorem c_is_in (F : FnOk C "_law_is_in" ["_law_name", "_law_way", "_law_draw"] b_law_is_in) (n w d : Int) : Calls C (k + 1) "_law_is_in" [.int n, .int w, .int d] H (.ok (.bool (isIn n w d))) H := by
  refine call_pure F rfl ?_
  by_cases h0 : w = 0
  · exact s_ift (ev_cmpE (ev_var rfl) ev_int cmp_eq_int (decide_eq_true h0)) (s_ret (ev_as ev_bool (by rw [isIn, if_pos h0])) (and_ret (fin_pure rfl trivial)))
  · refine s_skip (ev_cmpE (ev_var rfl) ev_int cmp_eq_int (decide_eq_false h0)) ?_
    by_cases h1 : w = 1
    · exact s_ift (ev_cmpE (ev_var rfl) ev_int cmp_eq_int (decide_eq_true h1)) (s_ret (ev_cmpE (ev_bin (ev_bin (ev_bin (ev_var rfl) ev_int (.mul (.inr (by decide)))) ev_int (.mod (by decide))) ev_int (.mod (by decide))) (ev_bin (ev_var rfl) ev_int (.mod (by decide))) cmp_eq_int (by rw [isIn, if_neg h0, if_pos h1]; rfl)) (and_ret (fin_pure rfl trivial)))
    · refine s_skip (ev_cmpE (ev_var rfl) ev_int cmp_eq_int (decide_eq_false h1)) ?_
      by_cases h2 : w = 2
      · exact s_ift (ev_cmpE (ev_var rfl) ev_int cmp_eq_int (decide_eq_true h2)) (s_ret (ev_cmpE (ev_bin (ev_bin (ev_bin (ev_var rfl) ev_int (.mul (.inr (by decide)))) ev_int (.mod (by decide))) ev_int (.mod (by decide))) (ev_bin (ev_var rfl) ev_int (.mod (by decide))) cmp_eq_int (by rw [isIn, if_neg h0, if_neg h1, if_pos h2]; rfl)) (and_ret (fin_pure rfl trivial)))
      · exact s_skip (ev_cmpE (ev_var rfl) ev_int cmp_eq_int (decide_eq_false h2)) (s_ret (ev_as ev_bool (by rw [isIn, if_neg h0, if_neg h1, if_neg h2])) (fin_pure rfl trivial))

/-- joined, where the second room's things are a list that may be changed -/
theorem c_joinedL (F : FnOk C "joined" ["one", "other"] b_joined) (Gp : ∀ (H : List HO) ts n v, ts.length ≤ 1000000 → Calls C k "with_thing" [.lst (ts.map pr), .int n, .int v] H (.ok (.lst ((withT ts n v).map pr))) H)
    (b0 b1 : List Nat) (c : Nat) (ts us : List (Int × Int)) (ht : ts.length + us.length ≤ 1000000) {va : V} {j : Nat} (hv : View H va (ts.map pr)) (hu : H[j]? = some (.list (us.map pr))) :
    Calls C (k + 1) "joined" [.tup [.str (b0 ++ [c]), va], .tup [.str b1, .loc j]] H (.ok (.tup [.str b0, .lst ((joinT ts us).map pr)])) H := by
  refine call_pure F rfl ?_
  refine s_asg (ev_bltL (evs1 (ev_idx (ev_var rfl) ev_int (.tup (by decide) rfl))) (.list hv) .lst) ?_
  have hj : j < H.length := (List.getElem?_eq_some_iff.mp hu).1
  refine s_forL (items := us.map pr) (j := j) (fun i st => st.H = H.set j .dead ∧ st.s "things" = some (.lst ((joinT ts (us.take i)).map pr)) ∧ st.s "one" = some (.tup [.str (b0 ++ [c]), va])) (ev_idx (ev_var rfl) ev_int (.tup (by decide) rfl)) hu ⟨rfl, rfl, rfl⟩ ?_ ?_ ?_
  · rintro i w ⟨s, H'⟩ hw ⟨e1, e2, e3⟩ Q' hQ
    have e1 : H' = H.set j .dead := e1
    subst e1
    rw [List.getElem?_map] at hw
    obtain ⟨u, hu, rfl⟩ := Option.map_eq_some_iff.mp hw
    obtain ⟨hi, hu⟩ := List.getElem?_eq_some_iff.mp hu
    have hl : (joinT ts (us.take i)).length ≤ 1000000 := Nat.le_trans (joinT_len _ _) (Nat.le_trans (Nat.add_le_add_left (List.length_take_le' _ _) _) ht)
    have g := Gp (H.set j .dead) (joinT ts (us.take i)) u.1 u.2 hl
    rw [← hu, ← joinT_take ts us hi, hu] at g
    exact s_asg (ev_callP (evs3 (ev_var (by exact e2)) (ev_idx (ev_var rfl) ev_int pr_name) (ev_idx (ev_var rfl) ev_int pr_value)) g) (s_nil (hQ _ (by exact ⟨rfl, rfl, e3⟩)).1)
  · rintro st ⟨e1, _, _⟩
    rw [e1, List.getElem?_set, if_pos rfl, if_pos hj]
  · rintro ⟨s, H'⟩ ⟨e1, e2, e3⟩
    have e1 : H' = H.set j .dead := e1
    subst e1
    rw [List.length_map, List.take_length] at e2
    refine s_ret (ev_tup (evs2 (ev_as (ev_slc01 (ev_idx (ev_var (by exact e3)) ev_int (.tup (by decide) rfl)) rfl (ev_neg ev_int) (.str _)) (congrArg V.str (slc_last b0 c))) (ev_var (by exact e2)))) (fin_pure ?_ ⟨trivial, lows_prs _ _, trivial⟩)
    show (H.set j .dead).set j (.list (us.map pr)) = H
    rw [List.set_set]
    obtain ⟨_, h⟩ := List.getElem?_eq_some_iff.mp hu
    rw [← h]; exact List.set_getElem_self hj
end
end
end Mine
set_option autoImplicit false
set_option genInjectivity false
set_option genSizeOf false
namespace Mine
noncomputable section
open PySem

noncomputable def b04_half : Ss :=
  (.cons (.asg "_law_due" (.compIf (.var "_law_one") "_law_one" (.var "_law_things") (.cmp .Eq (.idx (.call "_law_signs" (.cons (.idx (.var "_law_one") (.int 0)) .nil)) (.blt .len (.cons (.var "_law_bits") .nil))) (.idx (.str [48, 49]) (.var "_law_half")))))
  (.cons (.ite (.not (.call "_law_is_room" (.cons (.idx (.var "_law_found") (.var "_law_half")) (.cons (.bin .Add (.var "_law_bits") (.idx (.str [48, 49]) (.var "_law_half"))) (.cons (.var "_law_due") .nil))))) (.cons (.ret (.bool false))
  .nil) .nil)
  .nil))
noncomputable def b_law : Ss :=
  (.cons (.asg "_law_bits" (.slc (.call "_law_signs" (.cons (.bin .Mod (.call "_law_cell_at" (.cons (.var "_law_script") (.cons (.int 0) .nil))) (.int 256)) .nil)) .omit (.bin .Mod (.call "_law_cell_at" (.cons (.var "_law_script") (.cons (.int 1) .nil))) (.int 8))))
  (.cons (.asg "_law_way" (.bin .Mod (.bin .Mod (.call "_law_cell_at" (.cons (.var "_law_script") (.cons (.int 2) .nil))) (.int 7)) (.int 4)))
  (.cons (.asg "_law_draw" (.call "_law_cell_at" (.cons (.var "_law_script") (.cons (.int 3) .nil))))
  (.cons (.asg "_law_step" (.bin .Mod (.call "_law_cell_at" (.cons (.var "_law_script") (.cons (.int 4) .nil))) (.bin .Pow (.int 10) (.int 58))))
  (.cons (.asg "_law_names" (.slc (.compIf (.var "_law_name") "_law_name" (.call "_law_known" (.cons (.var "_law_bits") .nil)) (.call "_law_is_in" (.cons (.var "_law_name") (.cons (.var "_law_way") (.cons (.var "_law_draw") .nil))))) .omit (.int 70)))
  (.cons (.asg "_law_things" (.comp (.tup (.cons (.var "_law_name") (.cons (.bin .Sub (.var "_law_step") (.bin .Mult (.var "_law_name") (.bin .Mod (.var "_law_draw") (.int 5)))) .nil))) "_law_name" (.var "_law_names")))
  (.cons (.asg "_law_handed" (.tup (.cons (.var "_law_bits") (.cons (.blt .list (.cons (.var "_law_things") .nil)) .nil))))
  (.cons (.asg "_law_found" (.call "parted" (.cons (.var "_law_handed") .nil)))
  (.cons (.ite (.or (.cons (.not (.isi (.var "_law_found") "tuple")) (.cons (.cmp .NotEq (.blt .len (.cons (.var "_law_found") .nil)) (.int 2)) (.cons (.not (.call "_law_is_room" (.cons (.var "_law_handed") (.cons (.var "_law_bits") (.cons (.var "_law_things") .nil))))) .nil)))) (.cons (.ret (.bool false))
  .nil) .nil)
  (.cons (.for_ "_law_half" (.list (.cons (.int 0) (.cons (.int 1) .nil))) b04_half)
  (.cons (.ite (.not (.call "_law_is_room" (.cons (.call "joined" (.cons (.idx (.var "_law_found") (.int 0)) (.cons (.idx (.var "_law_found") (.int 1)) .nil))) (.cons (.var "_law_bits") (.cons (.var "_law_things") .nil))))) (.cons (.ret (.bool false))
  .nil) .nil)
  (.cons (.ex (.mth .append (.idx (.idx (.var "_law_found") (.int 0)) (.int 1)) (.cons (.tup (.cons (.int 999) (.cons (.int 0) .nil))) .nil)))
  (.cons (.ex (.mth .append (.idx (.idx (.var "_law_found") (.int 1)) (.int 1)) (.cons (.tup (.cons (.int 999) (.cons (.int 0) .nil))) .nil)))
  (.cons (.ret (.call "_law_is_room" (.cons (.var "_law_handed") (.cons (.var "_law_bits") (.cons (.var "_law_things") .nil)))))
  .nil))))))))))))))
noncomputable def nms : List String := ["BadName", "RoomError", "SIGNS", "ValueError", "__name__", "_law_bits", "_law_cell_at", "_law_draw", "_law_due", "_law_found", "_law_half", "_law_handed", "_law_is_in", "_law_is_room", "_law_j", "_law_k", "_law_known", "_law_left", "_law_low", "_law_many", "_law_name", "_law_names", "_law_one", "_law_script", "_law_signs", "_law_step", "_law_things", "_law_way", "_law_whole", "_law_worth", "ahead", "append", "at", "bits", "bool", "first", "int", "isinstance", "joined", "last", "len", "list", "mixed", "name", "need_name", "number", "one", "other", "parted", "place", "range", "room", "signs", "sorted", "str", "text", "thing", "things", "tuple", "value", "with_thing"]

theorem up_eq {a b : List (Int × Int)} (h1 : Up a) (h2 : Up b) (p : a.Perm b) : a = b := List.Perm.eq_of_pairwise (le := fun a b : Int × Int => a.1 < b.1) (fun _ _ _ _ h h' => absurd (Int.lt_trans h h') (Int.lt_irrefl _)) h1 h2 p
theorem half_join (i : Nat) (hi : i < 8) {ts : List (Int × Int)} (h : Up ts) : joinT (half i 48 ts) (half i 49 ts) = ts := by
  have e : half i 49 ts = ts.filter fun t => !decide (sAt t.1 i = 48) := List.filter_congr fun t _ => by
    rcases sAt_bit t.1 hi with q | q <;> rw [q] <;> rfl
  obtain ⟨h1, h2⟩ := join_ok (half i 49 ts) (half i 48 ts) (h.filter _) (fun u hu t ht q => by
    have hu := of_decide_eq_true (List.mem_filter.mp hu).2
    have ht := of_decide_eq_true (List.mem_filter.mp ht).2
    rw [q, hu] at ht
    exact absurd ht (by decide)) ((h.filter _).imp fun h e => by rw [e] at h; exact Int.lt_irrefl _ h)
  refine up_eq h1 h (h2.trans ?_)
  rw [e, half]; exact List.filter_append_perm _ _
theorem kn_small (cs : List Nat) (h : cs.length ≤ 8) : lowN cs 8 + 2 ^ (8 - cs.length) ≤ 256 := by
  have h1 := lowN_past cs (8 - cs.length)
  rw [show cs.length + (8 - cs.length) = 8 by omega] at h1
  have h2 := Nat.mul_le_mul_right (2 ^ (8 - cs.length)) (lowN_lt cs cs.length)
  rw [← Nat.pow_add, show cs.length + (8 - cs.length) = 8 by omega, Nat.add_mul, Nat.one_mul, ← h1] at h2
  exact h2
noncomputable def nmV (bs : List Nat) (w d : Int) : List Int := ((knV bs).filter fun n => isIn n w d).take 70
noncomputable def thV' (bs : List Nat) (w d s : Int) : List (Int × Int) := (nmV bs w d).map fun n => (n, s - n * (d % 5))
theorem thV_up {bs : List Nat} (h : bs.length ≤ 8) (w d s : Int) : Up (thV' bs w d s) := List.pairwise_map.mpr ((up_kn (kn_small bs h)).sublist ((List.take_sublist _ _).trans List.filter_sublist))
theorem thV_ok {bs : List Nat} {w d s : Int} {t : Int × Int} (h : t ∈ thV' bs w d s) : 0 ≤ t.1 ∧ t.1 ≤ 255 := by
  obtain ⟨n, h1, rfl⟩ := List.mem_map.mp h
  obtain ⟨j, _, rfl⟩ := mem_kn.mp (List.mem_filter.mp (List.mem_of_mem_take h1)).1
  exact ⟨Int.emod_nonneg _ (by decide), Int.le_of_lt_add_one (Int.emod_lt_of_pos _ (by decide))⟩
theorem thV_len (bs : List Nat) (w d s : Int) : (thV' bs w d s).length ≤ 70 := by rw [thV', List.length_map]; exact List.length_take_le _ _
theorem half_len (i c : Nat) (ts : List (Int × Int)) : (half i c ts).length ≤ ts.length := List.length_filter_le _ _

section
variable {C : Cx} {k : Nat}
theorem law_plain (F : FnOk C "law" ["_law_script"] b_law) (ns : List Int)
    (Gc : ∀ (H : List HO) (j : Nat), Calls C k "_law_cell_at" [.lst (ns.map .int), .int j] H (.ok (.int (ns.getD j 0))) H)
    (Gs : ∀ (H : List HO) (n : Int), Calls C k "_law_signs" [.int n] H (.ok (.str (sgn n))) H)
    (Gk : ∀ cs : List Nat, cs.length ≤ 8 → Calls C k "_law_known" [.str cs] [] (.ok (.lst ((knV cs).map .int))) [])
    (Gi : ∀ (H : List HO) (n w d : Int), Calls C k "_law_is_in" [.int n, .int w, .int d] H (.ok (.bool (isIn n w d))) H)
    (Gp : ∀ (bs : List Nat) (ts : List (Int × Int)), bs.length < 8 → (∀ t ∈ ts, 0 ≤ t.1 ∧ t.1 ≤ 255) → Calls C k "parted" [.tup [.str bs, .lst (ts.map pr)]] [] (.ok (.tup [.tup [.str (bs ++ [48]), .loc 0], .tup [.str (bs ++ [49]), .loc 1]])) [.list ((half bs.length 48 ts).map pr), .list ((half bs.length 49 ts).map pr)])
    (Gr : ∀ (H : List HO) (bs : List Nat) (v u : V) (ts : List (Int × Int)), View H v (ts.map pr) → View H u (ts.map pr) → ts.length ≤ 1000000 → Calls C k "_law_is_room" [.tup [.str bs, v], .str bs, u] H (.ok (.bool true)) H)
    (Gj : ∀ (H : List HO) (b0 b1 : List Nat) (c : Nat) (ts us : List (Int × Int)) (va : V) (j : Nat), ts.length + us.length ≤ 1000000 → View H va (ts.map pr) → H[j]? = some (.list (us.map pr)) → Calls C k "joined" [.tup [.str (b0 ++ [c]), va], .tup [.str b1, .loc j]] H (.ok (.tup [.str b0, .lst ((joinT ts us).map pr)])) H) :
    Calls C (k + 1) "law" [.lst (ns.map .int)] [] (.ok (.bool true)) [] := by
  refine call_pure F rfl ?_
  generalize hb : (sgn (ns.getD 0 0 % 256)).take (ns.getD 1 0 % 8).toNat = bs
  have hbl : bs.length ≤ 7 := by
    rw [← hb]
    exact Nat.le_trans (List.length_take_le _ _) (by omega)
  have e0 : slice (sgn (ns.getD 0 0 % 256)) (loOf (sgn (ns.getD 0 0 % 256)).length none) (hiOf (sgn (ns.getD 0 0 % 256)).length (some (ns.getD 1 0 % 8))) = bs := by
    have := slc_take (sgn (ns.getD 0 0 % 256)) (ns.getD 1 0 % 8).toNat
    rw [Int.toNat_of_nonneg (by omega)] at this
    exact this.trans hb
  refine s_asg (ev_as (ev_slc01 (ev_callP (evs1 (ev_bin (ev_callP (evs2 (ev_var rfl) ev_int) (Gc _ 0)) ev_int (.mod (by decide)))) (Gs _ _)) rfl (ev_bin (ev_callP (evs2 (ev_var rfl) ev_int) (Gc _ 1)) ev_int (.mod (by decide))) (.str _)) (congrArg V.str e0)) ?_
  refine s_asg (ev_bin (ev_bin (ev_callP (evs2 (ev_var rfl) ev_int) (Gc _ 2)) ev_int (.mod (by decide))) ev_int (.mod (by decide))) ?_
  refine s_asg (ev_callP (evs2 (ev_var rfl) ev_int) (Gc _ 3)) ?_
  refine s_asg (ev_bin (ev_callP (evs2 (ev_var rfl) ev_int) (Gc _ 4)) (ev_bin ev_int ev_int (.pow (by decide) (by decide) (by decide))) (.mod (by decide))) ?_
  generalize ns.getD 2 0 % 7 % 4 = w
  generalize ns.getD 3 0 = d
  generalize ns.getD 4 0 % 10 ^ (58 : Int).toNat = stp
  have e1 : slice (((knV bs).filter fun n => isIn n w d).map V.int) (loOf (((knV bs).filter fun n => isIn n w d).map V.int).length none) (hiOf (((knV bs).filter fun n => isIn n w d).map V.int).length (some 70)) = (nmV bs w d).map V.int :=
    (slc_take _ 70).trans (List.map_take).symm
  refine s_asg (ev_as (ev_slc01 (ev_compIf (g := V.int) (q := V.int) (p := fun n => isIn n w d) (rs := knV bs) (ev_callP (evs1 (ev_var rfl)) (Gk bs (Nat.le_succ_of_le hbl))) (.lst _) (fun n _ => ev_callP (evs3 (ev_var rfl) (ev_var rfl) (ev_var rfl)) (Gi _ _ _ _)) (fun _ _ _ => ev_var rfl) .lst) rfl ev_int (.seq (.lst _) .lst)) (congrArg V.lst e1)) ?_
  have e2 : (nmV bs w d).map (fun n => pr (n, stp - n * (d % 5))) = (thV' bs w d stp).map pr := by rw [thV', List.map_map]; rfl
  refine s_asg (ev_as (ev_comp (g := V.int) (q := fun n => pr (n, stp - n * (d % 5))) (rs := nmV bs w d) (ev_var rfl) (.lst _) (fun n _ => ev_tup (evs2 (ev_var rfl) (ev_bin (ev_var rfl) (ev_bin (ev_var rfl) (ev_bin (ev_var rfl) ev_int (.mod (by decide))) (.mul (.inr (by omega)))) (.sub _ _)))) .lst) (congrArg V.lst e2)) ?_
  have hup := thV_up (Nat.le_succ_of_le hbl) w d stp
  have hok : ∀ t ∈ thV' bs w d stp, 0 ≤ t.1 ∧ t.1 ≤ 255 := fun t h => thV_ok h
  have hlen := thV_len bs w d stp
  generalize thV' bs w d stp = ts at hup hok hlen ⊢
  have hj := half_join bs.length (Nat.lt_succ_of_le hbl) hup
  have l0 := half_len bs.length 48 ts
  have l1 := half_len bs.length 49 ts
  refine s_asg (ev_tup (evs2 (ev_var rfl) (ev_bltL (evs1 (ev_var rfl)) (.list (.lst _)) .lst))) ?_
  refine s_asg (ev_call (evs1 (ev_var rfl)) (Gp bs ts (Nat.lt_succ_of_le hbl) hok)) ?_
  refine s_skip (ev_or (or_f (ev_nt (ev_isi (ev_var rfl) (.tup _) rfl)) (or_f (ev_cmpE (ev_blt (evs1 (ev_var rfl)) (.len (.tup _))) ev_int cmp_ne_int ne_self) (or_f (ev_nt (ev_callP (evs3 (ev_var rfl) (ev_var rfl) (ev_var rfl)) (Gr _ _ _ _ ts (.lst _) (.lst _) (by omega)))) or_nil)))) ?_
  refine s_for (items := [.int 0, .int 1]) (fun _ st => st.H = [.list ((half bs.length 48 ts).map pr), .list ((half bs.length 49 ts).map pr)] ∧ st.s "_law_bits" = some (.str bs) ∧ st.s "_law_things" = some (.lst (ts.map pr)) ∧ st.s "_law_handed" = some (.tup [.str bs, .lst (ts.map pr)]) ∧
    st.s "_law_found" = some (.tup [.tup [.str (bs ++ [48]), .loc 0], .tup [.str (bs ++ [49]), .loc 1]])) (ev_list (evs2 ev_int ev_int) .lst) (.lst _) ⟨rfl, rfl, rfl, rfl, rfl⟩ ?_ ?_
  · rintro i v ⟨s, H'⟩ hv ⟨h1, h2, h3, h4, h5⟩ Q' hQ
    have h1 : H' = [.list ((half bs.length 48 ts).map pr), .list ((half bs.length 49 ts).map pr)] := h1
    subst h1
    have key : ∀ (x : Int) (c : Nat) (y : Nat), v = .int x → Idx [.list ((half bs.length 48 ts).map pr), .list ((half bs.length 49 ts).map pr)] (.str [48, 49]) (.int x) (.str [c]) → Idx [.list ((half bs.length 48 ts).map pr), .list ((half bs.length 49 ts).map pr)] (.tup [.tup [.str (bs ++ [48]), .loc 0], .tup [.str (bs ++ [49]), .loc 1]]) (.int x) (.tup [.str (bs ++ [c]), .loc y]) →
        View [.list ((half bs.length 48 ts).map pr), .list ((half bs.length 49 ts).map pr)] (.loc y) ((half bs.length c ts).map pr) → wSs (Calls C k) C.glo b04_half ((St.mk s [.list ((half bs.length 48 ts).map pr), .list ((half bs.length 49 ts).map pr)]).set "_law_half" v) Q' noX := fun x c y hx i1 i2 vw => by
      subst hx
      refine s_asg (ev_compIf (g := pr) (q := pr) (p := fun t => decide (sAt t.1 bs.length = c)) (rs := ts) (ev_var (by exact h3)) (.lst _)
        (fun t _ => ev_cmpE (ev_idx (ev_callP (evs1 (ev_idx (ev_var rfl) ev_int pr_name)) (Gs _ _)) (ev_blt (evs1 (ev_var (by exact h2))) (.len (.str _))) (.str (Int.natCast_nonneg _) (sgn_get _ (Nat.lt_succ_of_le hbl)))) (ev_idx ev_str (ev_var rfl) i1) (.eq (.self _) (.self _) rfl rfl) (eq_sign _ _)) (fun _ _ _ => ev_var rfl) .lst) ?_
      refine s_skip (ev_nt (ev_callP (evs3 (ev_idx (ev_var (by exact h5)) (ev_var rfl) i2) (ev_bin (ev_var (by exact h2)) (ev_idx ev_str (ev_var rfl) i1) (.cat ?_)) (ev_var rfl)) (Gr _ _ _ _ (half bs.length c ts) vw (.lst _) (Nat.le_trans (half_len _ _ _) (by omega))))) (s_nil (hQ _ (by exact ⟨rfl, h2, h3, h4, h5⟩)).1)
      rw [List.length_singleton]; omega
    rcases i with _ | _ | i
    · exact key 0 48 0 (Option.some.inj hv).symm (.str (by decide) rfl) (.tup (by decide) rfl) (.loc rfl)
    · exact key 1 49 1 (Option.some.inj hv).symm (.str (by decide) rfl) (.tup (by decide) rfl) (.loc rfl)
    · cases hv
  · rintro ⟨s, H'⟩ ⟨h1, h2, h3, h4, h5⟩
    have h1 : H' = [.list ((half bs.length 48 ts).map pr), .list ((half bs.length 49 ts).map pr)] := h1
    subst h1
    have g := Gj [.list ((half bs.length 48 ts).map pr), .list ((half bs.length 49 ts).map pr)] bs (bs ++ [49]) 48 _ _ (.loc 0) 1 (by omega) (.loc rfl) rfl
    rw [hj] at g
    refine s_skip (ev_nt (ev_callP (evs3 (ev_callP (evs2 (ev_idx (ev_var (by exact h5)) ev_int (.tup (by decide) rfl)) (ev_idx (ev_var (by exact h5)) ev_int (.tup (by decide) rfl))) g) (ev_var (by exact h2)) (ev_var (by exact h3))) (Gr _ _ _ _ ts (.lst _) (.lst _) (by omega)))) ?_
    refine s_ex (ev_append (ev_idx (ev_idx (ev_var (by exact h5)) ev_int (.tup (by decide) rfl)) ev_int (.tup (by decide) rfl)) rfl (evs1 (ev_tup (evs2 ev_int ev_int))) rfl ?_) ?_
    · rw [List.length_map]; omega
    refine s_ex (ev_append (ev_idx (ev_idx (ev_var (by exact h5)) ev_int (.tup (by decide) rfl)) ev_int (.tup (by decide) rfl)) rfl (evs1 (ev_tup (evs2 ev_int ev_int))) rfl ?_) ?_
    · rw [List.length_map]; omega
    exact s_ret (ev_callP (evs3 (ev_var (by exact h4)) (ev_var (by exact h2)) (ev_var (by exact h3))) (Gr _ _ _ _ ts (.lst _) (.lst _) (by omega))) ⟨rfl, trivial, rfl⟩
end
end
end Mine
set_option autoImplicit false
set_option genInjectivity false
set_option genSizeOf false
namespace Mine
noncomputable section
open PySem PySem.W PyProof.Rows

theorem law_args {l : OpenLaw} {n : Nat} (hmost : l.most = some n) {args : List WData} (hpre : l.row.claim.pre args = true) : ∃ ns : List Int, args = [.list (ns.map .int)] ∧ ns.length ≤ n := by
  obtain ⟨h1, h2⟩ := pre_splitW hpre
  obtain ⟨d, r, rfl, hd, hr⟩ := hasAllW_cons h1
  have := hasAllW_nil hr
  subst this
  obtain ⟨xs, rfl, hxs⟩ := hasW_list hd
  have key : ∀ xs : List WData, WShape.hasItems l.row.records xs .int = true → ∃ ns : List Int, xs = ns.map .int := by
    intro xs
    induction xs with
    | nil => intro _; exact ⟨[], rfl⟩
    | cons x xs ih =>
      intro h
      have h : (WShape.has l.row.records x .int && WShape.hasItems l.row.records xs .int) = true := h
      obtain ⟨i, rfl⟩ := hasW_int (Bool.and_eq_true_iff.mp h).1
      obtain ⟨ns, rfl⟩ := ih (Bool.and_eq_true_iff.mp h).2
      exact ⟨i :: ns, rfl⟩
  obtain ⟨ns, rfl⟩ := key xs hxs
  refine ⟨ns, rfl, ?_⟩
  have h2 : WTm.holds l.row.records l.pre { args := [.list (ns.map .int)] } = true := h2
  unfold OpenLaw.pre at h2
  have h3 := (holds_andW h2).1
  rw [hmost] at h3
  have h4 := condW_of h3 (w_not (w_lt w_lit (w_len_list (w_arg rfl))))
  rw [Bool.not_eq_true', decide_eq_false_iff_not, List.length_map] at h4
  exact Int.ofNat_le.mp (Int.not_lt.mp h4)

noncomputable def vRef (v : Value) : Option { a : Addr // v = .ref a } := match v with
  | .ref a => some ⟨a, rfl⟩
  | _ => none
noncomputable def vInt (v : Value) : Option { i : Int // ∃ t, v = .int i t } := match v with
  | .int i t => some ⟨i, t, rfl⟩
  | _ => none
noncomputable def oFn (d : Data) : Option { fd : FuncData // d = .func fd } := match d with
  | .func fd => some ⟨fd, rfl⟩
  | _ => none
noncomputable def bSt (b : FuncBody) : Option { ss : List Stmt // b = .stmts ss } := match b with
  | .stmts ss => some ⟨ss, rfl⟩
  | _ => none

noncomputable def isFn (K : Frag) (fd : FuncData) (ps : List String) : Bool :=
  codeIn K fd.code fd.qualname && fd.closure.isEmpty && Nat.beq fd.globals mainGlobals && Nat.beq fd.builtins builtinsNs &&
  fd.scope.kind == .function && !fd.scope.isCoroutine && !fd.scope.isGenerator && (ps.all fun p => kd fd.scope p == some .local || kd fd.scope p == some .cell) &&
  (fd.scope.names.all fun p => !(p.2 == .free)) && decide ps.Nodup
noncomputable def glo? (K : Frag) (f : String) : Option Value := (nsIn K mainGlobals f).bind id
noncomputable def fnAt (K : Frag) (f : String) : Option (Addr × Obj) := (glo? K f).bind fun v => (vRef v).bind fun a => (K.lookup a.1).map fun o => (a.1, o)
noncomputable def fdAt (K : Frag) (f : String) : Option FuncData := (fnAt K f).bind fun x => (oFn x.2.data).map (·.1)
noncomputable def fnChk (K : Frag) (f : String) (ps : List String) : Bool := (fnAt K f).any fun x => (oFn x.2.data).any fun fd => isFn K fd.1 ps
/-- the body of a def as a term of ours -/
noncomputable def bodyAt (K : Frag) (N : Nm) (n : Nat) (f : String) : Option Ss := (fdAt K f).bind fun fd => (bSt fd.body).map fun b => cSs N n fd.scope b.1

theorem lenS {P : List Value → Prop} {n : Nat} (h : ∀ a r, r.length = n → P (a :: r)) (l : List Value) (e : l.length = n + 1) : P l := by
  cases l with
  | nil => cases e
  | cons a r => exact h a r (Nat.succ.inj e)
theorem len0 {P : List Value → Prop} (h : P []) (l : List Value) (e : l.length = 0) : P l := by rw [List.eq_nil_of_length_eq_zero e]; exact h
theorem len1 {P : List Value → Prop} (h : ∀ a, P [a]) : ∀ l, l.length = 1 → P l := lenS fun a => len0 (P := fun r => P (a :: r)) (h a)
theorem len2 {P : List Value → Prop} (h : ∀ a b, P [a, b]) : ∀ l, l.length = 2 → P l := lenS fun a => len1 (P := fun r => P (a :: r)) (h a)
theorem len3 {P : List Value → Prop} (h : ∀ a b c, P [a, b, c]) : ∀ l, l.length = 3 → P l := lenS fun a => len2 (P := fun r => P (a :: r)) (h a)
theorem any_inv {α : Type} {o : Option α} {p : α → Bool} (h : o.any p = true) : ∃ x, o = some x ∧ p x = true := by
  cases o with
  | none => cases h
  | some x => exact ⟨x, rfl, h⟩

section
variable {prog : Program} {w : World} {s : Shared} {mg mb : Str → Option Value} {K : Frag}

noncomputable def gloOf (gl : List (String × Int)) (x : String) : Option V := (gl.lookup x).map .int
noncomputable def gloChk (K : Frag) (gl : List (String × Int)) : Bool := gl.all fun p => (glo? K p.1).any fun v => (vInt v).any fun j => p.2 == j.1
noncomputable def hasFn (K : Frag) (f : String) : Bool := (fdAt K f).isSome
noncomputable def bltChk (K : Frag) : Bool := bltNames.all fun f => (nsIn K mainGlobals f).any fun o => o.isNone

theorem glo_of {f : String} {v : Value} (e : glo? K f = some v) : nsIn K mainGlobals f = some (some v) := by
  obtain ⟨o, h1, h2⟩ := Option.bind_eq_some_iff.mp e
  rw [h1]; exact congrArg some h2
theorem fn_of {f : String} {x : Addr × Obj} (e : fnAt K f = some x) : nsIn K mainGlobals f = some (some (.ref x.1)) ∧ K.lookup x.1 = some x.2 := by
  obtain ⟨v, h1, h2⟩ := Option.bind_eq_some_iff.mp e
  obtain ⟨a, h3, h4⟩ := Option.bind_eq_some_iff.mp h2
  obtain ⟨o, h5, rfl⟩ := Option.map_eq_some_iff.mp h4
  exact ⟨a.2 ▸ glo_of h1, h5⟩

theorem lookup_in {gl : List (String × Int)} {x : String} {i : Int} (e : gl.lookup x = some i) : (x, i) ∈ gl := by
  induction gl with
  | nil => cases e
  | cons p r ih =>
    rw [show (p :: r).lookup x = if (x == p.1) = true then some p.2 else r.lookup x by rw [List.lookup]; cases x == p.1 <;> rfl] at e
    by_cases q : (x == p.1) = true
    · rw [if_pos q] at e; cases e
      rw [show x = p.1 from beq_iff_eq.mp q]; exact List.mem_cons_self
    · rw [if_neg q] at e; exact List.mem_cons_of_mem _ (ih e)
theorem gloChk_ok (X : K.In s.heap) (G : s.heap.Ns mainGlobals mg) {gl : List (String × Int)} (h : gloChk K gl = true) (x : String) (v : V) (e : gloOf gl x = some v) : ∃ i t, v = .int i ∧ mg x = some (.int i t) := by
  obtain ⟨i, ei, rfl⟩ := Option.map_eq_some_iff.mp e
  obtain ⟨v, h1, h2⟩ := any_inv (List.all_eq_true.mp h _ (lookup_in ei))
  obtain ⟨⟨j, t, hj⟩, _, h3⟩ := any_inv h2
  have h3 : i = j := beq_iff_eq.mp h3
  subst h3
  exact ⟨i, t, rfl, hj ▸ mg_of X G (glo_of h1)⟩

theorem hasFn_ok (X : K.In s.heap) (G : s.heap.Ns mainGlobals mg) {f : String} (h : hasFn K f = true) : ∃ fa o fd, mg (f : Str) = some (.ref fa) ∧ s.heap.get? fa = some o ∧ o.data = .func fd := by
  obtain ⟨fd, h⟩ := Option.isSome_iff_exists.mp h
  obtain ⟨x, h1, h2⟩ := Option.bind_eq_some_iff.mp h
  obtain ⟨d, _, rfl⟩ := Option.map_eq_some_iff.mp h2
  exact ⟨x.1, x.2, d.1, mg_of X G (fn_of h1).1, X _ _ (fn_of h1).2, d.2⟩

theorem blt_boot : ∀ f ∈ bltNames, bootBuiltins (f : Str) = some (bltVal f) ∧ (f : Str) ≠ ("__name__" : Str) := by decide +kernel

noncomputable def mkCx (prog : Program) (w : World) (s : Shared) (mg mb : Str → Option Value) (K : Frag) (X : K.In s.heap) (G : s.heap.Ns mainGlobals mg) (B : s.heap.Ns builtinsNs mb) (nl : s.heap.NoLimit)
    (hb : ∀ n : Str, n ≠ ("__name__" : Str) → mb n = bootBuiltins n) (fs : List String) (gl : List (String × Int)) (hg : gloChk K gl = true) (hf : fs.all (hasFn K) = true) (hbl : bltChk K = true) (exs : List String) (hx : ∀ c ∈ exs, ∃ cls, ExcCls s.heap mg exs c cls) : Cx where
  prog := prog
  w := w
  base := s.heap
  os := s.os
  mg := mg
  mb := mb
  g := G
  b := B
  nolimit := nl
  glo := gloOf gl
  hglo := gloChk_ok X G hg
  fns := fs
  exs := exs
  hexs := hx
  hfns := fun f h => hasFn_ok X G (List.all_eq_true.mp hf f h)
  blts := fun f h => by
    obtain ⟨o, h1, h2⟩ := any_inv (List.all_eq_true.mp hbl f h)
    rw [Option.isNone_iff_eq_none.mp h2] at h1
    exact ⟨mg_none_of X G h1, by rw [hb _ (blt_boot f h).2]; exact (blt_boot f h).1⟩

theorem fnChk_ok (C : Cx) (X : K.In C.base) {f : String} {ps : List String} {ss : Ss} {l : List String} {n : Nat} (h : fnChk K f ps = true) (hb : ∀ vals : List Value, vals.length = ps.length → (fdAt K f).map (fun fd => bindArgs fd ⟨vals, []⟩) = some (pure (zipS ps vals)))
    (hc : bodyAt K (C.nm l) n f = some ss) : FnOk C f ps ss := by
  obtain ⟨x, e1, h⟩ := any_inv (o := fnAt K f) h
  obtain ⟨fd, e2, h⟩ := any_inv h
  have e3 : fdAt K f = some fd.1 := by rw [fdAt, e1]; show (oFn x.2.data).map _ = _; rw [e2]; rfl
  simp only [isFn, Bool.and_eq_true, beq_iff_eq, Bool.not_eq_true', decide_eq_true_eq, List.isEmpty_iff, List.all_eq_true, Bool.or_eq_true] at h
  obtain ⟨⟨⟨⟨⟨⟨⟨⟨⟨h1, h3⟩, h4⟩, h5⟩, h6⟩, h7⟩, h8⟩, h15⟩, h16⟩, h17⟩ := h
  rw [bodyAt, e3] at hc
  obtain ⟨b, _, hc⟩ := Option.map_eq_some_iff.mp (show (bSt fd.1.body).map _ = some ss from hc)
  refine ⟨x.1, x.2, fd.1, b.1, ⟨mg_of X C.g (fn_of e1).1, X _ _ (fn_of e1).2, fd.2, codeRec_of X h1, b.2, h3, Nat.eq_of_beq_eq_true h4, Nat.eq_of_beq_eq_true h5, h6, h7, h8, fun vals hl => ?_, h15, fun n e => ?_, h17, fun k => hc ▸ soundSs n _ _⟩⟩
  · have := hb vals hl
    rw [e3] at this
    exact Option.some.inj this
  · exact Bool.noConfusion ((show (NameKind.free == NameKind.free) = true from rfl).symm.trans (h16 _ (lookup_mem e)))

noncomputable def noGh : Gh := ⟨fun _ => False, fun _ => False, fun _ h => h, fun _ => False, fun _ => False, fun _ h => h⟩
/-- the law's call, from what its def does -/
theorem law_end {l : OpenLaw} {C : Cx} {k : Nat} {s₀ s₁ : Shared} {args : List WData} {vals : List Value} {fa : Addr} {n : Nat} (hp : C.prog = l.row.prog) (hb : C.base = s₁.heap) (ho : C.os = s₁.os) (hg : s₁.gens = #[]) (hmost : l.most = some n) (hn : n ≤ 1000)
    (hpre : l.row.claim.pre args = true) (hwl : WellAll C.w.params s₁.heap vals args) (hfa : C.mg ("law" : String) = some (.ref fa)) (hk : k ≤ 400)
    (law : ∀ ns : List Int, ns.length ≤ n → Calls C k "law" [.lst (ns.map .int)] [] (.ok (.bool true)) []) :
    wpAny (model l.row.prog C.w) callerA (call (.ref fa) vals) (fun v s' => GoodWG l.row.claim (classAt s₀.heap) (ExcName.means s₀.heap) args s₁ (.ok (.ret v)) s')
      (fun e s' => GoodWG l.row.claim (classAt s₀.heap) (ExcName.means s₀.heap) args s₁ (.error e) s') s₁ := by
  obtain ⟨ns, rfl, hlen⟩ := law_args hmost hpre
  have I0 : Inv C noGh [] [] s₁ := ⟨fun b o e => by rw [← hb]; exact e, rfl, List.nodup_nil, (fun a h => by cases h), (fun a h => by cases h), (fun i a o h => by simp at h), (fun a h => by cases h), (fun i a o h => by simp at h), (fun a h => h.elim), (fun a h => h.elim), (fun a h => h.elim), (fun a h => h.elim), (fun _ a h => h.elim), hg, ho.symm⟩
  have hargs : RelL s₁.heap [] (Nl noGh [] []) [.lst (ns.map .int)] vals := by
    cases hwl with
    | cons h1 h2 =>
      cases h2
      cases h1 with
      | list ha hall =>
        refine .cons (.lst ⟨_, ha⟩ (fun q => ?_) (by simp [maxLen]; omega) ?_) .nil
        · rcases q with ⟨i, o, h, _⟩ | h
          · simp at h
          · exact h
        · clear ha hpre
          rename_i vs
          have key : ∀ (ns : List Int) (vs : List Value), WellAll C.w.params s₁.heap vs (ns.map .int) → RelL s₁.heap [] (Nl noGh [] []) (ns.map .int) vs := by
            intro ns
            induction ns with
            | nil => intro vs h; cases h; exact .nil
            | cons i ns ih =>
              intro vs h
              cases h with
              | cons a b => cases a; exact .cons (.int _ _) (ih _ b)
          exact key ns vs hall
  have hroom : Room k callerA noGh := ⟨by show 1 + claimMargin + k < 900; unfold claimMargin; omega, by show 4 + 4 * k < 9000; omega, (fun v h => by cases h), [], rfl, fun _ h => by cases h⟩
  have hc := law ns hlen callerA s₁ noGh [] vals fa hroom I0 hargs hfa
  rw [show C.M = model l.row.prog C.w by rw [← hp]] at hc
  refine enter_call (codeAny_mono hc fun res s' p => ?_)
  refine GoodW.toG ?_
  cases res with
  | error e => exact p.elim
  | ok fl =>
    cases fl with
    | next => exact p.elim
    | brk => exact p.elim
    | cont => exact p.elim
    | ret mv =>
      obtain ⟨ρ', r, I', S⟩ := p
      cases r
      refine ⟨.inl ⟨_, .bool true, [], rfl, fun cls => rfl, .bool true, ?_, fun _ => ⟨List.nodup_nil, fun a h => by cases h⟩⟩, fun b o e => I'.base b o (by rw [hb]; exact e), I'.os.trans ho, I'.gens⟩
      exact postW_of (show WShape.has l.row.records (.bool true) .bool = true by simp [WShape.has, WShape.arms]) (w_eq_bool (w_res rfl) w_lit) rfl
end
end
end Mine
open PySem PySem.W PyProof.Rows
set_option Elab.async false
set_option maxRecDepth 100000
set_option maxHeartbeats 8000000
namespace Mine
open_top hd04 for PySem.Challenge.rw_uf050020_04
theorem walk04 : PySem.Challenge.rw_uf050020_04.Holds := by
  apply hd04
  intro w s₀ s₁ mg mb G Y fa o pm cd doc dV kV ho hd hcd hD hmg hg args vals as hpre hlay hrd hwl hlo
  have KX := kIn_of Y
  refine Ground.open G ?_
  intro T B D TE TW
  let C : Cx := mkCx PySem.Challenge.rw_uf050020_04.row.prog w s₁ mg mb _ KX T.g T.b T.nolimit T.builtins ["need_name", "mixed", "signs", "with_thing", "parted", "joined", "_law_whole", "_law_cell_at", "_law_signs", "_law_known", "_law_is_room", "_law_is_in"] [("SIGNS", 8)] (by kernel_rfl) (by kernel_rfl) (by kernel_rfl) [] (fun _ h => nomatch h)
  have F1 : FnOk C "with_thing" ["things", "name", "value"] b_with_thing := fnChk_ok C KX (l := nms) (n := 40) (by kernel_rfl) (len3 fun _ _ _ => by kernel_rfl) (by kernel_rfl)
  have F2 : FnOk C "joined" ["one", "other"] b_joined := fnChk_ok C KX (l := nms) (n := 40) (by kernel_rfl) (len2 fun _ _ => by kernel_rfl) (by kernel_rfl)
  have F3 : FnOk C "_law_whole" ["_law_found"] b_law_whole := fnChk_ok C KX (l := nms) (n := 40) (by kernel_rfl) (len1 fun _ => by kernel_rfl) (by kernel_rfl)
  have F4 : FnOk C "_law_cell_at" ["_law_script", "_law_k"] b_law_cell_at := fnChk_ok C KX (l := nms) (n := 40) (by kernel_rfl) (len2 fun _ _ => by kernel_rfl) (by kernel_rfl)
  have F5 : FnOk C "_law_signs" ["_law_name"] b_law_signs := fnChk_ok C KX (l := nms) (n := 40) (by kernel_rfl) (len1 fun _ => by kernel_rfl) (by kernel_rfl)
  have F6 : FnOk C "_law_known" ["_law_bits"] b_law_known := fnChk_ok C KX (l := nms) (n := 40) (by kernel_rfl) (len1 fun _ => by kernel_rfl) (by kernel_rfl)
  have F7 : FnOk C "need_name" ["name"] b_need_name := fnChk_ok C KX (l := nms) (n := 40) (by kernel_rfl) (len1 fun _ => by kernel_rfl) (by kernel_rfl)
  have F8 : FnOk C "mixed" ["name"] b_mixed := fnChk_ok C KX (l := nms) (n := 40) (by kernel_rfl) (len1 fun _ => by kernel_rfl) (by kernel_rfl)
  have F9 : FnOk C "signs" ["name"] b_signs := fnChk_ok C KX (l := nms) (n := 40) (by kernel_rfl) (len1 fun _ => by kernel_rfl) (by kernel_rfl)
  have F10 : FnOk C "parted" ["room"] b_parted := fnChk_ok C KX (l := nms) (n := 40) (by kernel_rfl) (len1 fun _ => by kernel_rfl) (by kernel_rfl)
  have F11 : FnOk C "_law_is_room" ["_law_found", "_law_bits", "_law_due"] b_law_is_room := fnChk_ok C KX (l := nms) (n := 40) (by kernel_rfl) (len3 fun _ _ _ => by kernel_rfl) (by kernel_rfl)
  have F12 : FnOk C "_law_is_in" ["_law_name", "_law_way", "_law_draw"] b_law_is_in := fnChk_ok C KX (l := nms) (n := 40) (by kernel_rfl) (len3 fun _ _ _ => by kernel_rfl) (by kernel_rfl)
  have F13 : FnOk C "law" ["_law_script"] b_law := fnChk_ok C KX (l := nms) (n := 40) (by kernel_rfl) (len1 fun _ => by kernel_rfl) (by kernel_rfl)
  refine law_end (C := C) (k := 5) (n := 63) rfl rfl rfl hg rfl (by decide) hpre hwl hmg (by decide) fun ns _ => ?_
  exact law_plain (k := 4) F13 ns (fun H j => (c_cell_at (k := 0) F4 ns j).mono (by decide)) (fun H n => (c_signs (k := 0) F5 n).mono (by decide)) (fun cs h => (c_known (k := 0) F6 cs h).mono (by decide)) (fun H n w d => (c_is_in (k := 0) F12 n w d).mono (by decide))
    (fun bs ts hb ht => c_parted (k := 3) F10 bs ts hb ht fun H n h0 h1 => c_sgn (k := 2) F9 rfl (c_mixed (k := 1) F8 (c_need (k := 0) F7 h0 h1)))
    (fun H bs v u ts h1 h2 h3 => (c_is_room (k := 1) F11 (fun n => c_whole (k := 0) F3 n) bs v u ts h1 h2 h3).mono (by decide))
    (fun H b0 b1 c ts us va j h hv hu => (c_joinedL (k := 1) F2 (fun H ts n v h => c_with (k := 0) F1 ts n v h) b0 b1 c ts us h hv hu).mono (by decide))
end Mine
set_option maxRecDepth 100000 in
set_option maxHeartbeats 8000000 in
theorem PySem.Challenge.cw_uf050020_04_holds : PySem.Challenge.rw_uf050020_04.Holds := by
  exact Mine.walk04
