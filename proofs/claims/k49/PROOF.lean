import PyProof.Rows.All
import Wide.All
import OpenK.AllK
import Wide.FinOn
import HandS.ForMost
import HandS.ForExc
import HandS.Defaults
import HandS.IsInst
import HandS.Flow
import HandS.Style
import HandS.Zip
import HandS.Wide
import HandS.SortInts
import HandS.DictComp
import HandS.More
import HandS.HeadHook1
import HandS.HeadHook2
import KE.KDictPairs
import HandS.SetFor
import HandS.Strs
import HandS.Walk
import HandS.Steps
import HandS.TupAny
import HandS.ExcInit
import HandS.ExcOwn
import HandS.ExcIs
import HandS.ExcField
import HandS.ExcValue
import HandS.MakeKw
import KE.KExcIs
import KE.KStateDown
import HandS.Head0
import HandS.Head1
import HandS.Head2
import HandS.HeadEnd
import HandS.Words
import HandS.WordsExc
import PySem.Challenge.RW_tidecopy_k49_refusals_apart
set_option Elab.async false
set_option linter.all false
set_option maxRecDepth 100000
namespace T
/-! ### keys, rising -/
def ksOf (N : Nat) (p : Int → Bool) : List Int := ((List.range N).map Int.ofNat).filter p
theorem mem_ksOf {N : Nat} {p : Int → Bool} {k : Int} : k ∈ ksOf N p ↔ 0 ≤ k ∧ k < N ∧ p k = true := by
  unfold ksOf
  rw [List.mem_filter, List.mem_map]
  constructor
  · rintro ⟨⟨a, ha, rfl⟩, hp⟩
    have := List.mem_range.mp ha
    exact ⟨Int.natCast_nonneg a, by show (a : Int) < N; omega, hp⟩
  · rintro ⟨h0, h1, hp⟩
    exact ⟨⟨k.toNat, List.mem_range.mpr (by omega), by show ((k.toNat : Nat) : Int) = k; omega⟩, hp⟩
theorem ksOf_lt (N : Nat) (p : Int → Bool) : (ksOf N p).Pairwise (· < ·) := by
  unfold ksOf
  refine List.Pairwise.filter _ (List.Pairwise.map _ ?_ List.pairwise_lt_range)
  intro a b h
  show (a : Int) < b
  omega
theorem ksOf_le (N : Nat) (p : Int → Bool) : (ksOf N p).Pairwise (· ≤ ·) := (ksOf_lt N p).imp fun h => Int.le_of_lt h
theorem ksOf_nodup (N : Nat) (p : Int → Bool) : (ksOf N p).Nodup := (ksOf_lt N p).imp fun h => Int.ne_of_lt h
theorem ksOf_unique {N : Nat} {p : Int → Bool} {ys : List Int} (hs : ys.Pairwise (· ≤ ·)) (nd : ys.Nodup) (hm : ∀ k, k ∈ ys ↔ 0 ≤ k ∧ k < N ∧ p k = true) : ys = ksOf N p := by
  refine List.Perm.eq_of_pairwise (fun a b _ _ h1 h2 => Int.le_antisymm h1 h2) hs (ksOf_le N p) ?_
  exact (List.perm_ext_iff_of_nodup nd (ksOf_nodup N p)).mpr fun k => (hm k).trans mem_ksOf.symm
theorem ksOf_len {N : Nat} {p : Int → Bool} : (ksOf N p).length ≤ N := by
  unfold ksOf
  refine Nat.le_trans (List.length_filter_le _ _) ?_
  rw [List.length_map, List.length_range]
  exact Nat.le_refl _
theorem ksOf_congr {N : Nat} {p q : Int → Bool} (h : ∀ k : Int, 0 ≤ k → k < N → p k = q k) : ksOf N p = ksOf N q := by
  unfold ksOf
  refine List.filter_congr fun k hk => ?_
  obtain ⟨a, ha, rfl⟩ := List.mem_map.mp hk
  have := List.mem_range.mp ha
  exact h _ (Int.natCast_nonneg a) (by show (a : Int) < N; omega)

/-! ### tables by functions -/
def tabOf (g : Int → Option Int) : List (Int × Int) := (ksOf 1000 fun k => (g k).isSome).map fun k => (k, (g k).getD 0)
theorem tabOf_congr {g h : Int → Option Int} (e : ∀ k, 0 ≤ k → k < 1000 → g k = h k) : tabOf g = tabOf h := by
  unfold tabOf
  rw [ksOf_congr (q := fun k => (h k).isSome) fun k h0 h1 => by rw [e k h0 h1]]
  refine List.map_congr_left fun k hk => ?_
  obtain ⟨h0, h1, _⟩ := mem_ksOf.mp hk
  rw [e k h0 h1]
theorem mem_tabOf {g : Int → Option Int} {k w : Int} : (k, w) ∈ tabOf g ↔ 0 ≤ k ∧ k < 1000 ∧ g k = some w := by
  unfold tabOf
  rw [List.mem_map]
  constructor
  · rintro ⟨j, hj, e⟩
    obtain ⟨h0, h1, h2⟩ := mem_ksOf.mp hj
    cases e
    refine ⟨h0, h1, ?_⟩
    cases hg : g k with
    | none => rw [hg] at h2; cases h2
    | some v => rfl
  · rintro ⟨h0, h1, h2⟩
    refine ⟨k, mem_ksOf.mpr ⟨h0, h1, by rw [h2]; rfl⟩, ?_⟩
    rw [h2]; rfl
/-- a table's function -/
def fnOf (t : List (Int × Int)) (k : Int) : Option Int := (t.find? fun p => decide (p.1 = k)).map (·.2)

/-! ### lists of pairs -/
section
variable {α β : Type}
def aget (m : List (Int × α)) (k : Int) : Option α := (m.find? fun p => decide (p.1 = k)).map (·.2)
theorem aget_nil {k : Int} : aget ([] : List (Int × α)) k = none := rfl
theorem aget_cons {p : Int × α} {m : List (Int × α)} {k : Int} : aget (p :: m) k = if p.1 = k then some p.2 else aget m k := by
  unfold aget
  rw [List.find?_cons]
  by_cases e : p.1 = k
  · rw [if_pos e, decide_eq_true e]; rfl
  · rw [if_neg e, decide_eq_false e]
theorem aget_some {m : List (Int × α)} {k : Int} {v : α} (h : aget m k = some v) : (k, v) ∈ m := by
  induction m with
  | nil => cases h
  | cons p m ih =>
    rw [aget_cons] at h
    by_cases e : p.1 = k
    · rw [if_pos e] at h
      cases h
      subst e
      exact List.mem_cons_self
    · rw [if_neg e] at h
      exact List.mem_cons_of_mem _ (ih h)
theorem aget_isSome {m : List (Int × α)} {k : Int} : (aget m k).isSome = true ↔ k ∈ m.map (·.1) := by
  induction m with
  | nil => simp [aget]
  | cons p m ih =>
    rw [aget_cons, List.map_cons, List.mem_cons]
    by_cases e : p.1 = k
    · rw [if_pos e]; simp [e]
    · rw [if_neg e, ih]
      constructor
      · exact .inr
      · rintro (h | h)
        · exact absurd h.symm e
        · exact h
theorem aget_mem {m : List (Int × α)} {k : Int} {v : α} (nd : (m.map (·.1)).Nodup) (h : (k, v) ∈ m) : aget m k = some v := by
  induction m with
  | nil => cases h
  | cons p m ih =>
    rw [aget_cons]
    rw [List.map_cons, List.nodup_cons] at nd
    rcases List.mem_cons.mp h with e | h
    · subst e; rw [if_pos rfl]
    · have ne : ¬ p.1 = k := fun e => nd.1 (e ▸ List.mem_map.mpr ⟨_, h, rfl⟩)
      rw [if_neg ne]
      exact ih nd.2 h
end
/-! ### stretches -/
def spanStep (acc : List (Int × Int)) (k : Int) : List (Int × Int) := match acc.getLast? with
  | some s => if s.2 = k then acc.dropLast ++ [(s.1, k + 1)] else acc ++ [(k, k + 1)]
  | none => [(k, k + 1)]
def spansOf (p : Int → Bool) : List (Int × Int) := (ksOf 1000 p).foldl spanStep []
theorem spansOf_congr {p q : Int → Bool} (h : ∀ k, 0 ≤ k → k < 1000 → p k = q k) : spansOf p = spansOf q := by
  unfold spansOf
  rw [ksOf_congr h]
def inSpans (l : List (Int × Int)) (k : Int) : Prop := ∃ s ∈ l, s.1 ≤ k ∧ k < s.2
theorem spanStep_mem {acc : List (Int × Int)} {k j : Int} (h : ∀ s ∈ acc, s.1 < s.2) : (inSpans (spanStep acc k) j ↔ inSpans acc j ∨ j = k) ∧ ∀ s ∈ spanStep acc k, s.1 < s.2 := by
  unfold spanStep
  rcases List.eq_nil_or_concat acc with rfl | ⟨r, s, rfl⟩
  · show (inSpans [(k, k + 1)] j ↔ _) ∧ _
    constructor
    · constructor
      · rintro ⟨s, hs, h1, h2⟩
        rw [List.mem_singleton] at hs
        subst hs
        exact .inr (by show j = k; have h1 : k ≤ j := h1; have h2 : j < k + 1 := h2; omega)
      · rintro (⟨s, hs, _⟩ | rfl)
        · cases hs
        · exact ⟨_, List.mem_singleton.mpr rfl, Int.le_refl _, by show j < j + 1; omega⟩
    · intro s hs
      have hs : s ∈ [(k, k + 1)] := hs
      rw [List.mem_singleton] at hs
      subst hs
      show k < k + 1
      omega
  · simp only [List.concat_eq_append] at h ⊢
    rw [List.getLast?_concat]
    have hs : s.1 < s.2 := h s (by simp)
    have hr : ∀ q ∈ r, q.1 < q.2 := fun q hq => h q (by simp [hq])
    show (inSpans (if s.2 = k then (r ++ [s]).dropLast ++ [(s.1, k + 1)] else r ++ [s] ++ [(k, k + 1)]) j ↔ _) ∧ ∀ q ∈ (if s.2 = k then (r ++ [s]).dropLast ++ [(s.1, k + 1)] else r ++ [s] ++ [(k, k + 1)]), q.1 < q.2
    by_cases e : s.2 = k
    · rw [if_pos e, List.dropLast_concat]
      constructor
      · constructor
        · rintro ⟨q, hq, h1, h2⟩
          rcases List.mem_append.mp hq with hq | hq
          · exact .inl ⟨q, by simp [hq], h1, h2⟩
          · rw [List.mem_singleton] at hq
            subst hq
            have h1 : s.1 ≤ j := h1
            have h2 : j < k + 1 := h2
            by_cases e2 : j = k
            · exact .inr e2
            · exact .inl ⟨s, by simp, h1, by omega⟩
        · rintro (⟨q, hq, h1, h2⟩ | rfl)
          · rcases List.mem_append.mp hq with hq | hq
            · exact ⟨q, by simp [hq], h1, h2⟩
            · rw [List.mem_singleton] at hq
              subst hq
              exact ⟨(q.1, k + 1), by simp, h1, by show j < k + 1; omega⟩
          · exact ⟨(s.1, j + 1), by simp, by show s.1 ≤ j; omega, by show j < j + 1; omega⟩
      · intro q hq
        rcases List.mem_append.mp hq with hq | hq
        · exact hr q hq
        · rw [List.mem_singleton] at hq
          subst hq
          show s.1 < k + 1
          omega
    · rw [if_neg e]
      constructor
      · constructor
        · rintro ⟨q, hq, h1, h2⟩
          rcases List.mem_append.mp hq with hq | hq
          · exact .inl ⟨q, hq, h1, h2⟩
          · rw [List.mem_singleton] at hq
            subst hq
            exact .inr (by have h1 : k ≤ j := h1; have h2 : j < k + 1 := h2; omega)
        · rintro (⟨q, hq, h1, h2⟩ | rfl)
          · exact ⟨q, List.mem_append.mpr (.inl hq), h1, h2⟩
          · exact ⟨(j, j + 1), by simp, Int.le_refl _, by show j < j + 1; omega⟩
      · intro q hq
        rcases List.mem_append.mp hq with hq | hq
        · exact h q hq
        · rw [List.mem_singleton] at hq
          subst hq
          show k < k + 1
          omega
theorem spanFold_mem {ks : List Int} : ∀ {acc : List (Int × Int)} {j : Int}, (∀ s ∈ acc, s.1 < s.2) → ((inSpans (ks.foldl spanStep acc) j ↔ inSpans acc j ∨ j ∈ ks) ∧ ∀ s ∈ ks.foldl spanStep acc, s.1 < s.2) := by
  induction ks with
  | nil =>
    intro acc j h
    exact ⟨⟨.inl, fun z => z.elim id fun q => by cases q⟩, h⟩
  | cons k ks ih =>
    intro acc j h
    have h1 := fun i => (spanStep_mem (acc := acc) (k := k) (j := i) h)
    obtain ⟨a, b⟩ := ih (acc := spanStep acc k) (j := j) (h1 j).2
    refine ⟨a.trans ?_, b⟩
    rw [(h1 j).1, List.mem_cons, or_assoc]
theorem mem_spansOf {p : Int → Bool} {k : Int} : inSpans (spansOf p) k ↔ 0 ≤ k ∧ k < 1000 ∧ p k = true := by
  unfold spansOf
  rw [(spanFold_mem (acc := []) (j := k) fun s hs => by cases hs).1]
  constructor
  · rintro (⟨s, hs, _⟩ | h)
    · cases hs
    · exact mem_ksOf.mp h
  · exact fun h => .inr (mem_ksOf.mpr h)
/-! ### changes -/
inductive Ch where
  | put (k w : Int)
  | drop (k : Int)
def Ch.key : Ch → Int
  | .put k _ => k
  | .drop k => k
def Ch.ok : Ch → Prop
  | .put k w => 0 ≤ k ∧ k < 1000 ∧ 0 ≤ w ∧ w < 1000
  | .drop k => 0 ≤ k ∧ k < 1000
abbrev Fn := Int → Option Int
def Ch.fn : Ch → Fn → Fn
  | .put k w, g => fun j => if j = k then some w else g j
  | .drop k, g => fun j => if j = k then none else g j
def chs (cs : List Ch) (g : Fn) : Fn := cs.foldl (fun g c => c.fn g) g
def chKeys (cs : List Ch) (k : Int) : Bool := cs.any fun c => decide (c.key = k)
inductive En where
  | grp (cs : List Ch)
  | low (l n : Int)
  | high (l n : Int)
def En.cs : En → List Ch
  | .grp cs => cs
  | _ => []
end T

set_option maxHeartbeats 2000000
namespace T
open PySem PySem.Spec PyProof.Rows L2

/-! ### data at any depth, carried along -/
mutual
theorem dpm {K : PySem.W.Frag} {H H' : Hp} (s : Same H H') : ∀ {v : V} {d : PyData}, Dp K H v d → Dp K H' v d
  | _, _, .non => .non
  | _, _, .bl b => .bl b
  | _, _, .int i => .int i
  | _, _, .str x => .str x
  | _, _, .lst h a => .lst (s.seq h) (dpma s a)
  | _, _, .tup h a => .tup (by
      rcases h with (h | ⟨o, h⟩) | h
      · exact .inl (.inl (s _ _ h))
      · exact .inl (.inr ⟨o, s _ _ h⟩)
      · exact .inr h) (dpma s a)
theorem dpma {K : PySem.W.Frag} {H H' : Hp} (s : Same H H') : ∀ {vs : List V} {ds : List PyData}, DpAll K H vs ds → DpAll K H' vs ds
  | _, _, .nil => .nil
  | _, _, .cons h a => .cons (dpm s h) (dpma s a)
end
theorem sqt_same {K : PySem.W.Frag} {H H' : Hp} {a : Addr} {xs : List V} (s : Same H H') (h : SqT K H a xs) : SqT K H' a xs := by
  rcases h with (h | ⟨o, h⟩) | h
  · exact .inl (.inl (s _ _ h))
  · exact .inl (.inr ⟨o, s _ _ h⟩)
  · exact .inr h
theorem same_new {H : Hp} {p : Addr} {o : HO} (h : H p = none) : Same H (upd H p o) := fun a u e => by
  rw [upd_ne (ne_of_none e h)]
  exact e
theorem same_mut {H H' : Hp} {p : Addr} {o : HO} (s : Same H H') (h : H p = none) : Same H (upd H' p o) := fun a u e => by
  rw [upd_ne (ne_of_none e h)]
  exact s a u e

/-! data without lists: told by tuples alone -/
mutual
inductive Dt (K : PySem.W.Frag) (H : Hp) : V → PyData → Prop
  | non : Dt K H .non .none
  | bl (b : Bool) : Dt K H (.bl b) (.bool b)
  | int (i : Int) : Dt K H (.int i) (.int i)
  | str (x : Str) : Dt K H (.str x) (.str x)
  | tup {a : Addr} {xs : List V} {ds : List PyData} : SqT K H a xs → DtAll K H xs ds → Dt K H (.ref a) (.tuple ds)
inductive DtAll (K : PySem.W.Frag) (H : Hp) : List V → List PyData → Prop
  | nil : DtAll K H [] []
  | cons {v : V} {vs : List V} {d : PyData} {ds : List PyData} : Dt K H v d → DtAll K H vs ds → DtAll K H (v :: vs) (d :: ds)
end
mutual
theorem Dt.dp {K : PySem.W.Frag} {H : Hp} : ∀ {v : V} {d : PyData}, Dt K H v d → Dp K H v d
  | _, _, .non => .non
  | _, _, .bl b => .bl b
  | _, _, .int i => .int i
  | _, _, .str x => .str x
  | _, _, .tup h a => .tup h (DtAll.dp a)
theorem DtAll.dp {K : PySem.W.Frag} {H : Hp} : ∀ {vs : List V} {ds : List PyData}, DtAll K H vs ds → DpAll K H vs ds
  | _, _, .nil => .nil
  | _, _, .cons h a => .cons (Dt.dp h) (DtAll.dp a)
end
/-- the tuples stand -/
def isTupO : HO → Bool
  | .tup _ => true
  | .frz _ (.tup _) => true
  | _ => false
def Tup (H H' : Hp) : Prop := ∀ a u, isTupO u = true → H a = some u → H' a = some u
theorem Tup.refl (H : Hp) : Tup H H := fun _ _ _ h => h
theorem Tup.trans {H H1 H2 : Hp} (a : Tup H H1) (b : Tup H1 H2) : Tup H H2 := fun c u t h => b c u t (a c u t h)
theorem Tup.of {H H' : Hp} (s : Same H H') : Tup H H' := fun a u _ h => s a u h
theorem tup_new {H : Hp} {p : Addr} {o : HO} (h : H p = none) : Tup H (upd H p o) := Tup.of (same_new h)
theorem tup_mut {H : Hp} {p : Addr} {o : HO} (m : Mut (H p)) : Tup H (upd H p o) := fun a u t e => by
  have ne : a ≠ p := fun z => by
    subst z
    rw [e] at m
    cases u with
    | tup xs => exact m
    | frz o u => exact m
    | _ => cases t
  rw [upd_ne ne]
  exact e
/-- a tuple whose object is known, with no dict: dict(..) may take it -/
def Ft (H : Hp) (a : Addr) (xs : List V) : Prop := ∃ o, H a = some (.frz o (.tup xs)) ∧ o.dict = none
theorem Ft.sqt {K : PySem.W.Frag} {H : Hp} {a : Addr} {xs : List V} (h : Ft H a xs) : SqT K H a xs := by
  obtain ⟨o, h, _⟩ := h
  exact .inl (.inr ⟨o, h⟩)
theorem Ft.tup {H H' : Hp} {a : Addr} {xs : List V} (s : Tup H H') (h : Ft H a xs) : Ft H' a xs := by
  obtain ⟨o, h, e⟩ := h
  exact ⟨o, s _ _ rfl h, e⟩
theorem sqt_tup {K : PySem.W.Frag} {H H' : Hp} {a : Addr} {xs : List V} (s : Tup H H') (h : SqT K H a xs) : SqT K H' a xs := by
  rcases h with (h | ⟨o, h⟩) | h
  · exact .inl (.inl (s _ _ rfl h))
  · exact .inl (.inr ⟨o, s _ _ rfl h⟩)
  · exact .inr h
mutual
theorem dtm {K : PySem.W.Frag} {H H' : Hp} (s : Tup H H') : ∀ {v : V} {d : PyData}, Dt K H v d → Dt K H' v d
  | _, _, .non => .non
  | _, _, .bl b => .bl b
  | _, _, .int i => .int i
  | _, _, .str x => .str x
  | _, _, .tup h a => .tup (sqt_tup s h) (dtma s a)
theorem dtma {K : PySem.W.Frag} {H H' : Hp} (s : Tup H H') : ∀ {vs : List V} {ds : List PyData}, DtAll K H vs ds → DtAll K H' vs ds
  | _, _, .nil => .nil
  | _, _, .cons h a => .cons (dtm s h) (dtma s a)
end
theorem dp_len {K : PySem.W.Frag} {H : Hp} : ∀ {vs : List V} {ds : List PyData}, DpAll K H vs ds → vs.length = ds.length
  | _, _, .nil => rfl
  | _, _, .cons _ a => by rw [List.length_cons, List.length_cons, dp_len a]
theorem dp_get {K : PySem.W.Frag} {H : Hp} : ∀ {vs : List V} {ds : List PyData} {i : Nat} {v : V}, DpAll K H vs ds → vs[i]? = some v → ∃ d, ds[i]? = some d ∧ Dp K H v d
  | _, _, i, v, .nil, e => by simp at e
  | _, _, 0, v, .cons h _, e => by
    have z := Option.some.inj e
    subst z
    exact ⟨_, rfl, h⟩
  | _, _, i + 1, v, .cons _ a, e => by
    obtain ⟨d, h1, h2⟩ := dp_get (i := i) a (by simpa using e)
    exact ⟨d, by simpa using h1, h2⟩
theorem dp_at {K : PySem.W.Frag} {H : Hp} : ∀ {vs : List V} {ds : List PyData} {i : Nat} {d : PyData}, DpAll K H vs ds → ds[i]? = some d → ∃ v, vs[i]? = some v ∧ Dp K H v d
  | _, _, i, v, .nil, e => by simp at e
  | _, _, 0, v, .cons h _, e => by
    have z := Option.some.inj e
    subst z
    exact ⟨_, rfl, h⟩
  | _, _, i + 1, v, .cons _ a, e => by
    obtain ⟨d, h1, h2⟩ := dp_at (i := i) a (by simpa using e)
    exact ⟨d, by simpa using h1, h2⟩
theorem dt_len {K : PySem.W.Frag} {H : Hp} {vs : List V} {ds : List PyData} (h : DtAll K H vs ds) : vs.length = ds.length := dp_len h.dp
theorem dt_at {K : PySem.W.Frag} {H : Hp} : ∀ {vs : List V} {ds : List PyData} {i : Nat} {d : PyData}, DtAll K H vs ds → ds[i]? = some d → ∃ v, vs[i]? = some v ∧ Dt K H v d
  | _, _, i, v, .nil, e => by simp at e
  | _, _, 0, v, .cons h _, e => by
    have z := Option.some.inj e
    subst z
    exact ⟨_, rfl, h⟩
  | _, _, i + 1, v, .cons _ a, e => by
    obtain ⟨d, h1, h2⟩ := dt_at (i := i) a (by simpa using e)
    exact ⟨d, by simpa using h1, h2⟩
theorem dt_get {K : PySem.W.Frag} {H : Hp} : ∀ {vs : List V} {ds : List PyData} {i : Nat} {v : V}, DtAll K H vs ds → vs[i]? = some v → ∃ d, ds[i]? = some d ∧ Dt K H v d
  | _, _, i, v, .nil, e => by simp at e
  | _, _, 0, v, .cons h _, e => by
    have z := Option.some.inj e
    subst z
    exact ⟨_, rfl, h⟩
  | _, _, i + 1, v, .cons _ a, e => by
    obtain ⟨d, h1, h2⟩ := dt_get (i := i) a (by simpa using e)
    exact ⟨d, by simpa using h1, h2⟩
theorem dta_append {K : PySem.W.Frag} {H : Hp} : ∀ {vs : List V} {ds : List PyData} {us : List V} {es : List PyData}, DtAll K H vs ds → DtAll K H us es → DtAll K H (vs ++ us) (ds ++ es)
  | _, _, _, _, .nil, b => b
  | _, _, _, _, .cons h a, b => .cons h (dta_append a b)
theorem dta_snoc {K : PySem.W.Frag} {H : Hp} {vs : List V} {ds : List PyData} {v : V} {d : PyData} (h : DtAll K H vs ds) (e : Dt K H v d) : DtAll K H (vs ++ [v]) (ds ++ [d]) := dta_append h (.cons e .nil)
theorem dta_take {K : PySem.W.Frag} {H : Hp} : ∀ {vs : List V} {ds : List PyData} (n : Nat), DtAll K H vs ds → DtAll K H (vs.take n) (ds.take n)
  | _, _, 0, _ => .nil
  | _, _, _ + 1, .nil => .nil
  | _, _, n + 1, .cons h a => .cons h (dta_take n a)
theorem dta_drop {K : PySem.W.Frag} {H : Hp} : ∀ {vs : List V} {ds : List PyData} (n : Nat), DtAll K H vs ds → DtAll K H (vs.drop n) (ds.drop n)
  | _, _, 0, a => a
  | _, _, _ + 1, .nil => .nil
  | _, _, n + 1, .cons _ a => dta_drop n a
theorem dpa_take {K : PySem.W.Frag} {H : Hp} : ∀ {vs : List V} {ds : List PyData} (n : Nat), DpAll K H vs ds → DpAll K H (vs.take n) (ds.take n)
  | _, _, 0, _ => .nil
  | _, _, _ + 1, .nil => .nil
  | _, _, n + 1, .cons h a => .cons h (dpa_take n a)
theorem dpa_drop {K : PySem.W.Frag} {H : Hp} : ∀ {vs : List V} {ds : List PyData} (n : Nat), DpAll K H vs ds → DpAll K H (vs.drop n) (ds.drop n)
  | _, _, 0, a => a
  | _, _, _ + 1, .nil => .nil
  | _, _, n + 1, .cons _ a => dpa_drop n a

/-! ### inversions -/
section
variable {K : PySem.W.Frag} {H : Hp} {v : V}
theorem dp_int {i : Int} (h : Dp K H v (.int i)) : v = .int i := by cases h; rfl
theorem dp_str {i : Str} (h : Dp K H v (.str i)) : v = .str i := by cases h; rfl
theorem dp_bl {i : Bool} (h : Dp K H v (.bool i)) : v = .bl i := by cases h; rfl
theorem dp_non (h : Dp K H v .none) : v = .non := by cases h; rfl
theorem dp_tup {ds : List PyData} (h : Dp K H v (.tuple ds)) : ∃ a xs, v = .ref a ∧ SqT K H a xs ∧ DpAll K H xs ds := by
  cases h with
  | tup h a => exact ⟨_, _, rfl, h, a⟩
theorem dp_lst {ds : List PyData} (h : Dp K H v (.list ds)) : ∃ a xs, v = .ref a ∧ SqL K H a xs ∧ DpAll K H xs ds := by
  cases h with
  | lst h a => exact ⟨_, _, rfl, h, a⟩
theorem dt_int {i : Int} (h : Dt K H v (.int i)) : v = .int i := by cases h; rfl
theorem dt_str {i : Str} (h : Dt K H v (.str i)) : v = .str i := by cases h; rfl
theorem dt_bl {i : Bool} (h : Dt K H v (.bool i)) : v = .bl i := by cases h; rfl
theorem dt_non (h : Dt K H v .none) : v = .non := by cases h; rfl
theorem dt_tup {ds : List PyData} (h : Dt K H v (.tuple ds)) : ∃ a xs, v = .ref a ∧ SqT K H a xs ∧ DtAll K H xs ds := by
  cases h with
  | tup h a => exact ⟨_, _, rfl, h, a⟩
/-- the type's name of data -/
def tyN : PyData → String
  | .none => "NoneType"
  | .bool _ => "bool"
  | .int _ => "int"
  | .str _ => "str"
  | .list _ => "list"
  | .tuple _ => "tuple"
  | .dict _ => "dict"
theorem dp_ty {d : PyData} (h : Dp K H v d) : TyX K H v (.type (tyN d)) := by
  cases h with
  | non => exact .base .non
  | bl b => exact .base (.bl b)
  | int i => exact .base (.int i)
  | str i => exact .base (.str i)
  | lst h a =>
    rcases h with (h | ⟨o, h⟩) | ⟨o, its, n, hk, hc, _⟩
    · exact .base (.lst h)
    · exact .base (.frz h)
    · exact .kList hk hc
  | tup h a =>
    rcases h with (h | ⟨o, h⟩) | ⟨o, its, n, hk, hc, _⟩
    · exact .base (.tup h)
    · exact .fTuple h
    · exact .kTuple hk hc
end

/-! ### defs, methods, classes as they are called -/
section
variable (P : Program) (w : World) (K : PySem.W.Frag) (mg : Str → Option Value) (base : Heap)
structure Ca (k : Nat) (x : Str) (sp : Sp) (dvs : List V) : Prop where
  ex : ∃ (f : Addr) (fd : FuncData) (ps : List Str) (ds : List Value), FnOk P w K mg base (L2.CX P w) k f fd ps sp ∧ mg x = some (.ref f) ∧ PySem.W.keepIn K (.ref f) = true ∧ Binds K fd ps ds ∧ Vals dvs ds
structure Mt (k : Nat) (C : Addr) (m : Str) (sp : Sp) (dvs : List V) : Prop where
  ex : ∃ (f : Addr) (fd : FuncData) (ps : List Str) (ds : List Value), Cls K C ∧ Meth K C m f ∧ FnOk P w K mg base (L2.CX P w) k f fd ps sp ∧ Binds K fd ps ds ∧ Vals dvs ds
structure Mx (k : Nat) (x : Str) (C : Addr) (sp : Sp) (dvs : List V) : Prop where
  ex : ∃ (f : Addr) (fd : FuncData) (ps : List Str) (ds : List Value), Mk K C f ∧ FnOk P w K mg base (L2.CX P w) k f fd ps sp ∧ mg x = some (.ref C) ∧ Binds K fd ps ds ∧ Vals dvs ds
end
section
variable {P : Program} {w : World} {K : PySem.W.Frag} {mg : Str → Option Value} {base : Heap}
theorem fn_mk {CX : CXT} {x qual : Str} {st : Stmt} {f : Addr} {fd : FuncData} {dvs : List V} {kws : List (Str × V)} {N ps : List Str} {k : Nat} {sp : Sp} (F : FunD K x qual (defArgs st) (defBody st) (defScope st) dvs kws f fd)
    (S : FnScope N ps (defScope st)) (len : ∀ vs H Q E, sp vs H Q E → vs.length = ps.length)
    (hbody : ∀ (cdv : Value) (A : Around) (outer : List Env) (s : Shared) (H : Hp) (vs : List V) (Q : VK) (E : XK), Room k (A.deeper (envOfC qual (defScope st) s.heap.objs.size f cdv)) → sp vs H Q E →
      ∃ t, PSs (cxOf CX P w K mg base N qual (defScope st) f cdv A outer s H E) (defBody st) t ∧ t { nx := fun _ H' => Q .non H', rt := Q } (start N vs) H) : FnOk P w K mg base CX (k + 1) f fd ps sp := FunD.ok F S len hbody
/-- a binding of all its parameters, no defaults -/
theorem bd_mk {x qual : Str} {st : Stmt} {f : Addr} {fd : FuncData} {ps : List Str} (F : FunD K x qual (defArgs st) (defBody st) (defScope st) [] [] f fd)
    (h : ∀ (kV doc pm : Value) (an : Option Addr) (cdv ct : Value) (us : List Value), us.length = ps.length → bindArgs (PySem.W.fnOf x qual (defArgs st) (defBody st) (defScope st) .none kV doc pm an cdv ct) ⟨us, []⟩ = pure (ps.zip us)) : Binds K fd ps [] := FunD.bindsN F h
end
section
variable {X : Cx} {k j : Nat} {C : Addr} {x m : Str} {sp : Sp} {dvs : List V} {p pos apos : Pos} {e o : Expr} {es : List Expr} {ta : TE} {t : TA}
theorem pe_ca (c : Ca X.prog X.w X.K X.mg X.base k x sp dvs) (hr : Room j X.A) (hk : k ≤ j) (hg : Gl X x) (ha : PA X (e :: es) t)
    (hdb : (x == ("__debug__" : Str)) = false := by decide) (he : starEach (e :: es) X.env = (false, eval e X.env) :: starEach es X.env := by rfl) (hpl : (backTo pos (starEach es X.env)).any (·.1) = false := by rfl) :
    PE X (.Call (.Name x p) (e :: es) [] pos) (tCall sp dvs E0 t) := by
  obtain ⟨f, fd, ps, ds, F, hm, kp, b, d⟩ := c.ex
  exact pe_call F (hr.mono hk) hg hm kp b d passL ha hdb he hpl
theorem pe_mx (c : Mx X.prog X.w X.K X.mg X.base k x C sp dvs) (hr : Room j X.A) (hk : k + 1 ≤ j) (hg : Gl X x) (ha : PA X (e :: es) t)
    (hdb : (x == ("__debug__" : Str)) = false := by decide) (he : starEach (e :: es) X.env = (false, eval e X.env) :: starEach es X.env := by rfl) (hpl : (backTo pos (starEach es X.env)).any (·.1) = false := by rfl) :
    PE X (.Call (.Name x p) (e :: es) [] pos) (tMake C sp dvs E0 t) := by
  obtain ⟨f, fd, ps, ds, M, F, hm, b, d⟩ := c.ex
  exact pe_make M F (hr.mono hk) hg hm b d passL ha hdb he hpl
theorem pe_mx0 (c : Mx X.prog X.w X.K X.mg X.base k x C sp dvs) (hr : Room j X.A) (hk : k + 1 ≤ j) (hg : Gl X x) (hdb : (x == ("__debug__" : Str)) = false := by decide) :
    PE X (.Call (.Name x p) [] [] pos) (tMake C sp dvs E0 tNil) := by
  obtain ⟨f, fd, ps, ds, M, F, hm, b, d⟩ := c.ex
  exact pe_make0 M F (hr.mono hk) hg hm b d passL hdb
theorem pe_mt_ {pl : Sem Bool} (c : Mt X.prog X.w X.K X.mg X.base k C m sp dvs) (hr : Room j X.A) (hk : k ≤ j) (he : PE X o ta) (ha : PA X (e :: es) t)
    (hst : starEach (e :: es) X.env = (false, eval e X.env) :: starEach es X.env := by rfl) (hpl : (backTo pos (starEach es X.env)).any (·.1) = false := by rfl)
    (ht : eval (.Call (.Attribute o m apos) (e :: es) [] pos) X.env = (do
      let ov ← eval o X.env
      standAt apos.atName
      let (f, first) ← holding [ov] (getMethod ov m pl)
      callWith pos f first (backTo pos (starEach (e :: es) X.env)) (backToKw pos (keywordEach [] X.env))) := by rfl) :
    PE X (.Call (.Attribute o m apos) (e :: es) [] pos) (tMeth C m sp dvs E0 ta t) := by
  obtain ⟨f, fd, ps, ds, hc, hm, F, b, d⟩ := c.ex
  exact pe_meth (pl := pl) he hc hm F (hr.mono hk) b d passL ha hst hpl ht
theorem pe_mt0_ {pl : Sem Bool} (c : Mt X.prog X.w X.K X.mg X.base k C m sp dvs) (hr : Room j X.A) (hk : k ≤ j) (he : PE X o ta)
    (ht : eval (.Call (.Attribute o m apos) [] [] pos) X.env = (do
      let ov ← eval o X.env
      standAt apos.atName
      let (f, first) ← holding [ov] (getMethod ov m pl)
      callWith pos f first (backTo pos (starEach [] X.env)) (backToKw pos (keywordEach [] X.env))) := by rfl) :
    PE X (.Call (.Attribute o m apos) [] [] pos) (tMeth C m sp dvs E0 ta tNil) := by
  obtain ⟨f, fd, ps, ds, hc, hm, F, b, d⟩ := c.ex
  exact pe_meth0 (pl := pl) he hc hm F (hr.mono hk) b d passL ht
end

theorem gk_int {mg : Str → Option Value} {x : Str} {i : Int} (h : ∃ t, mg x = some (.int i t)) : ∃ u, mg x = some u ∧ RelV (.int i) u := by
  obtain ⟨t, e⟩ := h
  exact ⟨_, e, t, rfl⟩
theorem gk_str {mg : Str → Option Value} {x z : Str} (h : ∃ t, mg x = some (.str z t)) : ∃ u, mg x = some u ∧ RelV (.str z) u := by
  obtain ⟨t, e⟩ := h
  exact ⟨_, e, t, rfl⟩
theorem pe_gk {X : Cx} {x : Str} {v : V} {pos : Pos} (hg : Gl X x) (h : ∃ u, X.mg x = some u ∧ RelV v u) (hd : (x == ("__debug__" : Str)) = false := by decide) : PE X (.Name x pos) (tC v) := by
  obtain ⟨u, e, r⟩ := h
  exact pe_glob hg e r hd
/-! the built-ins' names -/
theorem bt_len : bootBuiltins "len" = some (.builtin "len") := by decide +kernel
theorem bt_isinstance : bootBuiltins "isinstance" = some (.builtin "isinstance") := by decide +kernel
theorem bt_all : bootBuiltins "all" = some (.builtin "all") := by decide +kernel
theorem bt_any : bootBuiltins "any" = some (.builtin "any") := by decide +kernel
theorem bt_abs : bootBuiltins "abs" = some (.builtin "abs") := by decide +kernel
theorem bt_min : bootBuiltins "min" = some (.builtin "min") := by decide +kernel
theorem bt_max : bootBuiltins "max" = some (.builtin "max") := by decide +kernel
theorem bt_sorted : bootBuiltins "sorted" = some (.builtin "sorted") := by decide +kernel
theorem bt_tuple : bootBuiltins "tuple" = some (.type "tuple") := by decide +kernel
theorem bt_list : bootBuiltins "list" = some (.type "list") := by decide +kernel
theorem bt_dict : bootBuiltins "dict" = some (.type "dict") := by decide +kernel
theorem bt_set : bootBuiltins "set" = some (.type "set") := by decide +kernel
theorem bt_int : bootBuiltins "int" = some (.type "int") := by decide +kernel
theorem bt_str : bootBuiltins "str" = some (.type "str") := by decide +kernel
theorem bt_bool : bootBuiltins "bool" = some (.type "bool") := by decide +kernel

/-! ### the head's Hook: all objects that the top leaves -/
def hookR (fa : List He.Fa) (fn : List He.DefD) : PySem.W.Hook where
  α := He.AlD
  obs := fun s => He.obsD fa fn (He.frG s.heap.get? (List.range s.heap.objs.size))
  val := fun _ => He.valD fn
  says := fun _ h => ∃ K : PySem.W.Frag, K.In h ∧ He.SaysD fa fn K
  of := fun _ _ e => ⟨_, He.frG_in, e⟩
  keeps := fun _ _ _ ⟨K, hK, c⟩ k => ⟨K, PySem.W.Frag.In.keeps hK k, c⟩
theorem obR_eq {fa : List He.Fa} {fn : List He.DefD} {g : Addr → Option Obj} {s : Shared} {n : Nat} (h : ∀ a, g a = s.heap.get? a) (e : s.heap.objs.size = n) : He.obsD fa fn (He.frG g (List.range n)) = (hookR fa fn).obs s := by
  have e1 : g = s.heap.get? := funext h
  rw [e1, ← e] <;> rfl
end T

set_option maxHeartbeats 2000000
namespace T
open PySem PySem.Spec PyProof.Rows L2
section
variable {K : PySem.W.Frag} {σ : L2.St} {H H' : Hp} {D : Ends} {i : Nat} {v x y : V} {te ta tb tc tv : TE} {t u : TS} {c d : TT} {tr : TA} {Q : VK} {QB : Bool → Hp → Prop} {QA : List V → Hp → Prop} {r r' : R2} {g : TG}
theorem x_seq (h : t ⟨u D, D.rt, D.bk, D.ct⟩ σ H) : tSeq t u D σ H := h
theorem x_next (h : D.nx σ H) : tNext D σ H := h
theorem x_asg (h : te σ H fun x H1 => g x σ H1 D.nx) : tAsg te g D σ H := h
theorem x_name {N : L2.St → Hp → Prop} (h : N (σ.set i (some v)) H) : gName i v σ H N := h
theorem x_ifS (h : c σ H fun b H1 => if b = true then t D σ H1 else u D σ H1) : tIfS c t u D σ H := h
theorem x_ret (h : te σ H D.rt) : tRet te D σ H := h
theorem x_retN (h : D.rt .non H) : tRetN D σ H := h
theorem x_drop (h : te σ H fun _ H1 => D.nx σ H1) : tDrop te D σ H := h
theorem x_var (h : σ[i]? = some (some v)) (q : Q v H) : tVar i σ H Q := ⟨v, h, q⟩
theorem x_c (q : Q v H) : tC v σ H Q := q
theorem x_op (h : ta σ H fun x H1 => tb σ H1 fun y H2 => r x y H2 Q) : tOp r ta tb σ H Q := h
theorem x_un {r : V → Hp → VK → Prop} (h : ta σ H fun x H1 => r x H1 Q) : tUn r ta σ H Q := h
theorem x_test (h : te σ H fun x H1 => ∃ k, x = .bl k ∧ QB k H1) : tTest te σ H QB := h
theorem x_B (h : te σ H fun x H1 => ∃ k, x = .bl k ∧ QB k H1) : tB te σ H QB := h
theorem x_and (h : c σ H fun b H1 => if b = true then d σ H1 QB else QB false H1) : tAnd c d σ H QB := h
theorem x_or (h : c σ H fun b H1 => if b = true then QB true H1 else d σ H1 QB) : tOr c d σ H QB := h
theorem x_not (h : c σ H fun b H1 => QB (!b) H1) : tNot c σ H QB := h
theorem x_andV (h : ta σ H fun x H1 => ∃ k, x = .bl k ∧ if k = true then tb σ H1 Q else Q (.bl false) H1) : tAndV ta tb σ H Q := h
theorem x_orV (h : ta σ H fun x H1 => ∃ k, x = .bl k ∧ if k = true then Q (.bl true) H1 else tb σ H1 Q) : tOrV ta tb σ H Q := h
theorem x_notV (h : ta σ H fun x H1 => ∃ k, x = .bl k ∧ Q (.bl (!k)) H1) : tNotV ta σ H Q := h
theorem x_if (h : c σ H fun b H1 => if b = true then ta σ H1 Q else tb σ H1 Q) : tIf c ta tb σ H Q := h
theorem x_chain (h : ta σ H fun x H1 => tb σ H1 fun y H2 => r x y H2 fun z H3 => ∃ k, z = .bl k ∧ (if k = true then tc σ H3 fun w' H4 => r' y w' H4 Q else Q (.bl false) H3)) : tChain r r' ta tb tc σ H Q := h
theorem x_CB {r : List V → Hp → VK → Prop} (h : tr σ H fun vs H1 => r vs H1 Q) : tCB r tr σ H Q := h
theorem x_nil (h : QA [] H) : tNil σ H QA := h
theorem x_cons (h : ta σ H fun x H1 => tr σ H1 fun xs H2 => QA (x :: xs) H2) : tCons ta tr σ H QA := h
theorem x_call {sp : Sp} {dvs : List V} {E : XK} (h : tr σ H fun vs H1 => sp (vs ++ dvs) H1 Q E) : tCall sp dvs E tr σ H Q := h
theorem x_tup (h : tr σ H fun xs H1 => xs.length ≤ sizeLine ∧ ∀ p, H1 p = none → Q (.ref p) (upd H1 p (.tup xs))) : tTup tr σ H Q := h
theorem x_lst (h : tr σ H fun xs H1 => xs.length ≤ sizeLine ∧ ∀ p, H1 p = none → Q (.ref p) (upd H1 p (.lst xs))) : tLst tr σ H Q := h
theorem x_sl {r : V → Option Int → Option Int → Hp → VK → Prop} {tl th : TO} (h : te σ H fun x H1 => tl σ H1 fun l H2 => th σ H2 fun u H3 => r x l u H3 Q) : tSl r te tl th σ H Q := h
theorem x_noPart {QO : Option Int → Hp → Prop} (h : QO none H) : tNoPart σ H QO := h
theorem x_part {QO : Option Int → Hp → Prop} (h : te σ H fun x H1 => ∃ i, x = .int i ∧ QO (some i) H1) : tPart te σ H QO := h
theorem x_BM {T : String} {r : V → List V → Hp → VK → Prop} {to : TE} (h : to σ H fun x H1 => tyV K T x H1 ∧ tr σ H1 fun xs H2 => r x xs H2 Q) : tBM K T r to tr σ H Q := h
theorem x_BM0 {T : String} {r : V → List V → Hp → VK → Prop} {to : TE} (h : to σ H fun x H1 => tyV K T x H1 ∧ r x [] H1 Q) : tBM0 K T r to σ H Q := h
theorem x_I0 {f : Int → Int → V} {a b : Int} (q : Q (f a b) H) : rI0 f (.int a) (.int b) H Q := ⟨a, b, rfl, rfl, q⟩
theorem x_I {C : Int → Int → Prop} {f : Int → Int → V} {a b : Int} (hc : C a b) (q : Q (f a b) H) : rI C f (.int a) (.int b) H Q := ⟨a, b, rfl, rfl, hc, q⟩
theorem x_eq (h : scal x y = true) (q : Q (.bl (decide (x = y))) H) : rEq x y H Q := ⟨h, q⟩
theorem x_eqI {a b : Int} (q : Q (.bl (decide (a = b))) H) : rEq (.int a) (.int b) H Q := ⟨rfl, by rw [show decide (V.int a = V.int b) = decide (a = b) by rw [dec_int, Bool.beq_eq_decide_eq]]; exact q⟩
theorem x_neI {a b : Int} (q : Q (.bl (!decide (a = b))) H) : rNe (.int a) (.int b) H Q := ⟨rfl, by rw [show decide (V.int a = V.int b) = decide (a = b) by rw [dec_int, Bool.beq_eq_decide_eq]]; exact q⟩
theorem x_eqS {a b : Str} (q : Q (.bl (decide (a = b))) H) : rEq (.str a) (.str b) H Q := ⟨rfl, by rw [show decide (V.str a = V.str b) = decide (a = b) by rw [dec_str, Bool.beq_eq_decide_eq]]; exact q⟩
theorem x_neS {a b : Str} (q : Q (.bl (!decide (a = b))) H) : rNe (.str a) (.str b) H Q := ⟨rfl, by rw [show decide (V.str a = V.str b) = decide (a = b) by rw [dec_str, Bool.beq_eq_decide_eq]]; exact q⟩
theorem x_ne (h : scal x y = true) (q : Q (.bl (!decide (x = y))) H) : rNe x y H Q := ⟨h, q⟩
theorem ite_b {b : Bool} {A B : Prop} (h1 : b = true → A) (h0 : b = false → B) : if b = true then A else B := by
  cases b with
  | true => exact iteT (h1 rfl)
  | false => exact iteF (h0 rfl)
theorem ite_t {b : Bool} {A B : Prop} (e : b = true) (h : A) : if b = true then A else B := by rw [if_pos e]; exact h
theorem ite_f {b : Bool} {A B : Prop} (e : b = false) (h : B) : if b = true then A else B := by rw [if_neg (by rw [e]; exact Bool.false_ne_true)]; exact h
/-! ### names for readings that have none -/
def rLen (K : PySem.W.Frag) : List V → Hp → VK → Prop := fun xs H Q => ∃ p ys, xs = [.ref p] ∧ (SqL K H p ys ∨ SqT K H p ys) ∧ Q (.int ys.length) H
theorem call_len_ {X : Cx} : CallR X (.builtin "len") (rLen X.K) := call_len_seq
def rLenS : List V → Hp → VK → Prop := fun xs H Q => ∃ z, xs = [.str z] ∧ z.length ≤ sizeLine ∧ Q (.int z.length) H
theorem call_lenS {X : Cx} : CallR X (.builtin "len") rLenS := call_len_str
def rLenD : List V → Hp → VK → Prop := fun xs H Q => ∃ a kvs, xs = [V.ref a] ∧ H a = some (.dK kvs) ∧ Q (.int kvs.length) H
theorem call_lenD_ {X : Cx} : CallR X (.builtin "len") rLenD := call_lenD
def rAbs : List V → Hp → VK → Prop := fun xs H Q => ∃ i, xs = [.int i] ∧ Q (.int (if i < 0 then -i else i)) H
theorem call_abs_ {X : Cx} : CallR X (.builtin "abs") rAbs := call_abs
def rMin2 : List V → Hp → VK → Prop := fun xs H Q => ∃ i j, xs = [.int i, .int j] ∧ Q (.int (if j < i then j else i)) H
theorem call_min2_ {X : Cx} (hc : X.calm = true) : CallR X (.builtin "min") rMin2 := call_min2 hc
def rTupOf (K : PySem.W.Frag) : List V → Hp → VK → Prop := fun xs H Q => ∃ p ys, xs = [.ref p] ∧ ((SqL K H p ys ∧ ∀ l, H l = none → Q (.ref l) (upd H l (.tup ys))) ∨ (SqT K H p ys ∧ Q (.ref p) H))
theorem call_tuple_ {X : Cx} : CallR X (.type "tuple") (rTupOf X.K) := call_tuple_of
def rIsN_ : R2 := fun x y H Q => y = .non ∧ Q (.bl (decide (x = .non))) H
theorem op_isN_ {X : Cx} : OpR X (compareOp .Is) rIsN_ := op_isN
def rNotN_ : R2 := fun x y H Q => y = .non ∧ Q (.bl (!decide (x = .non))) H
theorem op_notN_ {X : Cx} : OpR X (compareOp .IsNot) rNotN_ := op_notN
def rAddStr : R2 := fun x y H Q => ∃ i j, x = .str i ∧ y = .str j ∧ i.length + j.length ≤ sizeLine ∧ Q (.str (i ++ j)) H
theorem op_addStr {X : Cx} : OpR X (binaryOp .Add) rAddStr := op_add_str
theorem x_isN (q : Q (.bl (decide (x = .non))) H) : rIsN_ x .non H Q := ⟨rfl, q⟩
theorem x_notN (q : Q (.bl (!decide (x = .non))) H) : rNotN_ x .non H Q := ⟨rfl, q⟩
/-! ### steps over data -/
theorem x_len_t {ds : List PyData} (h : Dp K H v (.tuple ds)) (q : Q (.int ds.length) H) : rLen K [v] H Q := by
  obtain ⟨a, xs, rfl, hs, ha⟩ := dp_tup h
  refine ⟨a, xs, rfl, .inr hs, ?_⟩
  rw [dp_len ha]
  exact q
theorem x_len_l {ds : List PyData} (h : Dp K H v (.list ds)) (q : Q (.int ds.length) H) : rLen K [v] H Q := by
  obtain ⟨a, xs, rfl, hs, ha⟩ := dp_lst h
  refine ⟨a, xs, rfl, .inl hs, ?_⟩
  rw [dp_len ha]
  exact q
theorem x_len_L {a : Addr} {xs : List V} (h : SqL K H a xs) (q : Q (.int xs.length) H) : rLen K [.ref a] H Q := ⟨a, xs, rfl, .inl h, q⟩
theorem x_ixT {ds : List PyData} {j : Int} {d : PyData} (h : Dp K H v (.tuple ds)) (e : atI ds j = some d) (q : ∀ u, Dp K H u d → Q u H) : rIxT K v (.int j) H Q := by
  obtain ⟨a, xs, rfl, hs, ha⟩ := dp_tup h
  have hl := dp_len ha
  unfold atI at e
  cases n : ixN ds.length j with
  | none =>
    rw [n] at e
    cases e
  | some m =>
    rw [n] at e
    obtain ⟨u, h1, h2⟩ := dp_at ha e
    exact ⟨a, xs, j, u, rfl, rfl, hs, by unfold atI; rw [hl, n]; exact h1, q u h2⟩
theorem x_ixTt {ds : List PyData} {j : Int} {d : PyData} (h : Dt K H v (.tuple ds)) (e : atI ds j = some d) (q : ∀ u, Dt K H u d → Q u H) : rIxT K v (.int j) H Q := by
  obtain ⟨a, xs, rfl, hs, ha⟩ := dt_tup h
  have hl := dt_len ha
  unfold atI at e
  cases n : ixN ds.length j with
  | none =>
    rw [n] at e
    cases e
  | some m =>
    rw [n] at e
    obtain ⟨u, h1, h2⟩ := dt_at ha e
    exact ⟨a, xs, j, u, rfl, rfl, hs, by unfold atI; rw [hl, n]; exact h1, q u h2⟩
theorem x_ixL {a : Addr} {xs : List V} {j : Int} (h : SqL K H a xs) (e : atI xs j = some v) (q : Q v H) : rIxL K (.ref a) (.int j) H Q := ⟨a, xs, j, v, rfl, rfl, h, e, q⟩
/-! kinds -/
def isI : PyData → Bool | .int _ => true | .bool _ => true | _ => false
def isB : PyData → Bool | .bool _ => true | _ => false
def isT : PyData → Bool | .tuple _ => true | _ => false
def isS : PyData → Bool | .str _ => true | _ => false
def isL : PyData → Bool | .list _ => true | _ => false
theorem kt {a b : String} {r : Bool} (h : kitB a b = some r) : PySem.W.kitOne K (.type a) (.type b) = some r := h
theorem k_int : ∀ d : PyData, kitB (tyN d) "int" = some (isI d)
  | .none => (by decide +kernel : kitB "NoneType" "int" = some false)
  | .bool _ => (by decide +kernel : kitB "bool" "int" = some true)
  | .int _ => (by decide +kernel : kitB "int" "int" = some true)
  | .str _ => (by decide +kernel : kitB "str" "int" = some false)
  | .list _ => (by decide +kernel : kitB "list" "int" = some false)
  | .tuple _ => (by decide +kernel : kitB "tuple" "int" = some false)
  | .dict _ => (by decide +kernel : kitB "dict" "int" = some false)
theorem k_bool : ∀ d : PyData, kitB (tyN d) "bool" = some (isB d)
  | .none => (by decide +kernel : kitB "NoneType" "bool" = some false)
  | .bool _ => (by decide +kernel : kitB "bool" "bool" = some true)
  | .int _ => (by decide +kernel : kitB "int" "bool" = some false)
  | .str _ => (by decide +kernel : kitB "str" "bool" = some false)
  | .list _ => (by decide +kernel : kitB "list" "bool" = some false)
  | .tuple _ => (by decide +kernel : kitB "tuple" "bool" = some false)
  | .dict _ => (by decide +kernel : kitB "dict" "bool" = some false)
theorem k_tup : ∀ d : PyData, kitB (tyN d) "tuple" = some (isT d)
  | .none => (by decide +kernel : kitB "NoneType" "tuple" = some false)
  | .bool _ => (by decide +kernel : kitB "bool" "tuple" = some false)
  | .int _ => (by decide +kernel : kitB "int" "tuple" = some false)
  | .str _ => (by decide +kernel : kitB "str" "tuple" = some false)
  | .list _ => (by decide +kernel : kitB "list" "tuple" = some false)
  | .tuple _ => (by decide +kernel : kitB "tuple" "tuple" = some true)
  | .dict _ => (by decide +kernel : kitB "dict" "tuple" = some false)
theorem k_str : ∀ d : PyData, kitB (tyN d) "str" = some (isS d)
  | .none => (by decide +kernel : kitB "NoneType" "str" = some false)
  | .bool _ => (by decide +kernel : kitB "bool" "str" = some false)
  | .int _ => (by decide +kernel : kitB "int" "str" = some false)
  | .str _ => (by decide +kernel : kitB "str" "str" = some true)
  | .list _ => (by decide +kernel : kitB "list" "str" = some false)
  | .tuple _ => (by decide +kernel : kitB "tuple" "str" = some false)
  | .dict _ => (by decide +kernel : kitB "dict" "str" = some false)
theorem k_lst : ∀ d : PyData, kitB (tyN d) "list" = some (isL d)
  | .none => (by decide +kernel : kitB "NoneType" "list" = some false)
  | .bool _ => (by decide +kernel : kitB "bool" "list" = some false)
  | .int _ => (by decide +kernel : kitB "int" "list" = some false)
  | .str _ => (by decide +kernel : kitB "str" "list" = some false)
  | .list _ => (by decide +kernel : kitB "list" "list" = some true)
  | .tuple _ => (by decide +kernel : kitB "tuple" "list" = some false)
  | .dict _ => (by decide +kernel : kitB "dict" "list" = some false)
theorem x_isi {d : PyData} {n : String} {b : Bool} (h : Dp K H v d) (e : kitB (tyN d) n = some b) (q : Q (.bl b) H) : rIsi K [v, .ty n] H Q := ⟨v, .ty n, _, _, b, rfl, .ty n, dp_ty h, kit_ty e, q⟩
end
/-! ### comprehensions over data that call nothing that changes what stands -/
/-- the new list at D holds f 0, .., f (i - 1); what stood stands -/
def PvM (H0 : Hp) (D : Addr) (f : Nat → V) (i : Nat) (H : Hp) : Prop := Same H0 H ∧ H D = some (.lst ((List.range i).map f))
theorem pvm0 {H0 : Hp} {D : Addr} {f : Nat → V} (h : H0 D = none) : PvM H0 D f 0 (upd H0 D (.lst [])) := ⟨same_new h, upd_same⟩
theorem lc_end {H0 H : Hp} {D : Addr} {f : Nat → V} {i : Nat} {y : V} (hD : H0 D = none) (hy : y = f i) (s : Same H0 H) (h : H D = some (.lst ((List.range i).map f))) (hi : i < 10000000) :
    ∃ acc, H D = some (.lst acc) ∧ acc.length < sizeLine ∧ PvM H0 D f (i + 1) (upd H D (.lst (acc ++ [y]))) := by
  refine ⟨_, h, ?_, same_mut s hD, ?_⟩
  · rw [List.length_map, List.length_range, sizeLine_eq]
    omega
  · rw [upd_same, hy, List.range_succ, List.map_append]
    rfl
end T

set_option maxHeartbeats 2000000
namespace T
open PySem PySem.Spec PyProof.Rows L2
/-! ### dicts of whole numbers, by functions -/
section
variable {α : Type}
def dkO (f : α → V) (m : List (Int × α)) : List (Key × V) := m.map fun p => (Sum.inl p.1, f p.2)
theorem dkO_get {f : α → V} {m : List (Int × α)} {k : Int} : valV (dkO f m) (Sum.inl k : Key) = (aget m k).map f := by
  induction m with
  | nil => rfl
  | cons p m ih =>
    rw [aget_cons]
    show valV (((Sum.inl p.1 : Key), f p.2) :: dkO f m) _ = _
    by_cases e : p.1 = k
    · rw [valV_pos (by rw [e]), if_pos e]; rfl
    · rw [valV_neg (fun z => e (Sum.inl.inj z)), if_neg e, ih]
def aput (m : List (Int × α)) (k : Int) (v : α) : List (Int × α) := if (m.any fun p => decide (p.1 = k)) = true then m.map (fun p => if p.1 = k then (p.1, v) else p) else m ++ [(k, v)]
def adel (m : List (Int × α)) (k : Int) : List (Int × α) := m.filter fun p => decide (p.1 ≠ k)
theorem dkO_any {f : α → V} {m : List (Int × α)} {k : Int} : ((dkO f m).any fun kv => decide (kv.1 = (Sum.inl k : Key))) = m.any fun p => decide (p.1 = k) := by
  induction m with
  | nil => rfl
  | cons p m ih =>
    show ((decide ((Sum.inl p.1 : Key) = Sum.inl k)) || (dkO f m).any _) = _
    rw [ih, List.any_cons]
    congr 1
    by_cases e : p.1 = k
    · subst e; simp
    · rw [decide_eq_false e, decide_eq_false fun z => e (Sum.inl.inj z)]
theorem dkO_put {f : α → V} {m : List (Int × α)} {k : Int} {v : α} : putK (dkO f m) (Sum.inl k : Key) (f v) = dkO f (aput m k v) := by
  unfold putK aput
  rw [dkO_any]
  split
  · unfold dkO
    rw [List.map_map, List.map_map]
    refine List.map_congr_left fun p _ => ?_
    show (if (Sum.inl p.1 : Key) = Sum.inl k then ((Sum.inl p.1 : Key), f v) else (Sum.inl p.1, f p.2)) = (fun q : Int × α => ((Sum.inl q.1 : Key), f q.2)) (if p.1 = k then (p.1, v) else p)
    by_cases e : p.1 = k
    · rw [if_pos e, if_pos (by rw [e])]
    · rw [if_neg e, if_neg fun z => e (Sum.inl.inj z)]
  · unfold dkO
    rw [List.map_append]
    rfl
theorem dkO_drop {f : α → V} {m : List (Int × α)} {k : Int} : dropK (dkO f m) (Sum.inl k : Key) = dkO f (adel m k) := by
  unfold dropK adel dkO
  rw [List.filter_map]
  refine congrArg _ (List.filter_congr fun p _ => ?_)
  simp
theorem aput_keys {m : List (Int × α)} {k : Int} {v : α} : (aput m k v).map (·.1) = if (m.any fun p => decide (p.1 = k)) = true then m.map (·.1) else m.map (·.1) ++ [k] := by
  unfold aput
  split
  · rw [List.map_map]
    refine List.map_congr_left fun p _ => ?_
    show (if p.1 = k then (p.1, v) else p).1 = p.1
    split <;> rfl
  · rw [List.map_append]; rfl
theorem any_mem {m : List (Int × α)} {k : Int} : (m.any fun p => decide (p.1 = k)) = true ↔ k ∈ m.map (·.1) := by
  rw [List.any_eq_true, List.mem_map]
  constructor
  · rintro ⟨p, hp, e⟩; exact ⟨p, hp, of_decide_eq_true e⟩
  · rintro ⟨p, hp, e⟩; exact ⟨p, hp, decide_eq_true e⟩
theorem aput_nodup {m : List (Int × α)} {k : Int} {v : α} (h : (m.map (·.1)).Nodup) : ((aput m k v).map (·.1)).Nodup := by
  rw [aput_keys]
  split
  · exact h
  · rename_i n
    rw [any_mem] at n
    exact List.nodup_append.mpr ⟨h, by simp, fun a ha b hb => by rw [List.mem_singleton] at hb; subst hb; exact fun z => n (z ▸ ha)⟩
theorem aput_get {m : List (Int × α)} {k j : Int} {v : α} : aget (aput m k v) j = if j = k then some v else aget m j := by
  unfold aput
  split
  · rename_i h
    rw [any_mem] at h
    induction m with
    | nil => cases h
    | cons p m ih =>
      rw [List.map_cons, aget_cons, aget_cons]
      by_cases e : p.1 = k
      · rw [if_pos e]
        show (if p.1 = j then some v else _) = _
        by_cases ej : p.1 = j
        · rw [if_pos ej, if_pos (ej.symm.trans e)]
        · rw [if_neg ej, if_neg (fun z => ej (e.trans z.symm)), if_neg ej]
          by_cases hm : k ∈ m.map (·.1)
          · rw [ih hm, if_neg (fun z => ej (e.trans z.symm))]
          · have : ∀ l : List (Int × α), k ∉ l.map (·.1) → l.map (fun p => if p.1 = k then (p.1, v) else p) = l := by
              intro l hl
              induction l with
              | nil => rfl
              | cons q l il =>
                rw [List.map_cons, List.mem_cons, not_or] at hl
                rw [List.map_cons, if_neg (fun z => hl.1 z.symm), il hl.2]
            rw [this m hm]
      · rw [if_neg e]
        have hm : k ∈ m.map (·.1) := by
          rw [List.map_cons, List.mem_cons] at h
          exact h.resolve_left fun z => e z.symm
        by_cases ej : p.1 = j
        · rw [if_pos ej, if_pos ej, if_neg (fun z => e (ej.trans z))]
        · rw [if_neg ej, if_neg ej, ih hm]
  · rename_i h
    rw [any_mem] at h
    induction m with
    | nil =>
      rw [List.nil_append, aget_cons]
      by_cases e : j = k
      · rw [if_pos e.symm, if_pos e]
      · rw [if_neg (fun z => e z.symm), if_neg e]
    | cons p m ih =>
      rw [List.map_cons, List.mem_cons, not_or] at h
      rw [List.cons_append, aget_cons, aget_cons, ih h.2]
      by_cases ej : p.1 = j
      · rw [if_pos ej, if_pos ej, if_neg (fun z => h.1 (z.symm.trans ej.symm))]
      · rw [if_neg ej, if_neg ej]
theorem adel_get {m : List (Int × α)} {k j : Int} : aget (adel m k) j = if j = k then none else aget m j := by
  unfold adel
  induction m with
  | nil => rw [List.filter_nil, aget_nil]; split <;> rfl
  | cons p m ih =>
    by_cases e : p.1 = k
    · rw [List.filter_cons, if_neg (by simp [e]), ih, aget_cons]
      by_cases ej : j = k
      · rw [if_pos ej, if_pos ej]
      · rw [if_neg ej, if_neg ej, if_neg (fun z => ej (z.symm.trans e))]
    · rw [List.filter_cons, if_pos (by simp [e]), aget_cons, aget_cons, ih]
      by_cases ej : p.1 = j
      · rw [if_pos ej, if_pos ej, if_neg (fun z => e (ej.trans z))]
      · rw [if_neg ej, if_neg ej]
theorem adel_nodup {m : List (Int × α)} {k : Int} (h : (m.map (·.1)).Nodup) : ((adel m k).map (·.1)).Nodup := List.Nodup.sublist (List.Sublist.map _ (List.filter_sublist ..)) h
end
/-- at d a dict of whole numbers from 0 on, below N; g its function -/
structure DkAt {α : Type} (H : Hp) (d : Addr) (N : Nat) (f : α → V) (g : Int → Option α) : Prop where
  ex : ∃ m : List (Int × α), H d = some (.dK (dkO f m)) ∧ (m.map (·.1)).Nodup ∧ (∀ k : Int, k ∈ m.map (·.1) → 0 ≤ k ∧ k < N) ∧ ∀ k : Int, aget m k = g k
section
variable {α : Type} {H H' : Hp} {d : Addr} {N : Nat} {f : α → V} {g : Int → Option α}
theorem DkAt.at_ (h : DkAt H d N f g) (e : H d = H' d) : DkAt H' d N f g := by
  obtain ⟨m, h1, h2⟩ := h.ex
  exact ⟨m, e ▸ h1, h2⟩
theorem DkAt.same (h : DkAt H d N f g) (s : Same H H') : DkAt H' d N f g := by
  obtain ⟨m, h1, h2⟩ := h.ex
  exact ⟨m, s _ _ h1, h2⟩
theorem DkAt.ne (h : DkAt H d N f g) {a : Addr} {o : HO} (n : d ≠ a) : DkAt (upd H a o) d N f g := h.at_ (upd_ne n).symm
theorem DkAt.congr (h : DkAt H d N f g) {g' : Int → Option α} (e : ∀ k, g k = g' k) : DkAt H d N f g' := by
  obtain ⟨m, h1, h2, h3, h4⟩ := h.ex
  exact ⟨m, h1, h2, h3, fun k => (h4 k).trans (e k)⟩
theorem DkAt.dom (h : DkAt H d N f g) {k : Int} (s : (g k).isSome = true) : 0 ≤ k ∧ k < N := by
  obtain ⟨m, h1, h2, h3, h4⟩ := h.ex
  rw [← h4 k, aget_isSome] at s
  exact h3 k s
theorem dk_new : DkAt (upd H d (.dK [])) d N f (fun _ => none) := ⟨[], upd_same, List.nodup_nil, fun _ z => (nomatch z), fun _ => rfl⟩
theorem DkAt.get (h : DkAt H d N f g) (k : Int) : DGet H d (.int k) ((g k).map f) := by
  obtain ⟨m, h1, h2, h3, h4⟩ := h.ex
  exact .inl ⟨_, Sum.inl k, .inl h1, rfl, by rw [dkO_get, h4]⟩
theorem DkAt.len_le (h : DkAt H d N f g) : ∃ kvs, H d = some (.dK kvs) ∧ kvs.length = (ksOf N fun k => (g k).isSome).length := by
  obtain ⟨m, h1, h2, h3, h4⟩ := h.ex
  refine ⟨_, h1, ?_⟩
  have hp : (m.map (·.1)).Perm (ksOf N fun k => (g k).isSome) := (List.perm_ext_iff_of_nodup h2 (ksOf_nodup N _)).mpr fun k => by
    rw [mem_ksOf, ← h4 k, aget_isSome]
    exact ⟨fun z => ⟨(h3 k z).1, (h3 k z).2, z⟩, fun z => z.2.2⟩
  show (m.map _).length = _
  rw [List.length_map, ← hp.length_eq, List.length_map]
theorem DkAt.put (h : DkAt H d N f g) {k : Int} (v : α) (h0 : 0 ≤ k) (h1 : k < N) (hN : N ≤ 1000000) :
    ∃ o, DPut H d (.int k) (f v) (upd H d o) ∧ Mut (H d) ∧ DkAt (upd H d o) d N f (fun j => if j = k then some v else g j) := by
  obtain ⟨kvs, hk, hl⟩ := h.len_le
  obtain ⟨m, e1, e2, e3, e4⟩ := h.ex
  rw [e1] at hk
  cases hk
  refine ⟨_, .inl ⟨_, Sum.inl k, e1, rfl, ?_, rfl⟩, by rw [e1]; trivial, aput m k v, by rw [upd_same, dkO_put], aput_nodup e2, ?_, fun j => by rw [aput_get, e4]⟩
  · rw [hl, sizeLine_eq]
    have := @ksOf_len N fun k => (g k).isSome
    omega
  · intro j hj
    rw [aput_keys] at hj
    split at hj
    · exact e3 j hj
    · rcases List.mem_append.mp hj with hj | hj
      · exact e3 j hj
      · rw [List.mem_singleton] at hj; subst hj; exact ⟨h0, h1⟩
theorem DkAt.del (h : DkAt H d N f g) (k : Int) : ∃ kvs, H d = some (.dK kvs) ∧ valV kvs (Sum.inl k : Key) = (g k).map f ∧ DkAt (upd H d (.dK (dropK kvs (Sum.inl k : Key)))) d N f (fun j => if j = k then none else g j) := by
  obtain ⟨m, e1, e2, e3, e4⟩ := h.ex
  refine ⟨_, e1, by rw [dkO_get, e4], adel m k, by rw [upd_same, dkO_drop], adel_nodup e2, ?_, fun j => by rw [adel_get, e4]⟩
  intro j hj
  obtain ⟨p, hp, rfl⟩ := List.mem_map.mp hj
  exact e3 _ (List.mem_map.mpr ⟨p, (List.mem_filter.mp hp).1, rfl⟩)
theorem DkAt.isD (h : DkAt H d N f g) : IsD H d := by
  obtain ⟨m, e1, _⟩ := h.ex
  exact .inl ⟨_, .inl e1⟩
theorem DkAt.mut (h : DkAt H d N f g) : Mut (H d) := by
  obtain ⟨m, e1, _⟩ := h.ex
  rw [e1]
  trivial
end
/-! ### steps over such dicts -/
section
variable {α : Type} {K : PySem.W.Frag} {σ : L2.St} {H : Hp} {D : Ends} {td ty tv tx : TE} {Q : VK}
theorem x_dget (h : td σ H fun x H1 => ty σ H1 fun y H2 => ∃ a v, x = .ref a ∧ DGet H2 a y (some v) ∧ Q v H2) : tDGet td ty σ H Q := h
theorem x_din (h : ty σ H fun y H1 => td σ H1 fun x H2 => ∃ a o, x = .ref a ∧ DGet H2 a y o ∧ Q (.bl o.isSome) H2) : tDIn ty td σ H Q := h
theorem x_dnotin (h : ty σ H fun y H1 => td σ H1 fun x H2 => ∃ a o, x = .ref a ∧ DGet H2 a y o ∧ Q (.bl (!o.isSome)) H2) : tDNotIn ty td σ H Q := h
theorem x_dput (h : tv σ H fun v H1 => td σ H1 fun x H2 => ty σ H2 fun y H3 => ∃ a H4, x = .ref a ∧ DPut H3 a y v H4 ∧ D.nx σ H4) : sDPut td ty tv D σ H := h
theorem x_dpop2 (h : td σ H fun x H1 => ∃ a, x = .ref a ∧ IsD H1 a ∧ ty σ H1 fun y H2 => tx σ H2 fun z H3 => ∃ kvs k, H3 a = some (.dK kvs) ∧ y = kV k ∧
  (∀ v, valV kvs k = some v → Q v (upd H3 a (.dK (dropK kvs k)))) ∧ (valV kvs k = none → Q z H3)) : tDPop2 td ty tx σ H Q := h
theorem x_dpop1 (h : td σ H fun x H1 => ∃ a, x = .ref a ∧ IsD H1 a ∧ ty σ H1 fun y H2 => ∃ kvs k v, H2 a = some (.dK kvs) ∧ y = kV k ∧ valV kvs k = some v ∧ Q v (upd H2 a (.dK (dropK kvs k)))) : tDPop1 td ty σ H Q := h
theorem x_dget2 (h : td σ H fun x H1 => ∃ a, x = .ref a ∧ IsD H1 a ∧ ty σ H1 fun y H2 => tx σ H2 fun z H3 => ∃ o, DGet H3 a y o ∧ Q (o.getD z) H3) : tDGet2 td ty tx σ H Q := h
end
/-! ### sorted(d), d a dict of whole numbers of any number -/
section
variable {X : Cx}
def rSortD : List V → Hp → VK → Prop := fun xs H Q => ∃ (a : Addr) (kvs : List (Key × V)) (ks : List Int), xs = [.ref a] ∧ Rd H a (.dK kvs) ∧ kvs.map (·.1) = ks.map Sum.inl ∧
    ∀ (ys : List Int) (p : Addr), ys.Perm ks → ys.Pairwise (· ≤ ·) → H p = none → Q (.ref p) (upd H p (.lst (ys.map V.int)))
theorem call_sortedK (hcalm : X.calm = true) : CallR X (.builtin "sorted") rSortD := by
  rintro pins st σ H args vals Q I rel ⟨a, kvs, ks, rfl, rd, keys, fin⟩
  obtain ⟨u, rfl, ru⟩ := vals1 rel
  cases ru
  obtain ⟨sz, low, pairs, kv, asDict⟩ := dk_rd I.hok rd
  obtain ⟨ep, at_⟩ := asDict.dictAt
  have e1 : pairs.map (·.1) = ks.map Sum.inl := kv.keys.symm.trans keys
  have e2 : pairs.length = ks.length := by simpa using congrArg List.length e1
  have few : pairs.length ≤ sizeLine := by
    have e3 : kvs.length = ks.length := by simpa using congrArg List.length keys
    omega
  refine Calls.call_function_entry PyProof.Rows.kind_sorted PyProof.Rows.plain_sorted PyProof.Rows.entry_sorted (PyProof.Rows.args_sorted1 _) ?_
  unfold Builtin.«sorted»
  refine wpAny_bind (m := checkCount "sorted" 1 1 _) (wpAny_pure (wpAny_bind ?_))
  refine PySem.W.kdu_collect (A := X.A.in1) (PySem.W.kdl_dict (knd := mixKind X.prog X.w) (kvs := pairs) (ep := ep) low) (I.ok.hd hcalm) at_ few fun g tk acc old got => ?_
  have lenA : acc.toList.length = ks.length := by rw [Array.length_toList, got.1, e2]
  have allI : IntsAre acc.toList ks := ints_each lenA fun j v e => by
    obtain ⟨k, x, q1, q2⟩ := got.2 j v (by rw [← Array.getElem?_toList]; exact e)
    have q3 : (ks.map Sum.inl : List Key)[j]? = some k := by rw [← e1, List.getElem?_map, q1]; rfl
    rw [List.getElem?_map] at q3
    cases q4 : ks[j]? with
    | none => rw [q4] at q3; cases q3
    | some y =>
      rw [q4] at q3
      cases Option.some.inj q3
      rcases keyIs_shape (show keyIs (Sum.inl y) v = true from q2) with ⟨i, t, ek, ev⟩ | ⟨z, t, ek, ev⟩
      · cases ek; exact ⟨_, t, rfl, ev⟩
      · cases ek
  have J : Inv X pins σ H { st with heap := g, toks := tk } := I.kept old
  refine wpAny_bind (wpAny_newList ?_ (by rw [lenA]; omega))
  have obL : (g.push (seqObj "list" acc.toList.toArray 0)).get? g.objs.size = some (seqObj "list" acc.toList.toArray 0) := Heap.get?_push_size _ rfl
  show wpAny _ _ _ _ _ { st with heap := g.push (seqObj "list" acc.toList.toArray 0), toks := tk }
  refine wpAny_bind (wpAny_holding (wpAny_call_entry PyProof.Rows.slot_list_sort ⟨_, obL, rfl⟩ PyProof.Rows.entry_list_sort ?_ (PyProof.Rows.args_list_sort _)))
  refine SrtO.list_sort_ord (s := { st with heap := g.push (seqObj "list" acc.toList.toArray 0), toks := tk }) SrtO.swo_int obL (by rw [lenA]; omega) (fun two => SrtO.ints_sortable allI two) fun out o1 o2 => ⟨_, rfl, ?_⟩
  obtain ⟨r1, r2, r3⟩ := SrtO.ints_out allI o1 o2
  obtain ⟨e', he'⟩ := PyProof.Rows.sortedHeap_at (vs := acc.toList) (out := out.toArray) obL
  have lenO : ((out.map SrtO.iv).map V.int).length ≤ sizeLine := by
    rw [List.length_map, r2.length_eq]
    omega
  refine wpAny_pure ⟨_, rfl, .ref g.objs.size, upd H g.objs.size (.lst ((out.map SrtO.iv).map V.int)), J.laid (t' := tk) (fun b u e => ?_) (Nat.le_refl _) ⟨lenO, out, e', vals_of_ints r1, he'⟩, rfl, fin _ _ r2 r3 (J.hok.fresh (Nat.le_refl _))⟩
  have lt : b < g.objs.size := Heap.lt_size e
  rw [PyProof.Rows.sortedHeap_old (Nat.ne_of_lt lt) (by rw [size_push']; exact Nat.lt_succ_of_lt lt)]
  exact Heap.get?_push_of_some _ e
theorem x_sortD {α : Type} {H : Hp} {d : Addr} {N : Nat} {f : α → V} {g : Int → Option α} {Q : VK} (h : DkAt H d N f g)
    (q : ∀ p, H p = none → Q (.ref p) (upd H p (.lst ((ksOf N fun k => (g k).isSome).map V.int)))) : rSortD [.ref d] H Q := by
  obtain ⟨m, e1, e2, e3, e4⟩ := h.ex
  refine ⟨d, _, m.map (·.1), rfl, .inl e1, by unfold dkO; rw [List.map_map, List.map_map]; rfl, fun ys p hp hs hn => ?_⟩
  have e : ys = ksOf N fun k => (g k).isSome := ksOf_unique hs (hp.nodup_iff.mpr e2) fun k => by
    rw [hp.mem_iff, ← e4 k, aget_isSome]
    exact ⟨fun z => ⟨(e3 k z).1, (e3 k z).2, z⟩, fun z => z.2.2⟩
  rw [e]
  exact q p hn
end

/-! ### tuple(..) of a list: its object is known; dict(..) of such a tuple of pairs -/
section
variable {X : Cx}
def rTupF (K : PySem.W.Frag) : List V → Hp → VK → Prop := fun args H Q => ∃ p ys, args = [.ref p] ∧ SqL K H p ys ∧ ∀ l o, H l = none → o.dict = none → Q (.ref l) (upd H l (.frz o (.tup ys)))
theorem call_tupleF : CallR X (.type "tuple") (rTupF X.K) := by
  rintro pins st σ H args vals Q I rel ⟨p, ys, rfl, sq, fin⟩
  obtain ⟨u, rfl, ru⟩ := vals1 rel
  cases ru
  obtain ⟨its, rv, pl, hz⟩ := I.list sq
  have e := rv.length
  refine call_tuple_list pl.isList (fun g old => ?_) (by simp only [List.size_toArray] <;> omega)
  have J : Inv X pins σ H { st with heap := g } := I.kept (t' := st.toks) old
  have J2 : Inv X pins σ (upd H g.objs.size (.frz { cls := .type "tuple", data := .seq its.toArray } (.tup ys))) { st with heap := g.push { cls := .type "tuple", data := .seq its.toArray } } :=
    J.laid (t' := st.toks) (fun b o q => Heap.get?_push_of_some _ q) (Nat.le_refl _) ⟨Heap.get?_push_size _ rfl, hz, its, rv, IsTup.new _ _⟩
  exact ⟨.ref g.objs.size, _, J2, rfl, fin _ _ (J.hok.fresh (Nat.le_refl _)) rfl⟩
def rDictPT (K : PySem.W.Frag) : List V → Hp → VK → Prop := fun args H Q => ∃ (a : Addr) (ps : List Addr) (kvs : List (Key × V)), args = [.ref a] ∧ Ft H a (ps.map V.ref) ∧ Paired (fun p kv => SqT K H p [kV kv.1, kv.2]) ps kvs ∧
    ∀ p, H p = none → Q (.ref p) (upd H p (.dK (mergeK [] kvs)))
theorem call_dictPT (hcalm : X.calm = true) : CallR X (.type "dict") (rDictPT X.K) := by
  rintro pins st σ H args vals Q I rel ⟨a, ps, kvs, rfl, ⟨o, ho, hdict⟩, prd, fin⟩
  obtain ⟨u, rfl, ru⟩ := vals1 rel
  cases ru
  obtain ⟨hget, hz, its, rv, oT, hgT, hcT, n, hdT⟩ := (show ObjOk X.prog X.w H st.heap a (.frz o (.tup (ps.map V.ref))) from I.hok a _ ho)
  cases (Option.some.inj (hget.symm.trans hgT))
  have ei := refs_at rv
  subst ei
  rw [List.length_map] at hz
  obtain ⟨prs, kv, hl, hpr⟩ := pairs_of I prd
  have pick : ∀ j : Nat, ∃ (b : Addr) (u : Value), (∀ q : Key × Value, prs[j]? = some q → ps[j]? = some b ∧ IsTup st.heap b #[u, q.2] ∧ keyIs q.1 u = true) := fun j => by
    cases e : prs[j]? with
    | none => exact ⟨0, .none, fun q z => nomatch z⟩
    | some q =>
      obtain ⟨b, u, z⟩ := hpr j q e
      exact ⟨b, u, fun q' z' => by cases z'; exact z⟩
  have pick2 : ∀ j : Nat, ∃ b : Addr, ∃ u : Value, (∀ q : Key × Value, prs[j]? = some q → ps[j]? = some b ∧ IsTup st.heap b #[u, q.2] ∧ keyIs q.1 u = true) := pick
  have hTs : ∃ Ts : Nat → Addr, ∃ us : Nat → Value, ∀ (j : Nat) (q : Key × Value), prs[j]? = some q → ps[j]? = some (Ts j) ∧ IsTup st.heap (Ts j) #[us j, q.2] ∧ keyIs q.1 (us j) = true :=
    ⟨fun j => (pick2 j).choose, fun j => (pick2 j).choose_spec.choose, fun j => (pick2 j).choose_spec.choose_spec⟩
  obtain ⟨Ts, us, hT⟩ := hTs
  let pvs : List (Value × Value) := (List.range prs.length).map fun j => (us j, (prs.getD j (Sum.inl 0, .none)).2)
  have lp : pvs.length = prs.length := by simp [pvs]
  have atP : ∀ j k v, pvs[j]? = some (k, v) → ∃ q, prs[j]? = some q ∧ k = us j ∧ v = q.2 := fun j k v e => by
    rw [List.getElem?_map] at e
    cases e2 : (List.range prs.length)[j]? with
    | none => rw [e2] at e; cases e
    | some i =>
      rw [e2] at e
      obtain ⟨hlt, e3⟩ := List.getElem?_eq_some_iff.mp e2
      rw [List.length_range] at hlt
      have e4 : i = j := by rw [← e3, List.getElem_range]
      subst e4
      cases e
      exact ⟨prs[i], List.getElem?_eq_getElem hlt, rfl, by simp [hlt]⟩
  have ok : PlainSeq "tuple" st.heap a (ps.map Value.ref).toArray ∧ PairItems st.heap (ps.map Value.ref).toArray Ts pvs := by
    refine ⟨⟨_, n, hget, hcT, hdict, hdT⟩, by simp [lp, hl], fun j k v e => ?_⟩
    obtain ⟨q, e1, rfl, rfl⟩ := atP j k v e
    obtain ⟨h1, h2, _⟩ := hT j q e1
    exact ⟨by simp [h1], .inl h2⟩
  refine PySem.call_dict_pairs (knd := mixKind X.prog X.w) (kvs := prs) (PairArg.tuple a _ Ts pvs) (I.ok.hd hcalm) ok ⟨lp.symm, fun i key v e => ?_⟩ (by rw [lp, hl]; exact hz) fun g tk hd' old => ?_
  · obtain ⟨q, e1, rfl, rfl⟩ := atP i key v e
    exact ⟨q.1, e1, (hT i q e1).2.2⟩
  · have hm : (st.heap.objs.size == sysModules) = false := beq_eq_false_iff_ne.mpr (Nat.ne_of_gt I.big)
    have hlen : (mergeK [] kvs).length ≤ sizeLine := by
      refine Nat.le_trans (length_mergeK kvs []) ?_
      rw [List.length_nil, Nat.zero_add, kv.length, hl]
      exact hz
    exact ⟨.ref st.heap.objs.size, upd H st.heap.objs.size (.dK (mergeK [] kvs)), I.laid (t' := tk) (fun b o e => old b o (by simp) e) (Nat.le_refl _) ⟨hlen, hm, merged [] prs, KV.merge kv .nil, hd'⟩, rfl, fin _ (I.hok.fresh (Nat.le_refl _))⟩
end
theorem merge_dkO {α : Type} {f : α → V} : ∀ (t m : List (Int × α)), ((m ++ t).map (·.1)).Nodup → mergeK (dkO f m) (dkO f t) = dkO f (m ++ t)
  | [], m, _ => by rw [List.append_nil]; rfl
  | p :: t, m, h => by
    have e : mergeK (dkO f m) (dkO f (p :: t)) = mergeK (putK (dkO f m) (Sum.inl p.1) (f p.2)) (dkO f t) := rfl
    have hn : ¬ (m.any fun q => decide (q.1 = p.1)) = true := by
      rw [any_mem]
      rw [List.map_append, List.map_cons] at h
      intro z
      exact (List.nodup_append.mp h).2.2 _ z _ List.mem_cons_self rfl
    rw [e, dkO_put, show aput m p.1 p.2 = m ++ [p] by unfold aput; rw [if_neg hn], merge_dkO t (m ++ [p]) (by rw [List.append_assoc]; exact h), List.append_assoc]
    rfl
end T


set_option maxHeartbeats 3200000
/-! sorted(set(xs)) of a list of whole numbers -/
namespace T
section
open PySem PySem.Spec PyProof.Rows L2
variable {P : Program} {w : World} {A : Around} {E : Value → Shared → Prop} {s : Shared}
abbrev bareSet (w : World) : Obj := { cls := .type "set", dict := none, data := .set #[] 0 (.fresh 0 0 (!w.params.followText "set-order")) }
theorem set_of_list {l : Addr} {xs : Array Value} (ns : List Int) {Q : Value → Shared → Prop} (quiet : A.handled = none) (isl : s.heap.IsList l xs) (whole : IntsAre xs.toList ns) (few : ns.length + 1 < scanBound)
    (fin : ∀ (g : Heap) (tk c : Nat), SetR w g s.heap.objs.size (fun j => decide (j ∈ ns)) c → c ≤ ns.length → (∀ b o, s.heap.get? b = some o → g.get? b = some o) → Q (.ref s.heap.objs.size) { s with heap := g, toks := tk }) :
    wpAny (model P w) A (call (.type "set") [.ref l]) Q E s := by
  have count : xs.size = ns.length := by simpa using IntsAre.length whole
  obtain ⟨c, tl, hmro⟩ := F.called_set.mro
  have hmade := F.called_set.made
  have hsub := F.called_set.sub
  have ask := F.typeCall_set_1 (.ref l)
  have nt := F.called_set.notType
  have cc := F.called_set.canCreate
  refine wpAny_call (codeAny_of_tree ?_)
  show wpAny _ _ (callAny (.type "set") _) _ _ _
  refine wpAny_pure ⟨Code.quiet_builtin _ (by decide +kernel), codeAny_builtin F.entry_type_call ?_⟩
  rw [Around.under_plain (weight_type_call_type "set" [.ref l] []) rfl]
  repeat (any_goals (first | assumption | wp_step))
  refine codeAny_mono (code_set_led1 (.ref l) (E := E) (Q₁ := fun made s₁ => made = .ref s.heap.objs.size ∧ s₁ = { s with heap := s.heap.push (bareSet w) }) ⟨rfl, rfl⟩) fun r s₁ got => ?_
  cases r with
  | error e => exact got
  | ok fl =>
    cases fl with
    | next => exact False.elim got
    | brk => exact False.elim got
    | cont => exact False.elim got
    | ret made =>
      obtain ⟨rfl, rfl⟩ := got
      have atS : (s.heap.push (bareSet w)).get? s.heap.objs.size = some (bareSet w) := Heap.get?_push_size _ rfl
      have tyS : Shared.TypeIs { s with heap := s.heap.push (bareSet w) } (.ref s.heap.objs.size) "set" := ⟨_, atS, rfl⟩
      have lk := F.called_set.init.lookup
      have bd := F.called_set.init.bind (.ref s.heap.objs.size)
      repeat (any_goals (first | assumption | wp_step))
      refine codeAny_mono (codeAny_call_builtin (R := wants (fun r s₂ => r = .none ∧ ∃ g tk c, s₂ = { s with heap := g, toks := tk } ∧ SetR w g s.heap.objs.size (fun j => decide (j ∈ ns)) c ∧ c ≤ ns.length ∧
          (∀ b o, s.heap.get? b = some o → g.get? b = some o)) E) F.called_set.init.plain F.entry_set_init (check_set_init_1 tyS ?_)) fun r₂ s₂ end₂ => ?_
      · obtain ⟨⟨oc, od, dt, sl⟩, hol, hcl, n, hdl⟩ := isl
        simp only at hcl hdl
        subst hcl; subst hdl
        have hol1 : (s.heap.push (bareSet w)).get? l = some { cls := .type "list", dict := od, data := .seq xs n, slots := sl } := Heap.get?_push_of_some _ hol
        have q1 := F.sub_list_set
        have q2 := F.sub_list_frozenset
        have q3 : (Value.type "list" == Value.type "dict") = false := by decide
        have isl1 : (s.heap.push (bareSet w)).IsList l xs := ⟨_, hol1, rfl, n, rfl⟩
        unfold Builtin.«set.__init__» noKeywords Builtin.Frozenset.updateFrom
        generalize hPI : pyIter = PI
        wp_walk
        subst hPI
        refine wpAny_pyIter_list isl1 (wpAny_bind (wpAny_runValue ?_))
        have below : l < s.heap.objs.size := Heap.lt_size hol
        have quiet3 : A.in1.in1.in1.handled = none := by simp [quiet]
        have neI : l ≠ (s.heap.push (bareSet w)).objs.size := by
          rw [Heap.size_push]
          exact Nat.ne_of_lt (Nat.lt_succ_of_lt below)
        have offS : s.heap.objs.size ∉ [(s.heap.push (bareSet w)).objs.size, l] := by
          rw [Heap.size_push]
          simp only [List.mem_cons, List.not_mem_nil, or_false, not_or]
          exact ⟨Nat.ne_of_lt (Nat.lt_succ_self _), Nat.ne_of_gt below⟩
        have each : ∀ (i : Nat) (v : Value), xs[i]? = some v → ∃ k t, ns[i]? = some k ∧ v = .int k t := fun i v hv => by
          have hi : i < ns.length := by
            rw [← count]
            exact (Array.getElem?_eq_some_iff.mp hv).1
          obtain ⟨t, e⟩ := PyProof.Rows.IntsAre.int_at whole i v (by rw [Array.getElem?_toList]; exact hv)
          exact ⟨ns[i], t, List.getElem?_eq_getElem hi, by rw [e, List.getD_eq_getElem?_getD, List.getElem?_eq_getElem hi] <;> rfl⟩
        refine set_update_ints ((Walks.list quiet3 _ l neI xs).toS) s.heap.objs.size offS ns count few each (xs.size - 0) 0 _ (by omega) (Nat.zero_le _) ⟨⟨_, Heap.get?_push_size _ rfl, rfl, rfl⟩, (isl1.push _)⟩ ?z0 ?zR
        case z0 => exact ⟨0, Nat.le_refl 0, setR_new_at (Heap.get?_push_of_some _ atS)⟩
        case zR =>
          intro s' c' mv lc hS
          obtain ⟨g, gn, dr, tk, os⟩ := s'
          obtain rfl : gn = s.gens := mv.gens
          obtain rfl : dr = s.drawn := mv.drawn
          obtain rfl : os = s.os := mv.os
          show wpAny _ _ _ _ _ _
          refine wpAny_pure ?_
          show wpAny _ _ (ret Value.none) _ _ _
          refine wpAny_pure ⟨rfl, g, tk, c', rfl, hS, by omega, fun b o e => ?_⟩
          have lt : b < s.heap.objs.size := Heap.lt_size e
          refine mv.heap b o ?_ (Heap.get?_push_of_some _ (Heap.get?_push_of_some _ e))
          rw [Heap.size_push]
          simp only [List.mem_cons, List.not_mem_nil, or_false, not_or]
          exact ⟨Nat.ne_of_lt lt, Nat.ne_of_lt (Nat.lt_succ_of_lt lt)⟩
      · cases r₂ with
        | error e => exact end₂
        | ok fl =>
          cases fl with
          | next => exact False.elim end₂
          | brk => exact False.elim end₂
          | cont => exact False.elim end₂
          | ret v =>
            obtain ⟨rfl, g, tk, c', rfl, hS, hc, old⟩ := end₂
            repeat (any_goals (first | assumption | wp_step))
            all_goals first | exact fin g tk c' hS hc old | skip
end
end T

set_option maxHeartbeats 3200000
namespace T
open PySem PySem.Spec PyProof.Rows L2
section
variable {X : Cx}
def rSetL (K : PySem.W.Frag) (w : World) : List V → Hp → VK → Prop := fun args H Q => ∃ (l : Addr) (ns : List Int), args = [.ref l] ∧ SqL K H l (ns.map V.int) ∧ ns.length < 60 ∧
  ∀ (a : Addr) (c : Nat), H a = none → c ≤ ns.length → Q (.ref a) (upd H a (SetO w a (fun j => decide (j ∈ ns)) c))
theorem call_setL (hcalm : X.calm = true) : CallR X (.type "set") (rSetL X.K X.w) := by
  rintro pins st σ H args vals Q I rel ⟨l, ns, rfl, sq, few, fin⟩
  obtain ⟨u, rfl, ru⟩ := vals1 rel
  cases ru
  obtain ⟨its, rv, pl, hz⟩ := I.list sq
  refine set_of_list ns (I.ok.hd hcalm) pl.isList rv.ints (by unfold scanBound; omega) fun g tk c hS hc old => ?_
  have J : Inv X pins σ (upd H st.heap.objs.size (SetO X.w st.heap.objs.size (fun j => decide (j ∈ ns)) c)) { st with heap := g, toks := tk } := I.laid (t' := tk) old (Nat.le_refl _) (setO_new hS)
  exact ⟨.ref st.heap.objs.size, _, J, rfl, fin _ c (I.hok.fresh (Nat.le_refl _)) hc⟩
end
/-! ### the bag: two whole numbers, drawn from -/
/-- at b the bag -/
def Bag (H : Hp) (b : Addr) : Prop := ∃ x y : Int, H b = some (.lst [.int x, .int y]) ∧ 0 ≤ x ∧ 0 ≤ y ∧ y < 2147483648
/-- what a draw leaves: the bag is a bag, all else stands -/
structure Drew (b : Addr) (H H' : Hp) : Prop where
  keep : ∀ a o, H a = some o → a ≠ b → H' a = some o
  bag : Bag H' b
theorem Drew.refl {b : Addr} {H : Hp} (h : Bag H b) : Drew b H H := ⟨fun _ _ e _ => e, h⟩
theorem Drew.trans {b : Addr} {H H1 H2 : Hp} (x : Drew b H H1) (y : Drew b H1 H2) : Drew b H H2 := ⟨fun a o e n => y.keep a o (x.keep a o e n) n, y.bag⟩
theorem Drew.tup {b : Addr} {H H' : Hp} (hb : Bag H b) (d : Drew b H H') : Tup H H' := fun a u t e => d.keep a u e fun z => by
  obtain ⟨x, y, h, _⟩ := hb
  rw [z, h] at e
  cases e
  cases t
theorem Drew.of {b : Addr} {H H' : Hp} (hb : Bag H b) (s : Same H H') : Drew b H H' := ⟨fun a o e _ => s a o e, by
  obtain ⟨x, y, h, r⟩ := hb
  exact ⟨x, y, s _ _ h, r⟩⟩
theorem Bag.same {b : Addr} {H H' : Hp} (hb : Bag H b) (s : Same H H') : Bag H' b := (Drew.of hb s).bag
theorem Bag.ne {b a : Addr} {H : Hp} {o : HO} (hb : Bag H b) (n : b ≠ a) : Bag (upd H a o) b := by
  obtain ⟨x, y, h, r⟩ := hb
  exact ⟨x, y, by rw [upd_ne n]; exact h, r⟩
theorem bag_ne {b a : Addr} {H : Hp} (hb : Bag H b) (h : H a = none) : b ≠ a := by
  obtain ⟨x, y, e, _⟩ := hb
  exact ne_of_none e h
theorem Drew.free {b : Addr} {H H' : Hp} (d : Drew b H H') {l : Addr} (h : H' l = none) : H l = none := by
  cases q : H l with
  | none => rfl
  | some o =>
    have n : l ≠ b := fun z => by
      obtain ⟨x, y, e, _⟩ := d.bag
      rw [← z, h] at e
      cases e
    rw [d.keep l o q n] at h
    cases h
theorem Drew.new {b p : Addr} {H H' : Hp} {o : HO} (d : Drew b H H') (h : H' p = none) : Drew b H (upd H' p o) := ⟨fun a u e n => by
  have e1 := d.keep a u e n
  rw [upd_ne (ne_of_none e1 h)]
  exact e1, d.bag.ne (bag_ne d.bag h)⟩
/-- a list made on the way grows -/
theorem Drew.mut {b p : Addr} {H H' : Hp} {o : HO} (d : Drew b H H') (h : H p = none) (n : b ≠ p) : Drew b H (upd H' p o) := ⟨fun a u e m => by
  rw [upd_ne (ne_of_none e h)]
  exact d.keep a u e m, d.bag.ne n⟩
end T
namespace T
open PySem PySem.Spec PyProof.Rows L2
section
variable {α : Type} {K : PySem.W.Frag} {H : Hp} {d : Addr} {N : Nat} {f : α → V} {g : Int → Option α} {Q : VK} {k : Int}
theorem x_DG (h : DkAt H d N f g) {u : α} (e : g k = some u) (q : Q (f u) H) : ∃ a v, V.ref d = .ref a ∧ DGet H a (.int k) (some v) ∧ Q v H :=
  ⟨d, f u, rfl, by have z := h.get k; rw [e] at z; exact z, q⟩
theorem x_DI (h : DkAt H d N f g) (q : Q (.bl (g k).isSome) H) : ∃ a o, V.ref d = .ref a ∧ DGet H a (.int k) o ∧ Q (.bl o.isSome) H :=
  ⟨d, _, rfl, h.get k, by rw [Option.isSome_map]; exact q⟩
theorem x_DN (h : DkAt H d N f g) (q : Q (.bl (!(g k).isSome)) H) : ∃ a o, V.ref d = .ref a ∧ DGet H a (.int k) o ∧ Q (.bl (!o.isSome)) H :=
  ⟨d, _, rfl, h.get k, by rw [Option.isSome_map]; exact q⟩
theorem x_DP {R : Hp → Prop} (h : DkAt H d N f g) (u : α) (h0 : 0 ≤ k) (h1 : k < N) (hN : N ≤ 1000000) (q : ∀ o, Mut (H d) → DkAt (upd H d o) d N f (fun j => if j = k then some u else g j) → R (upd H d o)) :
    ∃ a H4, V.ref d = .ref a ∧ DPut H a (.int k) (f u) H4 ∧ R H4 := by
  obtain ⟨o, p, m, z⟩ := h.put u h0 h1 hN
  exact ⟨d, _, rfl, p, q o m z⟩
theorem x_DPop2 {z : V} (h : DkAt H d N f g) (q1 : ∀ u o, g k = some u → Mut (H d) → DkAt (upd H d o) d N f (fun j => if j = k then none else g j) → Q (f u) (upd H d o)) (q2 : g k = none → Q z H) :
    ∃ kvs k', H d = some (.dK kvs) ∧ V.int k = kV k' ∧ (∀ v, valV kvs k' = some v → Q v (upd H d (.dK (dropK kvs k')))) ∧ (valV kvs k' = none → Q z H) := by
  obtain ⟨kvs, e1, e2, e3⟩ := h.del k
  refine ⟨kvs, Sum.inl k, e1, rfl, fun v hv => ?_, fun hv => ?_⟩
  · rw [e2] at hv
    cases hg : g k with
    | none => rw [hg] at hv; cases hv
    | some u =>
      rw [hg] at hv
      cases hv
      exact q1 u _ hg h.mut e3
  · rw [e2] at hv
    cases hg : g k with
    | none => exact q2 hg
    | some u => rw [hg] at hv; cases hv
theorem x_DPop1 (h : DkAt H d N f g) {u : α} (hg : g k = some u) (q1 : ∀ o, Mut (H d) → DkAt (upd H d o) d N f (fun j => if j = k then none else g j) → Q (f u) (upd H d o)) :
    ∃ kvs k' v, H d = some (.dK kvs) ∧ V.int k = kV k' ∧ valV kvs k' = some v ∧ Q v (upd H d (.dK (dropK kvs k'))) := by
  obtain ⟨kvs, e1, e2, e3⟩ := h.del k
  exact ⟨kvs, Sum.inl k, f u, e1, rfl, by rw [e2, hg]; rfl, q1 _ h.mut e3⟩
theorem x_DG2 {z : V} (h : DkAt H d N f g) (q : Q (((g k).map f).getD z) H) : ∃ o, DGet H d (.int k) o ∧ Q (o.getD z) H := ⟨_, h.get k, q⟩
theorem x_lenD (h : DkAt H d N f g) (q : Q (.int ((ksOf N fun k => (g k).isSome).length : Nat)) H) : rLenD [.ref d] H Q := by
  obtain ⟨kvs, e, l⟩ := h.len_le
  exact ⟨d, kvs, rfl, e, by rw [l]; exact q⟩
theorem x_tupF {a : Addr} {xs : List V} (h : SqL K H a xs) (q : ∀ l o, H l = none → o.dict = none → Q (.ref l) (upd H l (.frz o (.tup xs)))) : rTupF K [.ref a] H Q := ⟨a, xs, rfl, h, q⟩
theorem ft_new {l : Addr} {o : Obj} {xs : List V} (h : o.dict = none) : Ft (upd H l (.frz o (.tup xs))) l xs := ⟨o, upd_same, h⟩
end
/-! pairs as they stand -/
def dPair (p : Int × Int) : PyData := .tuple [.int p.1, .int p.2]
def dTab (t : List (Int × Int)) : PyData := .tuple (t.map dPair)
theorem paired_of {K : PySem.W.Frag} {H : Hp} : ∀ {xs : List V} {t : List (Int × Int)}, DtAll K H xs (t.map dPair) → ∃ ps : List Addr, xs = ps.map V.ref ∧ Paired (fun p kv => SqT K H p [kV kv.1, kv.2]) ps (dkO V.int t)
  | [], [], _ => ⟨[], rfl, .nil⟩
  | x :: xs, [], h => by cases h
  | [], p :: t, h => by cases h
  | x :: xs, p :: t, h => by
    cases h with
    | cons h1 h2 =>
      obtain ⟨ps, rfl, r⟩ := paired_of h2
      obtain ⟨a, ys, rfl, hs, hy⟩ := dt_tup h1
      cases hy with
      | cons k1 k2 =>
        cases k2 with
        | cons k3 k4 =>
          cases k4
          cases k1
          cases k3
          exact ⟨a :: ps, rfl, .cons hs r⟩
/-- a table that dict(..) may take: at v, with the pairs t -/
def TabAt (K : PySem.W.Frag) (H : Hp) (v : V) (t : List (Int × Int)) : Prop := ∃ a xs, v = .ref a ∧ Ft H a xs ∧ DtAll K H xs (t.map dPair)
theorem TabAt.dt {K : PySem.W.Frag} {H : Hp} {v : V} {t : List (Int × Int)} (h : TabAt K H v t) : Dt K H v (dTab t) := by
  obtain ⟨a, xs, rfl, f, d⟩ := h
  exact .tup f.sqt d
theorem TabAt.tup {K : PySem.W.Frag} {H H' : Hp} {v : V} {t : List (Int × Int)} (s : Tup H H') (h : TabAt K H v t) : TabAt K H' v t := by
  obtain ⟨a, xs, rfl, f, d⟩ := h
  exact ⟨a, xs, rfl, f.tup s, dtma s d⟩
theorem x_dictPT {K : PySem.W.Frag} {H : Hp} {v : V} {t : List (Int × Int)} {N : Nat} {Q : VK} (h : TabAt K H v t) (nd : (t.map (·.1)).Nodup) (dom : ∀ k ∈ t.map (·.1), 0 ≤ k ∧ k < (N : Int))
    (q : ∀ p o, H p = none → DkAt (upd H p o) p N V.int (aget t) → Q (.ref p) (upd H p o)) : rDictPT K [v] H Q := by
  obtain ⟨a, xs, rfl, f, d⟩ := h
  obtain ⟨ps, rfl, r⟩ := paired_of d
  refine ⟨a, ps, _, rfl, f, r, fun p hp => q p _ hp ?_⟩
  have e := merge_dkO (f := V.int) t [] nd
  exact ⟨t, by rw [upd_same]; exact congrArg (fun z => some (HO.dK z)) e, nd, dom, fun k => rfl⟩
theorem x_dictD {H : Hp} {d : Addr} {α : Type} {N : Nat} {f : α → V} {g : Int → Option α} {Q : VK} (h : DkAt H d N f g) (q : ∀ p o, H p = none → DkAt (upd H p o) p N f g → Q (.ref p) (upd H p o)) :
    ∃ (a : Addr) (kvs : List (Key × V)), [V.ref d] = [.ref a] ∧ Rd H a (.dK kvs) ∧ ∀ p, H p = none → Q (.ref p) (upd H p (.dK kvs)) := by
  obtain ⟨m, e1, e2, e3, e4⟩ := h.ex
  exact ⟨d, _, rfl, .inl e1, fun p hp => q p _ hp ⟨m, upd_same, e2, e3, e4⟩⟩
end T
namespace T
open PySem PySem.Spec PyProof.Rows L2
theorem walk_zipT {K : PySem.W.Frag} {a b : Addr} {xs ys : List V} {n : Nat} (hn : n = min xs.length ys.length) : Walk (RZ.ItzT K a b) n (fun H => SqT K H a xs ∧ SqT K H b ys) (YPair (fun i => xs[i]?) (fun i => ys[i]?)) := by
  subst hn
  refine ⟨fun i _ hi q => ?_, fun _ q => ⟨xs, ys, q.1, q.2, by omega⟩, fun i H v H' _ q y => ?_⟩
  · have h1 : i < xs.length := by omega
    have h2 : i < ys.length := by omega
    exact ⟨xs, ys, xs[i], ys[i], q.1, q.2, by simp [h1], by simp [h2]⟩
  · obtain ⟨T, x, z, h1, h2, h3, h4, h5⟩ := y
    exact ⟨T, x, z, h1, h2, h3, h4 xs q.1, h5 ys q.2⟩
section
variable {K : PySem.W.Frag} {σ : L2.St} {H : Hp} {D : Ends} {te : TE} {ta : TA} {R : It → Hp → Prop} {wi : TI} {g : TG} {tb : TS} {tt : TT} {vs : List Nat} {Q : VK} {v : V}
theorem x_iTup (h : te σ H fun x H1 => ∃ a, x = .ref a ∧ (∃ xs, SqT K H1 a xs) ∧ R (Itt K a) H1) : iTup K te σ H R := h
theorem x_iList (h : te σ H fun x H1 => ∃ a, x = .ref a ∧ (∃ xs, SqL K H1 a xs) ∧ R (Itl K a) H1) : iList K te σ H R := h
theorem x_iRng1 (h : ta σ H fun vs H1 => ∃ n : Int, vs = [.int n] ∧ -(2 ^ 62) ≤ n ∧ n < 2 ^ 62 ∧ R (Itr 0 n.toNat) H1) : iRng1 ta σ H R := h
theorem x_iRng2 (h : ta σ H fun vs H1 => ∃ a b : Int, vs = [.int a, .int b] ∧ (-(2 ^ 62) ≤ a ∧ a < 2 ^ 62 ∧ -(2 ^ 62) ≤ b ∧ b < 2 ^ 62) ∧ R (Itr a (b - a).toNat) H1) : iRng2 ta σ H R := h
theorem x_iZip (h : ta σ H fun vs H1 => ∃ a b xs ys, vs = [.ref a, .ref b] ∧ ((SqL K H1 a xs ∧ SqL K H1 b ys ∧ R (Itz K a b) H1) ∨ (SqT K H1 a xs ∧ SqT K H1 b ys ∧ R (RZ.ItzT K a b) H1))) : RZ.iZipA K ta σ H R := h
theorem x_lc (h : wi σ H fun J H1 => ∀ D, H1 D = none → ∃ W : Nat → Nat → Hp → Prop, (∃ m, W 0 m (upd H1 D (.lst []))) ∧ ∀ i m H, W i m H →
  (J.stop i H ∧ Q (.ref D) H) ∨ (J.go i H ∧ ∃ Nx : Hp → Prop, (∀ H', Nx H' → ∃ m', m' < m ∧ W (i + 1) m' H') ∧ ∀ x H', J.yld i H x H' → g x (wipe σ vs) H' fun σ2 H2 => wipe σ2 vs = wipe σ vs ∧ tt σ2 H2 fun b H3 =>
    if b = true then te σ2 H3 fun y H4 => ∃ acc, H4 D = some (.lst acc) ∧ acc.length < sizeLine ∧ Nx (upd H4 D (.lst (acc ++ [y]))) else Nx H3)) : tLc wi g tt te vs σ H Q := h
theorem x_yes {QB : Bool → Hp → Prop} (h : QB true H) : tYes σ H QB := h
theorem x_for (h : wi σ H fun J H1 => ∃ W : Nat → Nat → L2.St → Hp → Prop, (∃ m, W 0 m σ H1) ∧ ∀ i m σ H, W i m σ H →
  (J.stop i H ∧ D.nx σ H) ∨ (J.go i H ∧ ∃ N : L2.St → Hp → Prop, (∀ σ' H', N σ' H' → ∃ m', m' < m ∧ W (i + 1) m' σ' H') ∧ ∀ x H', J.yld i H x H' → g x σ H' fun σ2 H2 => tb { D with nx := N, ct := N, bk := D.nx } σ2 H2)) : tFor wi g tb D σ H := h
theorem x_gTup {n : Nat} {t : TGs} {N : L2.St → Hp → Prop} {a : Addr} {xs : List V} (hs : SqT K H a xs) (hl : xs.length = n) (q : t xs σ H N) : gTup K n t (.ref a) σ H N := ⟨a, xs, rfl, hs, hl, q⟩
theorem x_gCons {t : TG} {u : TGs} {r : List V} {N : L2.St → Hp → Prop} (h : t v σ H fun σ' H' => u r σ' H' N) : gCons t u (v :: r) σ H N := ⟨v, r, rfl, h⟩
theorem x_gNil {N : L2.St → Hp → Prop} (h : N σ H) : gNil [] σ H N := ⟨rfl, h⟩
end
end T

set_option maxHeartbeats 3200000
namespace T
open PySem PySem.Spec PyProof.Rows L2
/-! ### the rules with the written part named -/
section
variable {X : Cx} {K : PySem.W.Frag}
theorem ix_tup_ (e : X.K = K) : IxR X (rIxT K) := by subst e; exact ix_tup
theorem ix_list_ (e : X.K = K) : IxR X (rIxL K) := by subst e; exact ix_list
theorem sl_tup_ (e : X.K = K) : SlR X (rSlT K) := by subst e; exact sl_tup
theorem sl_list_ (e : X.K = K) : SlR X (rSlL K) := by subst e; exact sl_list
theorem op_eqD_ (e : X.K = K) (hu : X.A.units + 64 < cLine) : OpR X (compareOp .Eq) (rEqD K) := by subst e; exact op_eqD hu
theorem op_neD_ (e : X.K = K) (hu : X.A.units + 64 < cLine) : OpR X (compareOp .NotEq) (rNeD K) := by subst e; exact op_neD hu
theorem op_in_seq_ (e : X.K = K) : OpR X (compareOp .In) (rIn K false) := by subst e; exact op_in_seq
theorem op_notIn_seq_ (e : X.K = K) : OpR X (compareOp .NotIn) (rIn K true) := by subst e; exact op_notIn_seq
theorem op_catT_ (e : X.K = K) : OpR X (binaryOp .Add) (rCatT K) := by subst e; exact op_catT
theorem call_isi_ (e : X.K = K) : CallR X (.builtin "isinstance") (rIsi K) := by subst e; exact call_isi
theorem call_lenQ (e : X.K = K) : CallR X (.builtin "len") (rLen K) := by subst e; exact call_len_
theorem cr_all_ (e : X.K = K) (hc : X.calm = true) : CallR X (.builtin "all") (rAll K) := by subst e; exact cr_all hc
theorem cr_any_ (e : X.K = K) (hc : X.calm = true) : CallR X (.builtin "any") (rAny K) := by subst e; exact cr_any hc
theorem cr_min_ (e : X.K = K) (hc : X.calm = true) : CallR X (.builtin "min") (rMin K) := by subst e; exact cr_min hc
theorem call_tupleQ (e : X.K = K) : CallR X (.type "tuple") (rTupF K) := by subst e; exact call_tupleF
theorem call_tuple_T (e : X.K = K) : CallR X (.type "tuple") (rTupOf K) := by subst e; exact call_tuple_
theorem call_dictPT_ (e : X.K = K) (hc : X.calm = true) : CallR X (.type "dict") (rDictPT K) := by subst e; exact call_dictPT hc
theorem cr_sortedI_ (e : X.K = K) : CallR X (.builtin "sorted") (rSortedI K) := by subst e; exact cr_sortedI
def rSetQ (K : PySem.W.Frag) (w : World) := rSetL K w
theorem call_setQ {w : World} (e : X.K = K) (ew : X.w = w) (hc : X.calm = true) : CallR X (.type "set") (rSetL K w) := by subst e; subst ew; exact call_setL hc
theorem cr_sortedSet_ {w : World} (ew : X.w = w) (hc : X.calm = true) : CallR X (.builtin "sorted") (rSortedSet w) := by subst ew; exact cr_sortedSet hc
def rDictP (K : PySem.W.Frag) : List V → Hp → VK → Prop := fun xs H Q => ∃ (a : Addr) (ps : List Addr) (kvs : List (Key × V)), xs = [.ref a] ∧ SqL K H a (ps.map V.ref) ∧ Paired (fun p kv => SqT K H p [kV kv.1, kv.2]) ps kvs ∧
    ∀ p, H p = none → Q (.ref p) (upd H p (.dK (mergeK [] kvs)))
theorem call_dictP_ (e : X.K = K) (hc : X.calm = true) : CallR X (.type "dict") (rDictP K) := by subst e; exact call_dictP hc
def rDictD : List V → Hp → VK → Prop := fun xs H Q => ∃ (a : Addr) (kvs : List (Key × V)), xs = [.ref a] ∧ Rd H a (.dK kvs) ∧ ∀ p, H p = none → Q (.ref p) (upd H p (.dK kvs))
theorem call_dictD_ (hc : X.calm = true) : CallR X (.type "dict") rDictD := call_dictD
section
variable {o e value : Expr} {f : Str} {pos pos' tpos p : Pos} {ta tv te : TE} {tg : Expr} {t : TA}
theorem pe_fld_ (ek : X.K = K) (he : PE X e ta) (hb : attributeBase e f X.env (eval e X.env) = eval e X.env) : PE X (.Attribute e f pos) (tFld K ta f) := by subst ek; exact pe_fld he hb
theorem ps_fld_ (ek : X.K = K) (ha : PE X o ta) (hv : PE X value tv) (hs : swapsWith value (some (.Attribute o f pos')) pos.line X.env = pure false) : PS X (.Assign [.Attribute o f pos'] value pos) (sFld K ta tv f) := by subst ek; exact ps_fld ha hv hs
theorem ps_fldaug_ (ek : X.K = K) {op : Operator} {rd : V → V → Hp → VK → Prop} (ha : PE X o ta) (hv : PE X value tv) (hop : InOp X op rd) : PS X (.AugAssign (.Attribute o f tpos) op value pos) (sFldAug K ta tv rd f) := by subst ek; exact ps_fldaug ha hv hop
theorem pi_list_ (ek : X.K = K) {l : Expr} {tl : TE} (hl : PE X l tl) : PI X tg l (iList K tl) := by subst ek; exact pi_list hl
theorem pi_tup_ (ek : X.K = K) {l : Expr} {tl : TE} (hl : PE X l tl) : PI X tg l (iTup K tl) := by subst ek; exact pi_tup hl
theorem pi_zip_ (ek : X.K = K) {e e2 : Expr} {ta : TA} {elts : List Expr} {kk : Nat} (hg : Gl X "zip") (hm : X.mg "zip" = none) (ha : PA X [e, e2] ta)
    (hs : starEach [e, e2] X.env = (false, eval e X.env) :: starEach [e2] X.env := by rfl) (hpl : (backTo pos (starEach [e2] X.env)).any (·.1) = false := by rfl) :
    PI X (.Tuple elts kk tpos) (.Call (.Name "zip" p) [e, e2] [] pos) (RZ.iZipA K ta) := by subst ek; exact RZ.pi_zipA hg hm ha hs hpl
theorem pg_tup_ (ek : X.K = K) {es : List Expr} {k : Nat} {t : TGs} {n : Nat} (hc : X.calm = true) (h : PGs X es t)
    (hn : (assignEach es X.env).length = n := by rfl) (hst : (assignEach es X.env).findIdx? (·.1) = none := by rfl) : PG X (.Tuple es k pos) (gTup K n t) := by subst ek; exact pg_tup hc h hn hst
theorem pt_truth_ (ek : X.K = K) (he : PE X e te) (hw : ∀ whole, isTrue e X.env whole = (do let v ← whole; standAt e.pos; holding [v] (truthy v)) := by intro _; rfl) : PT X e (tTru K te) := by subst ek; exact pt_truth he hw
theorem pe_revL_ (ek : X.K = K) {k : Nat} {p1 p2 p3 : Pos} (he : PE X e te) : PE X (.Subscript e (.Slice none none (some (.UnaryOp .USub (.Constant (.int 1) k p1) p2)) p3) pos) (tRevL K te) := by subst ek; exact pe_revL he
end
end

section
variable {X : Cx} {K : PySem.W.Frag} {H : Hp} {Q : VK} {a : Addr} {xs : List V} {lo hi : Option Int}
theorem sl_tupA_ (e : X.K = K) : SlR X (rSlA K) := by subst e; exact sl_tupA
theorem op_catA_ (e : X.K = K) : OpR X (binaryOp .Add) (rCatA K) := by subst e; exact op_catA
theorem x_slA (hs : SqT K H a xs) (q : ∀ p H', Same H H' → SqT K H' p (cutV xs lo hi) → Q (.ref p) H') : rSlA K (.ref a) lo hi H Q := by
  refine ⟨a, xs, rfl, hs, fun ⟨h1, h2⟩ => q a H (Same.refl H) ?_, fun _ p hp => q p _ (same_new hp) (.of upd_same)⟩
  have e : cutV xs lo hi = xs := by
    unfold cutV
    rw [h1, h2, List.drop_zero, Nat.sub_zero, List.take_length]
  rw [e]
  exact hs
theorem cutV_tail : cutV xs (some 1) none = xs.drop 1 := by
  unfold cutV
  show (xs.drop (min (1 : Int).toNat xs.length)).take (xs.length - min (1 : Int).toNat xs.length) = xs.drop 1
  cases xs with
  | nil => rfl
  | cons x r =>
    rw [show min (1 : Int).toNat (x :: r).length = 1 by show min 1 (r.length + 1) = 1; omega]
    show r.take (r.length + 1 - 1) = r
    rw [Nat.add_sub_cancel, List.take_length]
theorem x_all {D : Addr} {n : Nat} {b : Nat → Bool} (h : SqL K H D ((List.range n).map fun i => V.bl (b i))) (q : Q (.bl ((List.range n).all b)) H) : rAll K [.ref D] H Q := by
  refine ⟨D, (List.range n).map b, rfl, by rw [List.map_map]; exact h, ?_⟩
  rw [List.all_map]
  exact q
end
end T

set_option maxHeartbeats 3200000
namespace T
open PySem PySem.Spec PyProof.Rows L2
section
variable {K : PySem.W.Frag} {σ : L2.St} {H H' : Hp} {D : Ends} {v : V} {te to ti : TE} {Q : VK}
theorem x_gSub {t : TSet} {N : L2.St → Hp → Prop} (h : to σ H fun o H1 => ti σ H1 fun i H2 => t o i v H2 fun H3 => N σ H3) : gSub to ti t v σ H N := h
theorem x_nameE {i : Nat} {σ' : L2.St} {N : L2.St → Hp → Prop} (e : σ.set i (some v) = σ') (h : N σ' H) : gName i v σ H N := by
  show N (σ.set i (some v)) H
  rw [e]
  exact h
theorem x_put {p : Addr} {xs : List V} {k : Int} {j : Nat} {x : V} {N : Hp → Prop} (hp : H p = some (.lst xs)) (e : ixN xs.length k = some j) (q : N (upd H p (.lst (xs.set j x)))) : L2.rSetL (.ref p) (.int k) x H N := ⟨p, xs, k, j, rfl, rfl, hp, e, q⟩
theorem b_of_not_t {b : Bool} (h : (!b) = true) : b = false := by cases b <;> first | rfl | cases h
theorem b_of_not_f {b : Bool} (h : (!b) = false) : b = true := by cases b <;> first | rfl | cases h
theorem x_cat {l b : Addr} {xs ys : List V} (h1 : H l = some (.lst xs)) (h2 : H b = some (.lst ys)) (few : xs.length + ys.length ≤ sizeLine) (q : ∀ p, H p = none → Q (.ref p) (upd H p (.lst (xs ++ ys)))) : rCat (.ref l) (.ref b) H Q :=
  ⟨l, b, xs, ys, rfl, rfl, h1, h2, few, q⟩
theorem x_eqD {a b : V} {d e : PyData} (h1 : Dp K H a d) (h2 : Dp K H b e) (s1 : SeqAt.shaped d = true) (s2 : SeqAt.shaped e = true) (q : Q (.bl (PyData.eqv d e)) H) : rEqD K a b H Q := ⟨d, e, h1, h2, s1, s2, q⟩
theorem x_neD {a b : V} {d e : PyData} (h1 : Dp K H a d) (h2 : Dp K H b e) (s1 : SeqAt.shaped d = true) (s2 : SeqAt.shaped e = true) (q : Q (.bl (!PyData.eqv d e)) H) : rNeD K a b H Q := ⟨d, e, h1, h2, s1, s2, q⟩
/-! the heap behind a step, told by what it holds -/
theorem of_new {p : Addr} {o : HO} (e : upd H p o = H') (n : H p = none) : Same H H' ∧ H' p = some o := by subst e; exact ⟨same_new n, upd_same⟩
theorem new_cat {l b : Addr} {xs ys : List V} (h1 : H l = some (.lst xs)) (h2 : H b = some (.lst ys)) (few : xs.length + ys.length ≤ sizeLine) (q : ∀ p H', H p = none → Same H H' → H' p = some (.lst (xs ++ ys)) → Q (.ref p) H') : rCat (.ref l) (.ref b) H Q :=
  ⟨l, b, xs, ys, rfl, rfl, h1, h2, few, fun p hp => q p _ hp (same_new hp) upd_same⟩
theorem x_M1 {r : V → List V → Hp → VK → Prop} (h : to σ H fun x H1 => (∃ a, x = .str a) ∧ te σ H1 fun y H2 => r x [y] H2 Q) : tM1 r to te σ H Q := h
/-- a draw's bag is new since H0: what stood at H0 stands -/
theorem same_drew {b : Addr} {H0 H1 H2 : Hp} (n : H0 b = none) (s : Same H0 H1) (d : Drew b H1 H2) : Same H0 H2 := fun a o e => d.keep a o (s a o e) (ne_of_none e n)
theorem same_free {H0 H1 : Hp} (s : Same H0 H1) {l : Addr} (h : H1 l = none) : H0 l = none := by
  cases q : H0 l with
  | none => rfl
  | some o =>
    rw [s l o q] at h
    cases h
/-- a comprehension's new list, nothing put -/
theorem pv_skip {H0 H1 : Hp} {D : Addr} {o : HO} (hD : H0 D = none) (s : Same H0 H1) : Same H0 (upd H1 D o) := same_mut s hD
/-- a for, its ends told apart -/
theorem for_itX {J : It} {n : Nat} {G : Hp → Prop} {Y : Nat → Hp → V → Hp → Prop} (w : Walk J n G Y) {g : TG} {tb : TS} {Nx : L2.St → Hp → Prop} {R : VK} (Pv : Nat → L2.St → Hp → Prop) (h0 : Pv 0 σ H) (hG : ∀ i σ H, i ≤ n → Pv i σ H → G H)
    (hs : ∀ i x σ H H', i < n → Pv i σ H → Y i H x H' → g x σ H' fun σ2 H2 => tb { nx := Pv (i + 1), rt := R, bk := Nx, ct := Pv (i + 1) } σ2 H2) (hd : ∀ σ H, Pv n σ H → Nx σ H) :
    ∃ W : Nat → Nat → L2.St → Hp → Prop, (∃ m, W 0 m σ H) ∧ ∀ i m σ H, W i m σ H →
      (J.stop i H ∧ Nx σ H) ∨ (J.go i H ∧ ∃ N : L2.St → Hp → Prop, (∀ σ' H', N σ' H' → ∃ m', m' < m ∧ W (i + 1) m' σ' H') ∧ ∀ x H', J.yld i H x H' → g x σ H' fun σ2 H2 => tb { nx := N, rt := R, bk := Nx, ct := N } σ2 H2) :=
  for_it (D := { nx := Nx, rt := R }) w Pv h0 hG hs hd
end
end T

set_option maxHeartbeats 4000000
namespace T
open PySem PySem.Spec PyProof.Rows L2
/-! ### a class of the program over ValueError is called with keywords -/
section
variable {M : Model} {Ar : Around} {Er : Value → Shared → Prop} {hp : Heap} {gs : Array GenState} {dr : Drawn} {tk : Nat} {os : OsState}
variable {nm qn : Str} {C Ns : Addr} {bs mr mrB : List Value} {hasd : Bool} {sn : List Str} {subs : List Value} {abs : Bool} {col : Option Bool} {dct : Option Addr} {j0 j1 j2 j3 j5 : Option Value} {B newId initId : String}
variable {prog : Program} {w : World} {R : Result → Shared → Prop}
theorem chk_newK (F : ExcBaseFacts B newId initId mrB) (hT : ∀ Y : String, mr.contains (.type Y) = mrB.contains (.type Y)) {xs : List Value} {kw : List (Str × Value)} {Q : Unit → Shared → Prop}
    (hC : hp.get? C = some (excClassObj nm qn C Ns bs mr hasd sn subs abs col dct j0 j1 j2 j3 j5 newId)) (q : Q () ⟨hp, gs, dr, tk, os⟩) : wpAny M Ar (checkBuiltinCall newId ⟨.ref C :: xs, kw⟩) Q Er ⟨hp, gs, dr, tk, os⟩ := by
  have has : (Value.ref C :: mr).contains (.type B) = true := by rw [List.contains_cons, hT, F.hasB, Bool.or_true]
  have nostar := F.noStar
  simp only [checkBuiltinCall, F.newKind, F.newSplit, F.newRow]
  repeat (first | refine wpAny_loadPart_at hC ?_ | (refine wpAny_isSubtype_exc hC ?_; rw [has]) | refine wpAny_staticBase_exc hC ?_ | refine wpAny_madeBy_exc hC ?_ | simp only [bne_self_eq_false, if_false, Bool.false_eq_true] | wp_step)
  exact q
theorem newK (F : ExcBaseFacts B newId initId mrB) (hT : ∀ Y : String, mr.contains (.type Y) = mrB.contains (.type Y)) {xs : List Value} {kw : List (Str × Value)}
    (hC : hp.get? C = some (excClassObj nm qn C Ns bs mr hasd sn subs abs col dct j0 j1 j2 j3 j5 newId))
    (q : R (.ok (.ret (.ref (hp.objs.size + 1)))) ⟨(hp.push (PySem.W.kdv_tup xs)).push (PySem.HandSPX.excO C hp.objs.size), gs, dr, tk, os⟩) (few : xs.length ≤ sizeLine) :
    codeAny (model prog w) Ar (.builtin newId ⟨.ref C :: xs, kw⟩) R ⟨hp, gs, dr, tk, os⟩ := by
  have ends_ := F.ends
  have has : (Value.ref C :: mr).contains (.type B) = true := by rw [List.contains_cons, hT, F.hasB, Bool.or_true]
  have hasA : (Value.ref C :: mr).contains (.type "AttributeError") = false := by rw [List.contains_cons, hT, F.noAttr]; rfl
  have hasN : (Value.ref C :: mr).contains (.type "NameError") = false := by rw [List.contains_cons, hT, F.noName]; rfl
  refine PySem.codeAny_builtinAt F.entry ?_
  unfold Builtin.«BaseException.__new__»
  refine PySem.wpAt_bind ?_
  show PySem.wpAt _ _ _ (stack >>= _) _ _ _
  refine PySem.wpAt_bind (PySem.wpAt_stack fun p below => PySem.wpAt_of_wpAny ?_)
  wp_walk
  refine PySem.wpAt_of_wpAny ?_
  rw [F.owner]
  repeat (first | with_reducible refine wpAny_madeHere_exc F.canon hC ?_ | with_reducible refine wpAny_loadPart_at hC ?_ | (with_reducible refine wpAny_isSubtype_exc hC ?_; first | rw [has] | rw [hasA] | rw [hasN]) | wp_step)
  show R _ _
  rw [Heap.size_push]
  exact q
theorem tcallK (F : ExcBaseFacts B newId initId mrB) (hT : ∀ Y : String, mr.contains (.type Y) = mrB.contains (.type Y)) {xs : List Value} {kw : List (Str × Value)} {fI : Addr} {Q : Fin → Shared → Prop}
    (hC : hp.get? C = some (excClassObj nm qn C Ns bs mr hasd sn subs abs col dct j0 j1 j2 j3 j5 newId))
    (hi : PySem.W.Looks (model prog w) hp (typeLookup (.ref C) "__init__") (some (.ref fI))) (hb : ∀ self, PySem.W.Looks (model prog w) hp (bindSpecial (.ref fI) self) (.ref fI, [self])) (few : xs.length ≤ sizeLine)
    (q : codeAny (model prog w) Ar (.call (.ref fI) ⟨.ref (hp.objs.size + 1) :: xs, kw⟩)
      (fun r s' => match r with | .ok (.ret v) => v = .none ∧ Q (.done (.ret (.ref (hp.objs.size + 1)))) s' | .ok _ => False | .error e => Er e s')
      ⟨(hp.push (PySem.W.kdv_tup xs)).push (PySem.HandSPX.excO C hp.objs.size), gs, dr, tk, os⟩) :
    wpAny (model prog w) Ar (Builtin.«type.__call__» ⟨.ref C :: xs, kw⟩) Q Er ⟨hp, gs, dr, tk, os⟩ := by
  repeat (first | with_reducible refine wpAny_loadPart_at hC ?_ | with_reducible refine wpAny_madeBy_exc hC ?_ | wp_step)
  refine codeAny_call_builtin_code (Code.quiet_builtin _ F.quiet) (chk_newK F hT hC ?_)
  refine newK F hT hC ?_ few
  show wpAny _ _ _ _ _ _
  have kk : ∀ b o, hp.get? b = some o → ((hp.push (PySem.W.kdv_tup xs)).push (PySem.HandSPX.excO C hp.objs.size)).get? b = some o := fun b o e => Heap.get?_push_of_some _ (Heap.get?_push_of_some _ e)
  have hC1 := kk _ _ hC
  have got : ((hp.push (PySem.W.kdv_tup xs)).push (PySem.HandSPX.excO C hp.objs.size)).get? (hp.objs.size + 1) = some (PySem.HandSPX.excO C hp.objs.size) := by heap_get
  have me : (Value.ref C :: mr).contains (.ref C) = true := by simp
  have i1 := hi.keeps kk
  have b1 := (hb (.ref (hp.objs.size + 1))).keeps kk
  unfold isInstance
  repeat (first | with_reducible refine wpAny_loadPart_at got ?_ | (with_reducible refine wpAny_isSubtype_exc hC1 ?_; rw [me]) | wp_step)
  show wpAny _ _ (typeLookup (.ref C) _) _ _ _
  refine i1.at ?_
  refine wpAny_holding (wpAny_bind (b1.at ?_))
  refine wpAny_bind (wpAny_call (codeAny_mono q fun r s' z => ?_))
  rcases r with e | (v | _ | _ | _) <;> first | exact z | exact z.elim | skip
  obtain ⟨rfl, z⟩ := z
  first
    | exact wpAny_pure (wpAny_pure z)
    | (wp_walk; exact z)
theorem callK (F : ExcBaseFacts B newId initId mrB) (hT : ∀ Y : String, mr.contains (.type Y) = mrB.contains (.type Y)) {xs : List Value} {kw : List (Str × Value)} {fI : Addr}
    (hC : hp.get? C = some (excClassObj nm qn C Ns bs mr hasd sn subs abs col dct j0 j1 j2 j3 j5 newId))
    (hi : PySem.W.Looks (model prog w) hp (typeLookup (.ref C) "__init__") (some (.ref fI))) (hb : ∀ self, PySem.W.Looks (model prog w) hp (bindSpecial (.ref fI) self) (.ref fI, [self])) (few : xs.length ≤ sizeLine)
    (q : codeAny (model prog w) (Ar.under (.builtin "type.__call__" ⟨.ref C :: xs, kw⟩)) (.call (.ref fI) ⟨.ref (hp.objs.size + 1) :: xs, kw⟩) (PySem.W.InitBack (hp.objs.size + 1) R)
      ⟨(hp.push (PySem.W.kdv_tup xs)).push (PySem.HandSPX.excO C hp.objs.size), gs, dr, tk, os⟩) :
    codeAny (model prog w) Ar (.call (.ref C) ⟨xs, kw⟩) R ⟨hp, gs, dr, tk, os⟩ := by
  have l1 := tc_lookup
  have l2 := tc_bind (.ref C)
  have hTy : (⟨hp, gs, dr, tk, os⟩ : Shared).TypeIs (.ref C) "type" := ⟨_, hC, rfl⟩
  refine codeAny_of_tree ?_
  show wpAny _ _ (callAny (.ref C) _) _ _ _
  repeat (any_goals (first | assumption | with_reducible refine wpAny_loadPart_at hC ?_ | wp_step))
  refine ⟨rfl, ?_⟩
  refine codeAny_call_builtin_at (Code.quiet_builtin _ (by decide +kernel)) entry_typeCall (wpAny_check_type_call_sub hC (tcallK F hT hC hi hb few ?_))
  refine codeAny_mono q fun r s' z => ?_
  rcases r with e | (v | _ | _ | _) <;> exact z
end
end T

set_option maxHeartbeats 4000000
namespace T
open PySem PySem.Spec PyProof.Rows L2
/-! ### exceptions as values, tracked -/
/-- at a: an exception of the class C, its fields fs -/
def ExF (H : Hp) (a C : Addr) (fs : List (Str × V)) : Prop := (H a = some (exo a C none) ∧ fs = []) ∨ ∃ d, H a = some (exo a C (some d)) ∧ H d = some (exd d fs)
theorem ExF.same {H H' : Hp} {a C : Addr} {fs : List (Str × V)} (s : Same H H') (h : ExF H a C fs) : ExF H' a C fs := by
  rcases h with ⟨h, e⟩ | ⟨d, h1, h2⟩
  · exact .inl ⟨s _ _ h, e⟩
  · exact .inr ⟨d, s _ _ h1, s _ _ h2⟩
/-- what the written part says of an exception class -/
structure XCls (K : PySem.W.Frag) (C : Addr) : Prop where
  o : OexC K C
  kp : PySem.W.keepIn K (.ref C) = true
  ga : PySem.W.findIn K (.ref C) "__getattribute__" = some (some (.builtin "BaseException.__getattribute__"))
  gg : PySem.W.findIn K (.ref C) "__getattr__" = some none
  cl : PySem.W.findIn K (.ref C) "__class__" = some (some (.builtin "object.__class__"))
  cg : PySem.W.specialIn K (.builtin "object.__class__") "__get__" = some (some (.builtin "getset_descriptor.__get__"))
  ct : PySem.W.takesIn K (.builtin "object.__class__") = some true
  cm : PySem.W.mroIn K C (.type "object") = some true
  hd : PySem.W.hasDictIn K C = true
/-- its own __init__ stands at f -/
structure XInit (K : PySem.W.Frag) (C f : Addr) : Prop where
  i : PySem.W.findIn K (.ref C) "__init__" = some (some (.ref f))
  t : PySem.W.typeIn K (.ref f) = some (.type "function")
/-- C.__init__ is ValueError's -/
structure XBase (K : PySem.W.Frag) (C : Addr) : Prop where
  r : PySem.W.readsIn K C (.type "type") = true
  g : PySem.W.specialIn K (.ref C) "__getattribute__" = some (some (.builtin "type.__getattribute__"))
  i : PySem.W.findCls K (.ref C) (.type "type") "__init__" = some (.val (.builtin "ValueError.__init__"))
section
variable {X : Cx} {pins : List (Addr × Obj)} {σ : L2.St} {H : Hp} {s : Shared} {a C : Addr} {fs : List (Str × V)}
theorem XCls.isSome {K : PySem.W.Frag} (c : XCls K C) : (PySem.W.clsIn K C).isSome = true := by
  obtain ⟨nm, q, N, bs, bm, sn, sub, ab, col, dd, k0, k1, k2, k3, k5, hC, _⟩ := c.o.cls
  unfold PySem.W.clsIn
  rw [hC] <;> rfl
theorem ExF.inst (I : Inv X pins σ H s) (h : ExF H a C fs) : ∃ ox od, PySem.W.InstAt s.heap a ox C od := by
  rcases h with ⟨h, _⟩ | ⟨d, h, h2⟩
  · obtain ⟨t, ho⟩ := exo_at I.hok h
    exact ⟨_, none, ho, rfl, rfl, trivial⟩
  · obtain ⟨t, ho⟩ := exo_at I.hok h
    obtain ⟨mA, hn, rel⟩ := exd_at I.hok h2
    obtain ⟨oD, _, _, hoD, _, _⟩ := hn.count (within_of rel)
    exact ⟨_, some oD, ho, rfl, rfl, hoD⟩
theorem XCls.kit {K : PySem.W.Frag} (c : XCls K C) {ox : Obj} {od : Option Obj} : PySem.W.KitX K (.ref a) (.ref C) (fun h => PySem.W.InstAt h a ox C od) :=
  PySem.W.kitx_exc c.isSome c.ga c.gg c.o.exC c.cl c.cg c.ct c.cm
/-- isinstance(e, c), e an exception -/
def rIsx (K : PySem.W.Frag) : List V → Hp → VK → Prop := fun xs H Q => ∃ (a C : Addr) (fs : List (Str × V)) (c : V) (u : Value) (b : Bool), xs = [.ref a, c] ∧ ClsV c u ∧ ExF H a C fs ∧ XCls K C ∧ PySem.W.kitOne K (.ref C) u = some b ∧ Q (.bl b) H
def rIsxT (K : PySem.W.Frag) : List V → Hp → VK → Prop := fun xs H Q => ∃ (a C tp : Addr) (fs : List (Str × V)) (cs : List V) (us : List Value) (b : Bool), xs = [.ref a, .ref tp] ∧ H tp = some (.tup cs) ∧ Paired ClsV cs us ∧ ExF H a C fs ∧ XCls K C ∧
  PySem.W.kitAny K (.ref C) us = some b ∧ Q (.bl b) H
theorem call_isx {K : PySem.W.Frag} (ek : X.K = K) : CallR X (.builtin "isinstance") (rIsx K) := by
  subst ek
  rintro pins s σ H xs us Q I r ⟨a, C, fs, c, u, b, rfl, k, h, c', e, q⟩
  obtain ⟨u1, u2, rfl, r1, r2⟩ := vals2 r
  have e2 := k.eq r2
  subst e2
  cases (show u1 = Value.ref a from r1)
  obtain ⟨ox, od, J⟩ := h.inst I
  exact PySem.W.kia_one c'.kit I.kIn J e (fun z => nomatch z) fun tk => ⟨.bl b, H, I.tok tk, rfl, q⟩
theorem call_isxT {K : PySem.W.Frag} (ek : X.K = K) : CallR X (.builtin "isinstance") (rIsxT K) := by
  subst ek
  rintro pins s σ H xs us Q I r ⟨a, C, tp, fs, cs, ws, b, rfl, hT, k, h, c', e, q⟩
  obtain ⟨u1, u2, rfl, r1, r2⟩ := vals2 r
  cases (show u1 = Value.ref a from r1)
  cases (show u2 = Value.ref tp from r2)
  obtain ⟨ox, od, J⟩ := h.inst I
  obtain ⟨_, its, rv, o, h1, h2, n, h3⟩ := (show ObjOk X.prog X.w H s.heap tp (.tup cs) from I.hok tp _ hT)
  have e3 := ClsV.all k rv
  subst e3
  obtain ⟨oc, od', dt, sl⟩ := o
  simp only at h2 h3
  subst h2 h3
  exact PySem.W.kia_tup c'.kit I.kIn J h1 e (fun z => nomatch z) fun tk => ⟨.bl b, H, I.tok tk, rfl, q⟩
/-! fields -/
def tXfl (K : PySem.W.Frag) (f : Str) (te : TE) : TE := fun σ H Q => te σ H fun x H1 => ∃ (a C : Addr) (fs : List (Str × V)) (v : V), x = .ref a ∧ XCls K C ∧ PySem.W.findIn K (.ref C) f = some none ∧ ExF H1 a C fs ∧ fs.lookup f = some v ∧ Q v H1
theorem pe_xfl {K : PySem.W.Frag} {e : Expr} {te : TE} {pos : Pos} {n : Str} (ek : X.K = K) (he : PE X e te) (hb : attributeBase e n X.env (eval e X.env) = eval e X.env := by rfl) : PE X (.Attribute e n pos) (tXfl K n te) := by
  subst ek
  refine ⟨fun pins s σ H Q I h => ?_⟩
  refine attr_of hb (thn (he.run pins s σ H _ I h) fun u s1 hh => ?_)
  obtain ⟨x, H1, I1, rx, a, C, fs, v, rfl, c, hno, hx, l, q⟩ := hh
  obtain rfl : u = Value.ref a := rx
  rcases hx with ⟨_, e0⟩ | ⟨d, h1, h2⟩
  · subst e0
    cases l
  · obtain ⟨t, ho⟩ := exo_at I1.hok h1
    obtain ⟨mA, hns, hr⟩ := exd_at I1.hok h2
    obtain ⟨od, hod, hl⟩ := lookIn_ns hns
    obtain ⟨u, hu, ru⟩ := RelO.some_of (v := v) (o := mA n) (by rw [← l]; exact hr n)
    have J : PySem.W.InstAt s1.heap a ({ cls := .ref C, dict := some d, data := .fields #[.ref t, .none, .none, .none, .bool false, .none] } : Obj) C (some od) := ⟨ho, rfl, rfl, hod⟩
    exact HandSPX.exc_get I1.kIn J c.ga c.gg c.o.exC (PySem.W.findObj_own c.hd hno rfl (by rw [hl, hu])) (handed_of ru) ⟨v, H1, I1.tok _, ru, q⟩
end
/-! ### making one -/
/-- C(e, ..), C without an own __init__ -/
def tMk0 (C : Addr) (ta : TA) : TE := fun σ H Q => ta σ H fun vs H1 => vs.length ≤ 1000 ∧ ∀ a, H1 a = none → Q (.ref a) (upd H1 a (exo a C none))
/-- C(e, .., k = ..): the own __init__ keeps sp -/
def tMkE (C : Addr) (sp : Sp) (dvs : List V) (ta : TA) : TE := fun σ H Q => ta σ H fun vs H1 => vs.length ≤ 1000 ∧ ∀ a, H1 a = none → sp (.ref a :: (vs ++ dvs)) (upd H1 a (exo a C none)) (fun v H2 => v = .non ∧ Q (.ref a) H2) E0
def tXm (n : Nat) (C : Addr) (sp : Sp) (dvs : List V) (t : TA) : TE := fun σ H Q => t σ H fun vs H1 => vs.length = n ∧ vs.length ≤ 1000 ∧ ∀ a, H1 a = none → sp (.ref a :: (vs ++ dvs)) (upd H1 a (exo a C none)) (fun v H2 => v = .non ∧ Q (.ref a) H2) E0
def tXm0 (C : Addr) (sp : Sp) (dvs : List V) : TE := fun σ H Q => ∀ a, H a = none → sp (.ref a :: dvs) (upd H a (exo a C none)) (fun v H2 => v = .non ∧ Q (.ref a) H2) E0
def tXmK (n : Nat) (C : Addr) (sp : Sp) (dvs : List V) (tk : TA) : TE := fun σ H Q => tk σ H fun zs H1 => zs.length = n ∧ ∀ a, H1 a = none → sp (.ref a :: (zs ++ dvs)) (upd H1 a (exo a C none)) (fun v H2 => v = .non ∧ Q (.ref a) H2) E0
section
variable (P : Program) (w : World) (K : PySem.W.Frag) (mg : Str → Option Value) (base : Heap)
/-- an exception class with its own __init__, as it is called with the keywords ks -/
structure Xm (k n : Nat) (x : Str) (C : Addr) (sp : Sp) (dvs : List V) (ks : List Str) : Prop where
  ex : ∃ (f : Addr) (fd : FuncData) (ps : List Str) (ds : List Value), XCls K C ∧ XInit K C f ∧ FnOk P w K mg base (L2.CX P w) k f fd ps sp ∧ mg x = some (.ref C) ∧ Vals dvs ds ∧
    ∀ (s : Shared) (us ws : List Value), K.In s.heap → us.length = n + 1 → ws.length = ks.length → BindsTo s fd ⟨us, ks.zip ws⟩ (ps.zip (us ++ ws ++ ds))
end
section
variable {X : Cx} {k j n : Nat} {C : Addr} {x : Str} {sp : Sp} {dvs : List V} {ks : List Str} {p p2 pos : Pos} {e : Expr} {es : List Expr} {kws : List Keyword} {t tk : TA} {pl : Sem Bool}
theorem run_xm {pins : List (Addr × Obj)} {σ : L2.St} {H : Hp} {s : Shared} {us ws : List Value} {vs zs : List V} {Q : VK} (c : Xm X.prog X.w X.K X.mg X.base k n x C sp dvs ks) (hr : Room (k + 1) X.A) (I : Inv X pins σ H s)
    (r : Vals vs us) (rz : Vals zs ws) (l1 : vs.length = n) (l2 : zs.length = ks.length) (l3 : vs.length ≤ 1000)
    (h : ∀ a, H a = none → sp (.ref a :: (vs ++ zs ++ dvs)) (upd H a (exo a C none)) (fun v H2 => v = .non ∧ Q (.ref a) H2) E0) :
    wpAny (model X.prog X.w) X.A (call (.ref C) us (ks.zip ws)) (EP X pins σ Q) X.xe s := by
  obtain ⟨f, fd, ps, ds, Y, N, Fo, hm, rd, hb⟩ := c.ex
  obtain ⟨nm, q, Ns, bs, bm, sn, sub, ab, col, dd, k0, k1, k2, k3, k5, hC, hbm⟩ := Y.o.cls
  obtain ⟨hp, g, dr, tk, os⟩ := s
  have hsz : hp.objs.size ≤ hp.objs.size + 1 := Nat.le_succ _
  have hn : H (hp.objs.size + 1) = none := I.hok.fresh hsz
  have hq := h (hp.objs.size + 1) hn
  have kk : ∀ b o, hp.get? b = some o → ((hp.push (PySem.W.kdv_tup us)).push (PySem.HandSPX.excO C hp.objs.size)).get? b = some o := fun b o e => Heap.get?_push_of_some _ (Heap.get?_push_of_some _ e)
  have got : ((hp.push (PySem.W.kdv_tup us)).push (PySem.HandSPX.excO C hp.objs.size)).get? (hp.objs.size + 1) = some (PySem.HandSPX.excO C hp.objs.size) := by heap_get
  have I2 : Inv X pins σ (upd H (hp.objs.size + 1) (exo (hp.objs.size + 1) C none)) ⟨(hp.push (PySem.W.kdv_tup us)).push (PySem.HandSPX.excO C hp.objs.size), g, dr, tk, os⟩ :=
    I.laid (t' := tk) (a := hp.objs.size + 1) (o := exo (hp.objs.size + 1) C none) kk hsz (exo_ok got)
  have r2 : Vals (V.ref (hp.objs.size + 1) :: (vs ++ zs ++ dvs)) (Value.ref (hp.objs.size + 1) :: us ++ ws ++ ds) := by
    have z : Vals (V.ref (hp.objs.size + 1) :: (vs ++ zs ++ dvs)) (Value.ref (hp.objs.size + 1) :: (us ++ ws ++ ds)) := .cons rfl ((r.append rz).append rd)
    exact z
  have b1 := hb ⟨(hp.push (PySem.W.kdv_tup us)).push (PySem.HandSPX.excO C hp.objs.size), g, dr, tk, os⟩ (Value.ref (hp.objs.size + 1) :: us) ws I2.kIn (congrArg Nat.succ (r.length.symm.trans l1)) (rz.length.symm.trans l2)
  have few : us.length ≤ sizeLine := by
    rw [← Paired.length r, sizeLine_eq]
    omega
  refine wpAny_call (callK F.excBase_ValueError (fun Y => PySem.HandSPX.refsVE_contains Y bm hbm) (I.kIn _ _ hC) (PySem.W.looks_findIn I.kIn N.i) (fun self => PySem.W.bind_fn I.kIn self N.t) few
    (codeAny_mono (Fo.run _ X.stack _ _ ⟨Value.ref (hp.objs.size + 1) :: us, ks.zip ws⟩ (Value.ref (hp.objs.size + 1) :: us ++ ws ++ ds) _ _ E0 (hr.make C us (ks.zip ws)) (I2.env0.make C us (ks.zip ws)) b1 r2 hq) fun z s' hq' => ?_))
  cases z with
  | error er => exact passL pins σ _ _ er s' I2 hq'
  | ok fl =>
    cases fl with
    | ret u =>
      obtain ⟨v, H', I3, rv, ev, q3⟩ := I2.after hq'
      subst ev
      exact ⟨rv, ⟨V.ref (hp.objs.size + 1), H', I3, rfl, q3⟩⟩
    | next => exact False.elim hq'
    | brk => exact False.elim hq'
    | cont => exact False.elim hq'
/-- C(e, ..) -/
theorem pe_xm (c : Xm X.prog X.w X.K X.mg X.base k (es.length + 1) x C sp dvs []) (hr : Room j X.A) (hk : k + 1 ≤ j) (hg : Gl X x) (ha : PA X (e :: es) t)
    (hdb : (x == ("__debug__" : Str)) = false := by decide) (he : starEach (e :: es) X.env = (false, eval e X.env) :: starEach es X.env := by rfl) (hpl : (backTo pos (starEach es X.env)).any (·.1) = false := by rfl) :
    PE X (.Call (.Name x p) (e :: es) [] pos) (tXm (es.length + 1) C sp dvs t) := by
  refine ⟨fun pins s σ H Q I h => ?_⟩
  have c' := c
  obtain ⟨f, fd, ps, ds, Y, N, Fo, hm, rd, hb⟩ := c'.ex
  refine wpAny_Call_Name_kw (ld_glob I hg hm ?_ hdb)
  refine PySem.W.callWith_K (h₀ := X.base) I.ok.mod.kin Y.kp (thn (ha.run pos pins s σ H _ I h) fun us s1 ⟨vs, H1, I1, r, l1, l3, q⟩ => ⟨I1.kIn, ?_⟩) he hpl
  exact run_xm (ks := []) (zs := []) (ws := []) c (hr.mono hk) I1 r .nil l1 rfl l3 fun a ha => by
    rw [List.append_nil]
    exact q a ha
/-- C() -/
theorem pe_xm0 (c : Xm X.prog X.w X.K X.mg X.base k 0 x C sp dvs []) (hr : Room j X.A) (hk : k + 1 ≤ j) (hg : Gl X x) (hdb : (x == ("__debug__" : Str)) = false := by decide) :
    PE X (.Call (.Name x p) [] [] pos) (tXm0 C sp dvs) := by
  refine ⟨fun pins s σ H Q I h => ?_⟩
  have c' := c
  obtain ⟨f, fd, ps, ds, Y, N, Fo, hm, rd, hb⟩ := c'.ex
  refine wpAny_Call_Name_kw (ld_glob I hg hm ?_ hdb)
  refine PySem.W.callWith_K0 I.kIn Y.kp ?_
  exact run_xm (ks := []) (zs := []) (ws := []) (vs := []) (us := []) c (hr.mono hk) I .nil .nil rfl rfl (by decide) fun a ha => h a ha
/-- C(k = e) -/
theorem pe_xmK (c : Xm X.prog X.w X.K X.mg X.base k 0 x C sp dvs ks) (hr : Room j X.A) (hk : k + 1 ≤ j) (hg : Gl X x) (hkw : PK X kws tk)
    (hall : (backToKw pos (keywordEach kws X.env)).all (·.1.isSome) = true := by rfl) (hks : (backToKw pos (keywordEach kws X.env)).filterMap (·.1) = ks := by rfl) (hdb : (x == ("__debug__" : Str)) = false := by decide)
    (hpl : ((backTo pos (starEach [] X.env)).any (·.1) || (backToKw pos (keywordEach kws X.env)).any (·.1.isNone)) = false := by rfl) :
    PE X (.Call (.Name x p) [] kws pos) (tXmK ks.length C sp dvs tk) := by
  refine ⟨fun pins s σ H Q I h => ?_⟩
  have c' := c
  obtain ⟨f, fd, ps, ds, Y, N, Fo, hm, rd, hb⟩ := c'.ex
  refine wpAny_Call_Name_kw (ld_glob I hg hm ?_ hdb)
  refine PySem.W.callWith_KW0 (h₀ := X.base) I.ok.mod.kin Y.kp hall ?_ hpl
  refine thn (hkw.run pos pins s σ H _ I h) fun ws s2 ⟨zs, H2, I2, rz, l2, q2⟩ => ⟨I2.kIn, ?_⟩
  rw [hks]
  exact run_xm (vs := []) (us := []) c (hr.mono hk) I2 .nil rz rfl l2 (by decide) q2
/-- C(e, ..), a class without an own __init__ -/
theorem pe_mk0 {bmB : List Value} {B newId initId : String} (F : ExcBaseFacts B newId initId bmB) (q : PySem.W.excIn X.K C bmB newId = true) (hm : X.mg x = some (.ref C)) (kC : PySem.W.keepIn X.K (.ref C) = true) (hg : Gl X x) (ha : PA X (e :: es) t)
    (hdb : (x == ("__debug__" : Str)) = false := by decide) (he : starEach (e :: es) X.env = (false, eval e X.env) :: starEach es X.env := by rfl) (hpl : (backTo pos (starEach es X.env)).any (·.1) = false := by rfl) :
    PE X (.Call (.Name x p) (e :: es) [] pos) (tMk0 C t) := by
  refine ⟨fun pins s σ H Q I h => ?_⟩
  refine wpAny_Call_Name_kw (ld_glob I hg hm ?_ hdb)
  refine PySem.W.callWith_K (h₀ := X.base) I.ok.mod.kin kC (thn (ha.run pos pins s σ H _ I h) fun us s1 ⟨vs, H1, I1, r, l3, q1⟩ => ⟨I1.kIn, ?_⟩) he hpl
  show wpAny _ _ (call (.ref C) us) _ _ _
  obtain ⟨bm, N, nm, qn, bs, hdct, sn, sub, ab, col, dd, k0, k1, k2, k3, k5, mN, hC, hN, hni, T⟩ := exc_obj I1.kIn q
  refine wpAny_call_exc_subT F T hC hN hni (fun h' a hm => ?_) (by rw [← Paired.length r, sizeLine_eq]; omega)
  have hn : H1 a = none := I1.hok.gone hm.new
  obtain ⟨t, ht, _, _⟩ := hm.there
  exact ⟨.ref a, upd H1 a (exo a C none), I1.laidN hm.keeps hm.new hn (exo_ok ht), rfl, q1 a hn⟩
/-- B.__init__(self, ..), B a class whose __init__ is ValueError's -/
theorem pe_einit {p1 : Pos} (bc : XBase X.K C) (hg : Gl X x) (hm : X.mg x = some (.ref C)) (ha : PA X (e :: es) t)
    (hdb : (x == ("__debug__" : Str)) = false := by decide)
    (hc : eval (.Call (.Attribute (.Name x p1) "__init__" p2) (e :: es) [] pos) X.env = (do
      let ov ← eval (.Name x p1) X.env
      standAt p2.atName
      let (f, first) ← holding [ov] (getMethod ov "__init__" pl)
      callWith pos f first (backTo pos (starEach (e :: es) X.env)) (backToKw pos (keywordEach [] X.env))) := by rfl)
    (he : starEach (e :: es) X.env = (false, eval e X.env) :: starEach es X.env := by rfl) (hpl : (backTo pos (starEach es X.env)).any (·.1) = false := by rfl) :
    PE X (.Call (.Attribute (.Name x p1) "__init__" p2) (e :: es) [] pos) (tVeI X.K t) := by
  refine ⟨fun pins s σ H Q I h => ?_⟩
  refine PySem.W.methodCall_KW (ld_glob I hg hm ?_ hdb) hc
  refine PySem.W.method_cls I.kIn bc.g (PySem.W.cls_value I.kIn bc.r bc.i (by decide +kernel) ?_)
  show wpAny _ _ (callWith pos (Value.builtin "ValueError.__init__") [] (backTo pos (starEach (e :: es) X.env)) []) _ _ _
  refine PyProof.Rows.callWith_method1 (thn (ha.run pos pins _ σ H _ (I.tok _) h) fun us s1 ⟨vs, H1, I1, r1, a, C', ws, ev, hl, T, ea, q⟩ => ?_) he hpl
  subst ev
  cases r1 with
  | @cons _ u0 _ ur ra rw' =>
    obtain rfl : u0 = Value.ref a := ra
    have few : ur.length ≤ sizeLine := by
      rw [← Paired.length rw', sizeLine_eq]
      omega
    exact oinit_ok T I1 ea few fun s' J => ⟨.non, H1, J, rfl, q⟩
end
/-! ### one field told -/
/-- an __init__ that puts one field -/
def spOne (C : Addr) (f : Str) : Sp := fun vs H Q _ => ∃ a v, vs = [.ref a, v] ∧ H a = some (exo a C none) ∧ ∀ dx, H dx = none → dx ≠ a → Q .non (upd (upd H dx (exd dx [(f, v)])) a (exo a C (some dx)))
theorem spOne_ok {H : Hp} {a C : Addr} {f : Str} {v : V} {Q : VK} (hn : H a = none) (q : ∀ H', Same H H' → ExF H' a C [(f, v)] → Q (.ref a) H') :
    spOne C f [.ref a, v] (upd H a (exo a C none)) (fun u H2 => u = .non ∧ Q (.ref a) H2) E0 := by
  refine ⟨a, v, rfl, upd_same, fun dx hd ne => ⟨rfl, q _ (fun b o e => ?_) (.inr ⟨dx, upd_same, ?_⟩)⟩⟩
  · have n1 : b ≠ a := ne_of_none e hn
    have n2 : b ≠ dx := fun z => by
      rw [z] at e
      rw [upd_ne ne, e] at hd
      cases hd
    rw [upd_ne n1, upd_ne n2, upd_ne n1]
    exact e
  · rw [upd_ne ne, upd_same]
section
variable {K : PySem.W.Frag} {σ : L2.St} {H : Hp} {D : Ends} {C : Addr} {sp : Sp} {dvs : List V} {t : TA} {Q : VK} {f : Str} {te to : TE} {n : Nat} {v : V}
theorem x_mk0 (h : t σ H fun vs H1 => vs.length ≤ 1000 ∧ ∀ a, H1 a = none → Q (.ref a) (upd H1 a (exo a C none))) : tMk0 C t σ H Q := h
theorem x_xm (h : t σ H fun vs H1 => vs.length = n ∧ vs.length ≤ 1000 ∧ ∀ a, H1 a = none → sp (.ref a :: (vs ++ dvs)) (upd H1 a (exo a C none)) (fun v H2 => v = .non ∧ Q (.ref a) H2) E0) : tXm n C sp dvs t σ H Q := h
theorem x_xm0 (h : ∀ a, H a = none → sp (.ref a :: dvs) (upd H a (exo a C none)) (fun v H2 => v = .non ∧ Q (.ref a) H2) E0) : tXm0 C sp dvs σ H Q := h
theorem x_xmK (h : t σ H fun zs H1 => zs.length = n ∧ ∀ a, H1 a = none → sp (.ref a :: (zs ++ dvs)) (upd H1 a (exo a C none)) (fun v H2 => v = .non ∧ Q (.ref a) H2) E0) : tXmK n C sp dvs t σ H Q := h
theorem x_vei (h : t σ H fun vs H1 => ∃ (a C : Addr) (ws : List V), vs = .ref a :: ws ∧ ws.length ≤ 1000 ∧ OexC K C ∧ H1 a = some (exo a C none) ∧ Q .non H1) : tVeI K t σ H Q := h
theorem x_ost (h : te σ H fun y H1 => to σ H1 fun x H2 => ∃ a C : Addr, x = .ref a ∧ OexC K C ∧ PySem.W.findIn K (.ref C) f = some none ∧
  ((H2 a = some (exo a C none) ∧ ∀ dx, H2 dx = none → dx ≠ a → D.nx σ (upd (upd H2 dx (exd dx [(f, y)])) a (exo a C (some dx)))) ∨
    ∃ (dx : Addr) (fs : List (Str × V)), H2 a = some (exo a C (some dx)) ∧ H2 dx = some (exd dx fs) ∧ fs.length ≤ 900 ∧ D.nx σ (upd H2 dx (exd dx ((f, y) :: fs))))) : tOst K f to te D σ H := h
theorem x_xfl (h : te σ H fun x H1 => ∃ (a C : Addr) (fs : List (Str × V)) (v : V), x = .ref a ∧ XCls K C ∧ PySem.W.findIn K (.ref C) f = some none ∧ ExF H1 a C fs ∧ fs.lookup f = some v ∧ Q v H1) : tXfl K f te σ H Q := h
theorem x_isx {a : Addr} {fs : List (Str × V)} {c : V} {u : Value} {b : Bool} (h : ExF H a C fs) (cl : XCls K C) (k : ClsV c u) (e : PySem.W.kitOne K (.ref C) u = some b) (q : Q (.bl b) H) : rIsx K [.ref a, c] H Q := ⟨a, C, fs, c, u, b, rfl, k, h, cl, e, q⟩
theorem kit_any {t : Value} {g : Str → Addr} {z : Str → Bool} : ∀ {ys : List Str}, (∀ y ∈ ys, PySem.W.kitOne K t (.ref (g y)) = some (z y)) → PySem.W.kitAny K t (ys.map fun y => .ref (g y)) = some (ys.any z)
  | [], _ => rfl
  | y :: ys, h => by
    have h1 := h y List.mem_cons_self
    have h2 := kit_any (ys := ys) fun z hz => h z (List.mem_cons_of_mem _ hz)
    rw [List.map_cons, List.any_cons]
    refine kitAny_cons h1 (fun e => ?_) fun e => ?_
    · rw [e, Bool.false_or]
      exact h2
    · rw [e, Bool.true_or]
theorem cls_all {g : Str → Addr} : ∀ {ys : List Str}, Paired ClsV (ys.map fun y => V.ref (g y)) (ys.map fun y => .ref (g y))
  | [] => .nil
  | _ :: _ => .cons (.own _) cls_all
theorem x_isxT {a tp : Addr} {fs : List (Str × V)} {g : Str → Addr} {z : Str → Bool} {ys : List Str} (hT : H tp = some (.tup (ys.map fun y => V.ref (g y)))) (h : ExF H a C fs) (cl : XCls K C)
    (e : ∀ y ∈ ys, PySem.W.kitOne K (.ref C) (.ref (g y)) = some (z y)) (q : Q (.bl (ys.any z)) H) : rIsxT K [.ref a, .ref tp] H Q := ⟨a, C, tp, fs, _, _, _, rfl, hT, cls_all, h, cl, kit_any e, q⟩
end
/-- new exceptions, the heap told by what it holds -/
theorem of_exc {H H' : Hp} {a C : Addr} (e : upd H a (exo a C none) = H') (n : H a = none) : Same H H' ∧ ExF H' a C [] := by subst e; exact ⟨same_new n, .inl ⟨upd_same, rfl⟩⟩
theorem new_xm {H : Hp} {C : Addr} {v : V} {f : Str} {P : Addr → Hp → Prop} (q : ∀ a H', Same H H' → ExF H' a C [(f, v)] → P a H') :
    ([v] : List V).length = 1 ∧ ([v] : List V).length ≤ 1000 ∧ ∀ a, H a = none → spOne C f (.ref a :: ([v] ++ [])) (upd H a (exo a C none)) (fun u H2 => u = .non ∧ P a H2) E0 :=
  ⟨rfl, (show 1 ≤ 1000 by decide), fun a ha => spOne_ok (Q := fun u H2 => P a H2) ha fun H' s e => q a H' s e⟩
theorem new_xmK {H : Hp} {C : Addr} {v : V} {f : Str} {P : Addr → Hp → Prop} (q : ∀ a H', Same H H' → ExF H' a C [(f, v)] → P a H') :
    ([v] : List V).length = 1 ∧ ∀ a, H a = none → spOne C f (.ref a :: ([v] ++ [])) (upd H a (exo a C none)) (fun u H2 => u = .non ∧ P a H2) E0 :=
  ⟨rfl, fun a ha => spOne_ok (Q := fun u H2 => P a H2) ha fun H' s e => q a H' s e⟩
theorem new_xm0 {H : Hp} {C : Addr} {v : V} {f : Str} {P : Addr → Hp → Prop} (q : ∀ a H', Same H H' → ExF H' a C [(f, v)] → P a H') :
    ∀ a, H a = none → spOne C f (.ref a :: [v]) (upd H a (exo a C none)) (fun u H2 => u = .non ∧ P a H2) E0 := fun a ha => spOne_ok (Q := fun u H2 => P a H2) ha fun H' s e => q a H' s e
section
variable {K : PySem.W.Frag} {x qual : Str} {st : Stmt} {f : Addr} {fd : FuncData} {ps : List Str} {dvs : List V}
theorem bd_kw (n : Nat) (ks : List Str) (F : FunD K x qual (defArgs st) (defBody st) (defScope st) [] [] f fd)
    (h : ∀ (kV doc pm : Value) (an : Option Addr) (cdv ct : Value) (us ws : List Value), us.length = n → ws.length = ks.length → bindArgs (PySem.W.fnOf x qual (defArgs st) (defBody st) (defScope st) .none kV doc pm an cdv ct) ⟨us, ks.zip ws⟩ = pure (ps.zip (us ++ ws)))
    (s : Shared) (us ws : List Value) (_ : K.In s.heap) (l1 : us.length = n) (l2 : ws.length = ks.length) : BindsTo s fd ⟨us, ks.zip ws⟩ (ps.zip (us ++ ws ++ [])) := by
  obtain ⟨oc, od, dV, kV, doc, pm, an, cdv, ct, osl, rfl, lk, hcd, hD, hK⟩ := F.ex
  rcases hD with ⟨_, rfl⟩ | ⟨e, _⟩
  · rw [List.append_nil]
    exact .of_eq (h kV doc pm an cdv ct us ws l1 l2)
  · exact absurd rfl e
theorem bd_kwD (n j : Nat) (ks : List Str) (hd : dvs ≠ []) (F : FunD K x qual (defArgs st) (defBody st) (defScope st) dvs [] f fd)
    (h : ∀ (T : Addr) (kV doc pm : Value) (an : Option Addr) (cdv ct : Value) (us its ws : List Value), us.length = n → its.length = dvs.length → ws.length = ks.length →
      ∃ k, bindArgs (PySem.W.fnOf x qual (defArgs st) (defBody st) (defScope st) (.ref T) kV doc pm an cdv ct) ⟨us, ks.zip ws⟩ = seqItems? (.ref T) >>= k ∧ k (some its.toArray) = pure (ps.zip (us ++ ws ++ its.drop j))) :
    ∃ ds, Vals (dvs.drop j) ds ∧ ∀ (s : Shared) (us ws : List Value), K.In s.heap → us.length = n → ws.length = ks.length → BindsTo s fd ⟨us, ks.zip ws⟩ (ps.zip (us ++ ws ++ ds)) := by
  obtain ⟨oc, od, dV, kV, doc, pm, an, cdv, ct, osl, rfl, lk, hcd, hD, hK⟩ := F.ex
  rcases hD with ⟨e, _⟩ | ⟨_, T, o, its, m, rfl, lT, oT, rT⟩
  · exact absurd e hd
  · refine ⟨its.drop j, rT.drop j, fun s us ws X l1 l2 => ?_⟩
    obtain ⟨k, e1, e2⟩ := h T kV doc pm an cdv ct us its ws l1 rT.length.symm l2
    refine BindsTo.of_looks fun M => ?_
    rw [e1]
    exact looks_items X lT oT (.of_pure e2)
end
theorem bt_ValueError : bootBuiltins "ValueError" = some (.type "ValueError") := by decide +kernel
end T

set_option maxHeartbeats 4000000
namespace T
open PySem PySem.Spec PyProof.Rows L2
/-! ### facts on exception classes, read by the head -/
def oexB (K : PySem.W.Frag) (C : Addr) : Bool := match K.lookup C with
  | some ⟨.type "type", _, .cls cd, sl⟩ => (match cd.mro, sl.toList with
    | .ref C' :: bm, [_, _, _, _, some (.builtin n), _] => C' == C && (n == "ValueError.__new__" && (!cd.hasDel && (cd.hasDict && PySem.HandSPX.refsVE bm)))
    | _, _ => false)
  | _ => false
theorem oexB_ok {K : PySem.W.Frag} {C : Addr} (h : oexB K C = true) : ∃ nm q N bs bm sn sub ab col dd k0 k1 k2 k3 k5, K.lookup C = some (excClassObj nm q C N bs bm true sn sub ab col dd k0 k1 k2 k3 k5 "ValueError.__new__") ∧ PySem.HandSPX.refsVE bm = true := by
  unfold oexB at h
  split at h
  · rename_i dd cd sl ho
    split at h
    · rename_i C' bm k0 k1 k2 k3 n k5 hm hs
      simp only [Bool.and_eq_true, beq_iff_eq, Bool.not_eq_true'] at h
      obtain ⟨rfl, rfl, hdel, hd, hr⟩ := h
      obtain ⟨nm, bs, mro, ns, qn, hd', sn, sub, ab, col, del⟩ := cd
      dsimp only at hm hdel hd
      subst hm hdel hd
      have hsl : sl = #[k0, k1, k2, k3, some (.builtin "ValueError.__new__"), k5] := by
        obtain ⟨l⟩ := sl
        simp only at hs
        rw [hs]
      subst hsl
      exact ⟨nm, qn, ns, bs, bm, sn, sub, ab, col, dd, k0, k1, k2, k3, k5, ho, hr⟩
    · cases h
  · cases h
def eqV (a b : Option (Option Value)) : Bool := decide (a = b)
def xclB (K : PySem.W.Frag) (C : Addr) : Bool := oexB K C && (eqV (PySem.W.findIn K (.ref C) "__setattr__") (some (some (.builtin "object.__setattr__"))) && (decide (PySem.W.subIn K (.ref C) (.type "BaseException") = some true) &&
  (decide (PySem.W.typeIn K (.ref C) = some (.type "type")) && (PySem.W.keepIn K (.ref C) && (eqV (PySem.W.findIn K (.ref C) "__getattribute__") (some (some (.builtin "BaseException.__getattribute__"))) &&
  (eqV (PySem.W.findIn K (.ref C) "__getattr__") (some none) && (eqV (PySem.W.findIn K (.ref C) "__class__") (some (some (.builtin "object.__class__"))) && (decide (PySem.W.mroIn K C (.type "object") = some true) && PySem.W.hasDictIn K C))))))))
def clsB (K : PySem.W.Frag) : Bool := eqV (PySem.W.specialIn K (.builtin "object.__class__") "__get__") (some (some (.builtin "getset_descriptor.__get__"))) && decide (PySem.W.takesIn K (.builtin "object.__class__") = some true)
theorem xclB_ok {K : PySem.W.Frag} {C : Addr} (h : xclB K C = true) (h' : clsB K = true) : XCls K C := by
  unfold xclB eqV at h
  unfold clsB eqV at h'
  simp only [Bool.and_eq_true, decide_eq_true_eq] at h h'
  obtain ⟨a1, a2, a3, a4, a5, a6, a7, a8, a9, a10⟩ := h
  exact ⟨⟨oexB_ok a1, a2, a3, a4, a5⟩, a5, a6, a7, a8, h'.1, h'.2, a9, a10⟩
def xiB (K : PySem.W.Frag) (C f : Addr) : Bool := eqV (PySem.W.findIn K (.ref C) "__init__") (some (some (.ref f))) && decide (PySem.W.typeIn K (.ref f) = some (.type "function"))
theorem xiB_ok {K : PySem.W.Frag} {C f : Addr} (h : xiB K C f = true) : XInit K C f := by
  unfold xiB eqV at h
  simp only [Bool.and_eq_true, decide_eq_true_eq] at h
  exact ⟨h.1, h.2⟩
def fcB (K : PySem.W.Frag) (C : Addr) : Bool := match PySem.W.findCls K (.ref C) (.type "type") "__init__" with
  | some (.val (.builtin n)) => n == "ValueError.__init__"
  | _ => false
def xbB (K : PySem.W.Frag) (C : Addr) : Bool := PySem.W.readsIn K C (.type "type") && (eqV (PySem.W.specialIn K (.ref C) "__getattribute__") (some (some (.builtin "type.__getattribute__"))) && fcB K C)
theorem xbB_ok {K : PySem.W.Frag} {C : Addr} (h : xbB K C = true) : XBase K C := by
  unfold xbB eqV at h
  simp only [Bool.and_eq_true, decide_eq_true_eq] at h
  obtain ⟨a1, a2, a3⟩ := h
  refine ⟨a1, a2, ?_⟩
  unfold fcB at a3
  split at a3
  · rename_i n e
    rw [beq_iff_eq.mp a3] at e
    exact e
  · cases a3
/-- isinstance of a row of classes: which of the classes named is it -/
def kisB (K : PySem.W.Frag) (x : Str) (ys : List (Str × Bool)) : Bool := ys.all fun y => decide (PySem.W.kitOne K (.ref (He.ga K x)) (.ref (He.ga K y.1)) = some y.2)
theorem kisB_ok {K : PySem.W.Frag} {x : Str} {ys : List (Str × Bool)} (h : kisB K x ys = true) : ∀ y ∈ ys, PySem.W.kitOne K (.ref (He.ga K x)) (.ref (He.ga K y.1)) = some y.2 := fun y hy => of_decide_eq_true (List.all_eq_true.mp h y hy)
/-! ### the Hook with further facts -/
abbrev AlE : Type := He.AlD × Bool
def obsX (fa : List He.Fa) (fn : List He.DefD) (fb : List (PySem.W.Frag → Bool)) (K : PySem.W.Frag) : AlE := (He.obsD fa fn K, fb.all fun f => f K)
def hookX (fa : List He.Fa) (fn : List He.DefD) (fb : List (PySem.W.Frag → Bool)) : PySem.W.Hook where
  α := AlE
  obs := fun s => obsX fa fn fb (He.frG s.heap.get? (List.range s.heap.objs.size))
  val := fun _ => (He.valD fn, true)
  says := fun _ h => ∃ K : PySem.W.Frag, K.In h ∧ He.SaysD fa fn K ∧ ∀ f ∈ fb, f K = true
  of := fun _ _ e => ⟨_, He.frG_in, congrArg Prod.fst e, fun f hf => List.all_eq_true.mp (congrArg Prod.snd e) f hf⟩
  keeps := fun _ _ _ ⟨K, hK, c⟩ k => ⟨K, PySem.W.Frag.In.keeps hK k, c⟩
theorem obX_eq {fa : List He.Fa} {fn : List He.DefD} {fb : List (PySem.W.Frag → Bool)} {g : Addr → Option Obj} {s : Shared} {n : Nat} (h : ∀ a, g a = s.heap.get? a) (e : s.heap.objs.size = n) :
    obsX fa fn fb (He.frG g (List.range n)) = (hookX fa fn fb).obs s := by
  have e1 : g = s.heap.get? := funext h
  rw [e1, ← e] <;> rfl
theorem fb_at {fb : List (PySem.W.Frag → Bool)} {K : PySem.W.Frag} (c : ∀ f ∈ fb, f K = true) (i : Nat) {f : PySem.W.Frag → Bool} (h : fb[i]? = some f := by rfl) : f K = true := c f (List.mem_of_getElem? h)
end T

set_option maxHeartbeats 4000000
namespace T
open PySem PySem.Spec PyProof.Rows L2
def top (i : Nat) : Stmt := PySem.Challenge.pw_tidecopy_k49_refusals_apart.main.body.getD i (.Pass ⟨0, 0, 0, 0⟩)
abbrev s_NoText___init__ : Stmt := inClass (top 11) 0
abbrev s_TooMany___init__ : Stmt := inClass (top 12) 0
abbrev s_NoPlace___init__ : Stmt := inClass (top 16) 0
abbrev s_NoLife___init__ : Stmt := inClass (top 17) 0
abbrev s_NoReading___init__ : Stmt := inClass (top 18) 0
abbrev s_Held___init__ : Stmt := inClass (top 19) 0
abbrev s_Trimmed___init__ : Stmt := inClass (top 20) 0
abbrev s_Waits___init__ : Stmt := inClass (top 21) 0
abbrev s_NotAsked___init__ : Stmt := inClass (top 22) 0
abbrev s_NoKey___init__ : Stmt := inClass (top 23) 0
abbrev s_NotSure___init__ : Stmt := inClass (top 24) 0
abbrev s_NoTaker___init__ : Stmt := inClass (top 25) 0
abbrev s_NotOnWire___init__ : Stmt := inClass (top 26) 0
abbrev s__law_bag : Stmt := top 28
abbrev s__law_take : Stmt := top 29
abbrev s__law_name : Stmt := top 30
abbrev s__law_kinds : Stmt := top 31
abbrev s__law_field : Stmt := top 32
abbrev s__law_made_right : Stmt := top 33
abbrev s_law : Stmt := top 34
abbrev fa_NoText___init__ (K : PySem.W.Frag) : Addr := He.ma K (He.ga K "NoText") "__init__"
def d_NoText___init__ : He.DefD := ⟨("NoText", some "__init__"), "__init__", "NoText.__init__", defArgs s_NoText___init__, defBody s_NoText___init__, defScope s_NoText___init__, [.non], []⟩
abbrev fa_TooMany___init__ (K : PySem.W.Frag) : Addr := He.ma K (He.ga K "TooMany") "__init__"
def d_TooMany___init__ : He.DefD := ⟨("TooMany", some "__init__"), "__init__", "TooMany.__init__", defArgs s_TooMany___init__, defBody s_TooMany___init__, defScope s_TooMany___init__, [], []⟩
abbrev fa_NoPlace___init__ (K : PySem.W.Frag) : Addr := He.ma K (He.ga K "NoPlace") "__init__"
def d_NoPlace___init__ : He.DefD := ⟨("NoPlace", some "__init__"), "__init__", "NoPlace.__init__", defArgs s_NoPlace___init__, defBody s_NoPlace___init__, defScope s_NoPlace___init__, [], []⟩
abbrev fa_NoLife___init__ (K : PySem.W.Frag) : Addr := He.ma K (He.ga K "NoLife") "__init__"
def d_NoLife___init__ : He.DefD := ⟨("NoLife", some "__init__"), "__init__", "NoLife.__init__", defArgs s_NoLife___init__, defBody s_NoLife___init__, defScope s_NoLife___init__, [], []⟩
abbrev fa_NoReading___init__ (K : PySem.W.Frag) : Addr := He.ma K (He.ga K "NoReading") "__init__"
def d_NoReading___init__ : He.DefD := ⟨("NoReading", some "__init__"), "__init__", "NoReading.__init__", defArgs s_NoReading___init__, defBody s_NoReading___init__, defScope s_NoReading___init__, [], []⟩
abbrev fa_Held___init__ (K : PySem.W.Frag) : Addr := He.ma K (He.ga K "Held") "__init__"
def d_Held___init__ : He.DefD := ⟨("Held", some "__init__"), "__init__", "Held.__init__", defArgs s_Held___init__, defBody s_Held___init__, defScope s_Held___init__, [], []⟩
abbrev fa_Trimmed___init__ (K : PySem.W.Frag) : Addr := He.ma K (He.ga K "Trimmed") "__init__"
def d_Trimmed___init__ : He.DefD := ⟨("Trimmed", some "__init__"), "__init__", "Trimmed.__init__", defArgs s_Trimmed___init__, defBody s_Trimmed___init__, defScope s_Trimmed___init__, [], []⟩
abbrev fa_Waits___init__ (K : PySem.W.Frag) : Addr := He.ma K (He.ga K "Waits") "__init__"
def d_Waits___init__ : He.DefD := ⟨("Waits", some "__init__"), "__init__", "Waits.__init__", defArgs s_Waits___init__, defBody s_Waits___init__, defScope s_Waits___init__, [], []⟩
abbrev fa_NotAsked___init__ (K : PySem.W.Frag) : Addr := He.ma K (He.ga K "NotAsked") "__init__"
def d_NotAsked___init__ : He.DefD := ⟨("NotAsked", some "__init__"), "__init__", "NotAsked.__init__", defArgs s_NotAsked___init__, defBody s_NotAsked___init__, defScope s_NotAsked___init__, [], []⟩
abbrev fa_NoKey___init__ (K : PySem.W.Frag) : Addr := He.ma K (He.ga K "NoKey") "__init__"
def d_NoKey___init__ : He.DefD := ⟨("NoKey", some "__init__"), "__init__", "NoKey.__init__", defArgs s_NoKey___init__, defBody s_NoKey___init__, defScope s_NoKey___init__, [], []⟩
abbrev fa_NotSure___init__ (K : PySem.W.Frag) : Addr := He.ma K (He.ga K "NotSure") "__init__"
def d_NotSure___init__ : He.DefD := ⟨("NotSure", some "__init__"), "__init__", "NotSure.__init__", defArgs s_NotSure___init__, defBody s_NotSure___init__, defScope s_NotSure___init__, [], []⟩
abbrev fa_NoTaker___init__ (K : PySem.W.Frag) : Addr := He.ma K (He.ga K "NoTaker") "__init__"
def d_NoTaker___init__ : He.DefD := ⟨("NoTaker", some "__init__"), "__init__", "NoTaker.__init__", defArgs s_NoTaker___init__, defBody s_NoTaker___init__, defScope s_NoTaker___init__, [], []⟩
abbrev fa_NotOnWire___init__ (K : PySem.W.Frag) : Addr := He.ma K (He.ga K "NotOnWire") "__init__"
def d_NotOnWire___init__ : He.DefD := ⟨("NotOnWire", some "__init__"), "__init__", "NotOnWire.__init__", defArgs s_NotOnWire___init__, defBody s_NotOnWire___init__, defScope s_NotOnWire___init__, [], []⟩
abbrev fa__law_bag (K : PySem.W.Frag) : Addr := He.ga K "_law_bag"
def d__law_bag : He.DefD := ⟨("_law_bag", none), "_law_bag", "_law_bag", defArgs s__law_bag, defBody s__law_bag, defScope s__law_bag, [], []⟩
abbrev fa__law_take (K : PySem.W.Frag) : Addr := He.ga K "_law_take"
def d__law_take : He.DefD := ⟨("_law_take", none), "_law_take", "_law_take", defArgs s__law_take, defBody s__law_take, defScope s__law_take, [], []⟩
abbrev fa__law_name (K : PySem.W.Frag) : Addr := He.ga K "_law_name"
def d__law_name : He.DefD := ⟨("_law_name", none), "_law_name", "_law_name", defArgs s__law_name, defBody s__law_name, defScope s__law_name, [], []⟩
abbrev fa__law_kinds (K : PySem.W.Frag) : Addr := He.ga K "_law_kinds"
def d__law_kinds : He.DefD := ⟨("_law_kinds", none), "_law_kinds", "_law_kinds", defArgs s__law_kinds, defBody s__law_kinds, defScope s__law_kinds, [], []⟩
abbrev fa__law_field (K : PySem.W.Frag) : Addr := He.ga K "_law_field"
def d__law_field : He.DefD := ⟨("_law_field", none), "_law_field", "_law_field", defArgs s__law_field, defBody s__law_field, defScope s__law_field, [], []⟩
abbrev fa__law_made_right (K : PySem.W.Frag) : Addr := He.ga K "_law_made_right"
def d__law_made_right : He.DefD := ⟨("_law_made_right", none), "_law_made_right", "_law_made_right", defArgs s__law_made_right, defBody s__law_made_right, defScope s__law_made_right, [], []⟩
abbrev fa_law (K : PySem.W.Frag) : Addr := He.ga K "law"
def d_law : He.DefD := ⟨("law", none), "law", "law", defArgs s_law, defBody s_law, defScope s_law, [], []⟩
def exNames : List Str := ["TideError", "ToldError", "AskedError", "NoTable", "NoChange", "NoStretch", "NoRows", "NoName", "NoRow", "Twice", "NoText", "TooMany", "Ended", "NotEnded", "NothingLeft", "NoPlace", "NoLife", "NoReading", "Held", "Trimmed", "Waits", "NotAsked", "NoKey", "NotSure", "NoTaker", "NotOnWire"]
def exMro : Str → List Str := fun x => ([("TideError", ["TideError", "ValueError"]), ("ToldError", ["ToldError", "TideError", "ValueError"]), ("AskedError", ["AskedError", "TideError", "ValueError"]), ("NoTable", ["NoTable", "ToldError", "TideError", "ValueError"]), ("NoChange", ["NoChange", "ToldError", "TideError", "ValueError"]), ("NoStretch", ["NoStretch", "ToldError", "TideError", "ValueError"]), ("NoRows", ["NoRows", "ToldError", "TideError", "ValueError"]), ("NoName", ["NoName", "ToldError", "TideError", "ValueError"]), ("NoRow", ["NoRow", "ToldError", "TideError", "ValueError"]), ("Twice", ["Twice", "ToldError", "TideError", "ValueError"]), ("NoText", ["NoText", "ToldError", "TideError", "ValueError"]), ("TooMany", ["TooMany", "ToldError", "TideError", "ValueError"]), ("Ended", ["Ended", "AskedError", "TideError", "ValueError"]), ("NotEnded", ["NotEnded", "AskedError", "TideError", "ValueError"]), ("NothingLeft", ["NothingLeft", "AskedError", "TideError", "ValueError"]), ("NoPlace", ["NoPlace", "AskedError", "TideError", "ValueError"]), ("NoLife", ["NoLife", "AskedError", "TideError", "ValueError"]), ("NoReading", ["NoReading", "AskedError", "TideError", "ValueError"]), ("Held", ["Held", "AskedError", "TideError", "ValueError"]), ("Trimmed", ["Trimmed", "AskedError", "TideError", "ValueError"]), ("Waits", ["Waits", "AskedError", "TideError", "ValueError"]), ("NotAsked", ["NotAsked", "AskedError", "TideError", "ValueError"]), ("NoKey", ["NoKey", "AskedError", "TideError", "ValueError"]), ("NotSure", ["NotSure", "AskedError", "TideError", "ValueError"]), ("NoTaker", ["NoTaker", "AskedError", "TideError", "ValueError"]), ("NotOnWire", ["NotOnWire", "AskedError", "TideError", "ValueError"])] : List (Str × List Str)).lookup x |>.getD []
def isSub (x y : Str) : Bool := (exMro x).contains y
def fa0 : List He.Fa := [.free "ValueError", .free "isinstance", .free "range", .free "len", .free "abs", .free "int", .free "min", .glo "_law_bag", .glo "_law_take", .glo "_law_name", .glo "_law_kinds", .glo "_law_field", .glo "_law_made_right", .glo "law", .glo "TideError", .exc "TideError", .glo "ToldError", .exc "ToldError", .glo "AskedError", .exc "AskedError", .glo "NoTable", .exc "NoTable", .glo "NoChange", .exc "NoChange", .glo "NoStretch", .exc "NoStretch", .glo "NoRows", .exc "NoRows", .glo "NoName", .exc "NoName"]
def fa1 : List He.Fa := [.glo "NoRow", .exc "NoRow", .glo "Twice", .exc "Twice", .glo "NoText", .noat "NoText" "line", .glo "TooMany", .noat "TooMany" "many", .glo "Ended", .exc "Ended", .glo "NotEnded", .exc "NotEnded", .glo "NothingLeft", .exc "NothingLeft", .glo "NoPlace", .noat "NoPlace" "at", .glo "NoLife", .noat "NoLife" "who", .glo "NoReading", .noat "NoReading" "number", .glo "Held", .noat "Held" "who", .glo "Trimmed", .noat "Trimmed" "at", .glo "Waits", .noat "Waits" "number", .glo "NotAsked", .noat "NotAsked" "number", .glo "NoKey", .noat "NoKey" "key"]
def fa2 : List He.Fa := [.glo "NotSure", .noat "NotSure" "key", .glo "NoTaker", .noat "NoTaker" "name", .glo "NotOnWire", .noat "NotOnWire" "number"]
def fa : List He.Fa := fa0 ++ fa1 ++ fa2
def fn0 : List He.DefD := [d_NoText___init__, d_TooMany___init__, d_NoPlace___init__, d_NoLife___init__, d_NoReading___init__, d_Held___init__, d_Trimmed___init__, d_Waits___init__, d_NotAsked___init__, d_NoKey___init__, d_NotSure___init__, d_NoTaker___init__, d_NotOnWire___init__, d__law_bag, d__law_take, d__law_name, d__law_kinds, d__law_field, d__law_made_right, d_law]
def fn : List He.DefD := fn0
def fb0 : List (PySem.W.Frag → Bool) := [(fun K => clsB K && exNames.all fun x => xclB K (He.ga K x)), (fun K => exNames.all fun x => exNames.all fun y => decide (PySem.W.kitOne K (.ref (He.ga K x)) (.ref (He.ga K y)) = some (isSub x y))), (fun K => exNames.all fun x => decide (PySem.W.kitOne K (.ref (He.ga K x)) (.type "ValueError") = some true)), (fun K => xiB K (He.ga K "NoText") (fa_NoText___init__ K)), (fun K => xiB K (He.ga K "TooMany") (fa_TooMany___init__ K)), (fun K => xiB K (He.ga K "NoPlace") (fa_NoPlace___init__ K)), (fun K => xiB K (He.ga K "NoLife") (fa_NoLife___init__ K)), (fun K => xiB K (He.ga K "NoReading") (fa_NoReading___init__ K)), (fun K => xiB K (He.ga K "Held") (fa_Held___init__ K)), (fun K => xiB K (He.ga K "Trimmed") (fa_Trimmed___init__ K)), (fun K => xiB K (He.ga K "Waits") (fa_Waits___init__ K)), (fun K => xiB K (He.ga K "NotAsked") (fa_NotAsked___init__ K)), (fun K => xiB K (He.ga K "NoKey") (fa_NoKey___init__ K)), (fun K => xiB K (He.ga K "NotSure") (fa_NotSure___init__ K)), (fun K => xiB K (He.ga K "NoTaker") (fa_NoTaker___init__ K)), (fun K => xiB K (He.ga K "NotOnWire") (fa_NotOnWire___init__ K)), (fun K => xbB K (He.ga K "ToldError")), (fun K => xbB K (He.ga K "AskedError"))]
def fb : List (PySem.W.Frag → Bool) := fb0
structure Tx (K : PySem.W.Frag) (mg : Str → Option Value) : Prop where
  z_ValueError : mg "ValueError" = none
  z_isinstance : mg "isinstance" = none
  z_range : mg "range" = none
  z_len : mg "len" = none
  z_abs : mg "abs" = none
  z_int : mg "int" = none
  z_min : mg "min" = none
  g__law_bag : mg "_law_bag" = some (.ref (He.ga K "_law_bag"))
  g__law_take : mg "_law_take" = some (.ref (He.ga K "_law_take"))
  g__law_name : mg "_law_name" = some (.ref (He.ga K "_law_name"))
  g__law_kinds : mg "_law_kinds" = some (.ref (He.ga K "_law_kinds"))
  g__law_field : mg "_law_field" = some (.ref (He.ga K "_law_field"))
  g__law_made_right : mg "_law_made_right" = some (.ref (He.ga K "_law_made_right"))
  g_law : mg "law" = some (.ref (He.ga K "law"))
  g_TideError : mg "TideError" = some (.ref (He.ga K "TideError"))
  xe_TideError : PySem.W.excIn K (He.ga K "TideError") He.veBase "ValueError.__new__" = true ∧ PySem.W.keepIn K (.ref (He.ga K "TideError")) = true ∧ PySem.W.subIn K (.ref (He.ga K "TideError")) (.type "BaseException") = some true ∧ PySem.W.typeIn K (.ref (He.ga K "TideError")) = some (.type "type")
  g_ToldError : mg "ToldError" = some (.ref (He.ga K "ToldError"))
  xe_ToldError : PySem.W.excIn K (He.ga K "ToldError") He.veBase "ValueError.__new__" = true ∧ PySem.W.keepIn K (.ref (He.ga K "ToldError")) = true ∧ PySem.W.subIn K (.ref (He.ga K "ToldError")) (.type "BaseException") = some true ∧ PySem.W.typeIn K (.ref (He.ga K "ToldError")) = some (.type "type")
  g_AskedError : mg "AskedError" = some (.ref (He.ga K "AskedError"))
  xe_AskedError : PySem.W.excIn K (He.ga K "AskedError") He.veBase "ValueError.__new__" = true ∧ PySem.W.keepIn K (.ref (He.ga K "AskedError")) = true ∧ PySem.W.subIn K (.ref (He.ga K "AskedError")) (.type "BaseException") = some true ∧ PySem.W.typeIn K (.ref (He.ga K "AskedError")) = some (.type "type")
  g_NoTable : mg "NoTable" = some (.ref (He.ga K "NoTable"))
  xe_NoTable : PySem.W.excIn K (He.ga K "NoTable") He.veBase "ValueError.__new__" = true ∧ PySem.W.keepIn K (.ref (He.ga K "NoTable")) = true ∧ PySem.W.subIn K (.ref (He.ga K "NoTable")) (.type "BaseException") = some true ∧ PySem.W.typeIn K (.ref (He.ga K "NoTable")) = some (.type "type")
  g_NoChange : mg "NoChange" = some (.ref (He.ga K "NoChange"))
  xe_NoChange : PySem.W.excIn K (He.ga K "NoChange") He.veBase "ValueError.__new__" = true ∧ PySem.W.keepIn K (.ref (He.ga K "NoChange")) = true ∧ PySem.W.subIn K (.ref (He.ga K "NoChange")) (.type "BaseException") = some true ∧ PySem.W.typeIn K (.ref (He.ga K "NoChange")) = some (.type "type")
  g_NoStretch : mg "NoStretch" = some (.ref (He.ga K "NoStretch"))
  xe_NoStretch : PySem.W.excIn K (He.ga K "NoStretch") He.veBase "ValueError.__new__" = true ∧ PySem.W.keepIn K (.ref (He.ga K "NoStretch")) = true ∧ PySem.W.subIn K (.ref (He.ga K "NoStretch")) (.type "BaseException") = some true ∧ PySem.W.typeIn K (.ref (He.ga K "NoStretch")) = some (.type "type")
  g_NoRows : mg "NoRows" = some (.ref (He.ga K "NoRows"))
  xe_NoRows : PySem.W.excIn K (He.ga K "NoRows") He.veBase "ValueError.__new__" = true ∧ PySem.W.keepIn K (.ref (He.ga K "NoRows")) = true ∧ PySem.W.subIn K (.ref (He.ga K "NoRows")) (.type "BaseException") = some true ∧ PySem.W.typeIn K (.ref (He.ga K "NoRows")) = some (.type "type")
  g_NoName : mg "NoName" = some (.ref (He.ga K "NoName"))
  xe_NoName : PySem.W.excIn K (He.ga K "NoName") He.veBase "ValueError.__new__" = true ∧ PySem.W.keepIn K (.ref (He.ga K "NoName")) = true ∧ PySem.W.subIn K (.ref (He.ga K "NoName")) (.type "BaseException") = some true ∧ PySem.W.typeIn K (.ref (He.ga K "NoName")) = some (.type "type")
  g_NoRow : mg "NoRow" = some (.ref (He.ga K "NoRow"))
  xe_NoRow : PySem.W.excIn K (He.ga K "NoRow") He.veBase "ValueError.__new__" = true ∧ PySem.W.keepIn K (.ref (He.ga K "NoRow")) = true ∧ PySem.W.subIn K (.ref (He.ga K "NoRow")) (.type "BaseException") = some true ∧ PySem.W.typeIn K (.ref (He.ga K "NoRow")) = some (.type "type")
  g_Twice : mg "Twice" = some (.ref (He.ga K "Twice"))
  xe_Twice : PySem.W.excIn K (He.ga K "Twice") He.veBase "ValueError.__new__" = true ∧ PySem.W.keepIn K (.ref (He.ga K "Twice")) = true ∧ PySem.W.subIn K (.ref (He.ga K "Twice")) (.type "BaseException") = some true ∧ PySem.W.typeIn K (.ref (He.ga K "Twice")) = some (.type "type")
  g_NoText : mg "NoText" = some (.ref (He.ga K "NoText"))
  na_NoText_line : NoAttr K (He.ga K "NoText") "line"
  g_TooMany : mg "TooMany" = some (.ref (He.ga K "TooMany"))
  na_TooMany_many : NoAttr K (He.ga K "TooMany") "many"
  g_Ended : mg "Ended" = some (.ref (He.ga K "Ended"))
  xe_Ended : PySem.W.excIn K (He.ga K "Ended") He.veBase "ValueError.__new__" = true ∧ PySem.W.keepIn K (.ref (He.ga K "Ended")) = true ∧ PySem.W.subIn K (.ref (He.ga K "Ended")) (.type "BaseException") = some true ∧ PySem.W.typeIn K (.ref (He.ga K "Ended")) = some (.type "type")
  g_NotEnded : mg "NotEnded" = some (.ref (He.ga K "NotEnded"))
  xe_NotEnded : PySem.W.excIn K (He.ga K "NotEnded") He.veBase "ValueError.__new__" = true ∧ PySem.W.keepIn K (.ref (He.ga K "NotEnded")) = true ∧ PySem.W.subIn K (.ref (He.ga K "NotEnded")) (.type "BaseException") = some true ∧ PySem.W.typeIn K (.ref (He.ga K "NotEnded")) = some (.type "type")
  g_NothingLeft : mg "NothingLeft" = some (.ref (He.ga K "NothingLeft"))
  xe_NothingLeft : PySem.W.excIn K (He.ga K "NothingLeft") He.veBase "ValueError.__new__" = true ∧ PySem.W.keepIn K (.ref (He.ga K "NothingLeft")) = true ∧ PySem.W.subIn K (.ref (He.ga K "NothingLeft")) (.type "BaseException") = some true ∧ PySem.W.typeIn K (.ref (He.ga K "NothingLeft")) = some (.type "type")
  g_NoPlace : mg "NoPlace" = some (.ref (He.ga K "NoPlace"))
  na_NoPlace_at : NoAttr K (He.ga K "NoPlace") "at"
  g_NoLife : mg "NoLife" = some (.ref (He.ga K "NoLife"))
  na_NoLife_who : NoAttr K (He.ga K "NoLife") "who"
  g_NoReading : mg "NoReading" = some (.ref (He.ga K "NoReading"))
  na_NoReading_number : NoAttr K (He.ga K "NoReading") "number"
  g_Held : mg "Held" = some (.ref (He.ga K "Held"))
  na_Held_who : NoAttr K (He.ga K "Held") "who"
  g_Trimmed : mg "Trimmed" = some (.ref (He.ga K "Trimmed"))
  na_Trimmed_at : NoAttr K (He.ga K "Trimmed") "at"
  g_Waits : mg "Waits" = some (.ref (He.ga K "Waits"))
  na_Waits_number : NoAttr K (He.ga K "Waits") "number"
  g_NotAsked : mg "NotAsked" = some (.ref (He.ga K "NotAsked"))
  na_NotAsked_number : NoAttr K (He.ga K "NotAsked") "number"
  g_NoKey : mg "NoKey" = some (.ref (He.ga K "NoKey"))
  na_NoKey_key : NoAttr K (He.ga K "NoKey") "key"
  g_NotSure : mg "NotSure" = some (.ref (He.ga K "NotSure"))
  na_NotSure_key : NoAttr K (He.ga K "NotSure") "key"
  g_NoTaker : mg "NoTaker" = some (.ref (He.ga K "NoTaker"))
  na_NoTaker_name : NoAttr K (He.ga K "NoTaker") "name"
  g_NotOnWire : mg "NotOnWire" = some (.ref (He.ga K "NotOnWire"))
  na_NotOnWire_number : NoAttr K (He.ga K "NotOnWire") "number"
  f_NoText___init__ : ∃ fd, FunD K "__init__" "NoText.__init__" (defArgs s_NoText___init__) (defBody s_NoText___init__) (defScope s_NoText___init__) (List.map (He.Dv.v K) ([.non] : List He.Dv)) [] (fa_NoText___init__ K) fd
  f_TooMany___init__ : ∃ fd, FunD K "__init__" "TooMany.__init__" (defArgs s_TooMany___init__) (defBody s_TooMany___init__) (defScope s_TooMany___init__) [] [] (fa_TooMany___init__ K) fd
  f_NoPlace___init__ : ∃ fd, FunD K "__init__" "NoPlace.__init__" (defArgs s_NoPlace___init__) (defBody s_NoPlace___init__) (defScope s_NoPlace___init__) [] [] (fa_NoPlace___init__ K) fd
  f_NoLife___init__ : ∃ fd, FunD K "__init__" "NoLife.__init__" (defArgs s_NoLife___init__) (defBody s_NoLife___init__) (defScope s_NoLife___init__) [] [] (fa_NoLife___init__ K) fd
  f_NoReading___init__ : ∃ fd, FunD K "__init__" "NoReading.__init__" (defArgs s_NoReading___init__) (defBody s_NoReading___init__) (defScope s_NoReading___init__) [] [] (fa_NoReading___init__ K) fd
  f_Held___init__ : ∃ fd, FunD K "__init__" "Held.__init__" (defArgs s_Held___init__) (defBody s_Held___init__) (defScope s_Held___init__) [] [] (fa_Held___init__ K) fd
  f_Trimmed___init__ : ∃ fd, FunD K "__init__" "Trimmed.__init__" (defArgs s_Trimmed___init__) (defBody s_Trimmed___init__) (defScope s_Trimmed___init__) [] [] (fa_Trimmed___init__ K) fd
  f_Waits___init__ : ∃ fd, FunD K "__init__" "Waits.__init__" (defArgs s_Waits___init__) (defBody s_Waits___init__) (defScope s_Waits___init__) [] [] (fa_Waits___init__ K) fd
  f_NotAsked___init__ : ∃ fd, FunD K "__init__" "NotAsked.__init__" (defArgs s_NotAsked___init__) (defBody s_NotAsked___init__) (defScope s_NotAsked___init__) [] [] (fa_NotAsked___init__ K) fd
  f_NoKey___init__ : ∃ fd, FunD K "__init__" "NoKey.__init__" (defArgs s_NoKey___init__) (defBody s_NoKey___init__) (defScope s_NoKey___init__) [] [] (fa_NoKey___init__ K) fd
  f_NotSure___init__ : ∃ fd, FunD K "__init__" "NotSure.__init__" (defArgs s_NotSure___init__) (defBody s_NotSure___init__) (defScope s_NotSure___init__) [] [] (fa_NotSure___init__ K) fd
  f_NoTaker___init__ : ∃ fd, FunD K "__init__" "NoTaker.__init__" (defArgs s_NoTaker___init__) (defBody s_NoTaker___init__) (defScope s_NoTaker___init__) [] [] (fa_NoTaker___init__ K) fd
  f_NotOnWire___init__ : ∃ fd, FunD K "__init__" "NotOnWire.__init__" (defArgs s_NotOnWire___init__) (defBody s_NotOnWire___init__) (defScope s_NotOnWire___init__) [] [] (fa_NotOnWire___init__ K) fd
  f__law_bag : ∃ fd, FunD K "_law_bag" "_law_bag" (defArgs s__law_bag) (defBody s__law_bag) (defScope s__law_bag) [] [] (fa__law_bag K) fd
  f__law_take : ∃ fd, FunD K "_law_take" "_law_take" (defArgs s__law_take) (defBody s__law_take) (defScope s__law_take) [] [] (fa__law_take K) fd
  f__law_name : ∃ fd, FunD K "_law_name" "_law_name" (defArgs s__law_name) (defBody s__law_name) (defScope s__law_name) [] [] (fa__law_name K) fd
  f__law_kinds : ∃ fd, FunD K "_law_kinds" "_law_kinds" (defArgs s__law_kinds) (defBody s__law_kinds) (defScope s__law_kinds) [] [] (fa__law_kinds K) fd
  f__law_field : ∃ fd, FunD K "_law_field" "_law_field" (defArgs s__law_field) (defBody s__law_field) (defScope s__law_field) [] [] (fa__law_field K) fd
  f__law_made_right : ∃ fd, FunD K "_law_made_right" "_law_made_right" (defArgs s__law_made_right) (defBody s__law_made_right) (defScope s__law_made_right) [] [] (fa__law_made_right K) fd
  f_law : ∃ fd, FunD K "law" "law" (defArgs s_law) (defBody s_law) (defScope s_law) [] [] (fa_law K) fd
  xc : ∀ x ∈ exNames, XCls K (He.ga K x)
  xk : ∀ x ∈ exNames, ∀ y ∈ exNames, PySem.W.kitOne K (.ref (He.ga K x)) (.ref (He.ga K y)) = some (isSub x y)
  xv : ∀ x ∈ exNames, PySem.W.kitOne K (.ref (He.ga K x)) (.type "ValueError") = some true
  xi_NoText : XInit K (He.ga K "NoText") (fa_NoText___init__ K)
  xi_TooMany : XInit K (He.ga K "TooMany") (fa_TooMany___init__ K)
  xi_NoPlace : XInit K (He.ga K "NoPlace") (fa_NoPlace___init__ K)
  xi_NoLife : XInit K (He.ga K "NoLife") (fa_NoLife___init__ K)
  xi_NoReading : XInit K (He.ga K "NoReading") (fa_NoReading___init__ K)
  xi_Held : XInit K (He.ga K "Held") (fa_Held___init__ K)
  xi_Trimmed : XInit K (He.ga K "Trimmed") (fa_Trimmed___init__ K)
  xi_Waits : XInit K (He.ga K "Waits") (fa_Waits___init__ K)
  xi_NotAsked : XInit K (He.ga K "NotAsked") (fa_NotAsked___init__ K)
  xi_NoKey : XInit K (He.ga K "NoKey") (fa_NoKey___init__ K)
  xi_NotSure : XInit K (He.ga K "NotSure") (fa_NotSure___init__ K)
  xi_NoTaker : XInit K (He.ga K "NoTaker") (fa_NoTaker___init__ K)
  xi_NotOnWire : XInit K (He.ga K "NotOnWire") (fa_NotOnWire___init__ K)
  xb_ToldError : XBase K (He.ga K "ToldError")
  xb_AskedError : XBase K (He.ga K "AskedError")
theorem tx_of {K : PySem.W.Frag} {h : Heap} {mg : Str → Option Value} (X : K.In h) (G : h.Ns mainGlobals mg) (c : He.SaysD fa fn K) (cb : ∀ f ∈ fb, f K = true) : Tx K mg where
  z_ValueError := He.free_ok X G (c.fact 0 rfl)
  z_isinstance := He.free_ok X G (c.fact 1 rfl)
  z_range := He.free_ok X G (c.fact 2 rfl)
  z_len := He.free_ok X G (c.fact 3 rfl)
  z_abs := He.free_ok X G (c.fact 4 rfl)
  z_int := He.free_ok X G (c.fact 5 rfl)
  z_min := He.free_ok X G (c.fact 6 rfl)
  g__law_bag := He.glo_ok X G (c.fact 7 rfl)
  g__law_take := He.glo_ok X G (c.fact 8 rfl)
  g__law_name := He.glo_ok X G (c.fact 9 rfl)
  g__law_kinds := He.glo_ok X G (c.fact 10 rfl)
  g__law_field := He.glo_ok X G (c.fact 11 rfl)
  g__law_made_right := He.glo_ok X G (c.fact 12 rfl)
  g_law := He.glo_ok X G (c.fact 13 rfl)
  g_TideError := He.glo_ok X G (c.fact 14 rfl)
  xe_TideError := He.exc_ok (c.fact 15 rfl)
  g_ToldError := He.glo_ok X G (c.fact 16 rfl)
  xe_ToldError := He.exc_ok (c.fact 17 rfl)
  g_AskedError := He.glo_ok X G (c.fact 18 rfl)
  xe_AskedError := He.exc_ok (c.fact 19 rfl)
  g_NoTable := He.glo_ok X G (c.fact 20 rfl)
  xe_NoTable := He.exc_ok (c.fact 21 rfl)
  g_NoChange := He.glo_ok X G (c.fact 22 rfl)
  xe_NoChange := He.exc_ok (c.fact 23 rfl)
  g_NoStretch := He.glo_ok X G (c.fact 24 rfl)
  xe_NoStretch := He.exc_ok (c.fact 25 rfl)
  g_NoRows := He.glo_ok X G (c.fact 26 rfl)
  xe_NoRows := He.exc_ok (c.fact 27 rfl)
  g_NoName := He.glo_ok X G (c.fact 28 rfl)
  xe_NoName := He.exc_ok (c.fact 29 rfl)
  g_NoRow := He.glo_ok X G (c.fact 30 rfl)
  xe_NoRow := He.exc_ok (c.fact 31 rfl)
  g_Twice := He.glo_ok X G (c.fact 32 rfl)
  xe_Twice := He.exc_ok (c.fact 33 rfl)
  g_NoText := He.glo_ok X G (c.fact 34 rfl)
  na_NoText_line := He.noat_ok (c.fact 35 rfl)
  g_TooMany := He.glo_ok X G (c.fact 36 rfl)
  na_TooMany_many := He.noat_ok (c.fact 37 rfl)
  g_Ended := He.glo_ok X G (c.fact 38 rfl)
  xe_Ended := He.exc_ok (c.fact 39 rfl)
  g_NotEnded := He.glo_ok X G (c.fact 40 rfl)
  xe_NotEnded := He.exc_ok (c.fact 41 rfl)
  g_NothingLeft := He.glo_ok X G (c.fact 42 rfl)
  xe_NothingLeft := He.exc_ok (c.fact 43 rfl)
  g_NoPlace := He.glo_ok X G (c.fact 44 rfl)
  na_NoPlace_at := He.noat_ok (c.fact 45 rfl)
  g_NoLife := He.glo_ok X G (c.fact 46 rfl)
  na_NoLife_who := He.noat_ok (c.fact 47 rfl)
  g_NoReading := He.glo_ok X G (c.fact 48 rfl)
  na_NoReading_number := He.noat_ok (c.fact 49 rfl)
  g_Held := He.glo_ok X G (c.fact 50 rfl)
  na_Held_who := He.noat_ok (c.fact 51 rfl)
  g_Trimmed := He.glo_ok X G (c.fact 52 rfl)
  na_Trimmed_at := He.noat_ok (c.fact 53 rfl)
  g_Waits := He.glo_ok X G (c.fact 54 rfl)
  na_Waits_number := He.noat_ok (c.fact 55 rfl)
  g_NotAsked := He.glo_ok X G (c.fact 56 rfl)
  na_NotAsked_number := He.noat_ok (c.fact 57 rfl)
  g_NoKey := He.glo_ok X G (c.fact 58 rfl)
  na_NoKey_key := He.noat_ok (c.fact 59 rfl)
  g_NotSure := He.glo_ok X G (c.fact 60 rfl)
  na_NotSure_key := He.noat_ok (c.fact 61 rfl)
  g_NoTaker := He.glo_ok X G (c.fact 62 rfl)
  na_NoTaker_name := He.noat_ok (c.fact 63 rfl)
  g_NotOnWire := He.glo_ok X G (c.fact 64 rfl)
  na_NotOnWire_number := He.noat_ok (c.fact 65 rfl)
  f_NoText___init__ := c.def_ 0 (d := d_NoText___init__) rfl
  f_TooMany___init__ := c.def_ 1 (d := d_TooMany___init__) rfl
  f_NoPlace___init__ := c.def_ 2 (d := d_NoPlace___init__) rfl
  f_NoLife___init__ := c.def_ 3 (d := d_NoLife___init__) rfl
  f_NoReading___init__ := c.def_ 4 (d := d_NoReading___init__) rfl
  f_Held___init__ := c.def_ 5 (d := d_Held___init__) rfl
  f_Trimmed___init__ := c.def_ 6 (d := d_Trimmed___init__) rfl
  f_Waits___init__ := c.def_ 7 (d := d_Waits___init__) rfl
  f_NotAsked___init__ := c.def_ 8 (d := d_NotAsked___init__) rfl
  f_NoKey___init__ := c.def_ 9 (d := d_NoKey___init__) rfl
  f_NotSure___init__ := c.def_ 10 (d := d_NotSure___init__) rfl
  f_NoTaker___init__ := c.def_ 11 (d := d_NoTaker___init__) rfl
  f_NotOnWire___init__ := c.def_ 12 (d := d_NotOnWire___init__) rfl
  f__law_bag := c.def_ 13 (d := d__law_bag) rfl
  f__law_take := c.def_ 14 (d := d__law_take) rfl
  f__law_name := c.def_ 15 (d := d__law_name) rfl
  f__law_kinds := c.def_ 16 (d := d__law_kinds) rfl
  f__law_field := c.def_ 17 (d := d__law_field) rfl
  f__law_made_right := c.def_ 18 (d := d__law_made_right) rfl
  f_law := c.def_ 19 (d := d_law) rfl
  xc := fun x hx => xclB_ok (List.all_eq_true.mp (Bool.and_eq_true_iff.mp (fb_at cb 0 rfl)).2 x hx) (Bool.and_eq_true_iff.mp (fb_at cb 0 rfl)).1
  xk := fun x hx y hy => of_decide_eq_true (List.all_eq_true.mp (List.all_eq_true.mp (fb_at cb 1 rfl) x hx) y hy)
  xv := fun x hx => of_decide_eq_true (List.all_eq_true.mp (fb_at cb 2 rfl) x hx)
  xi_NoText := xiB_ok (fb_at cb 3 rfl)
  xi_TooMany := xiB_ok (fb_at cb 4 rfl)
  xi_NoPlace := xiB_ok (fb_at cb 5 rfl)
  xi_NoLife := xiB_ok (fb_at cb 6 rfl)
  xi_NoReading := xiB_ok (fb_at cb 7 rfl)
  xi_Held := xiB_ok (fb_at cb 8 rfl)
  xi_Trimmed := xiB_ok (fb_at cb 9 rfl)
  xi_Waits := xiB_ok (fb_at cb 10 rfl)
  xi_NotAsked := xiB_ok (fb_at cb 11 rfl)
  xi_NoKey := xiB_ok (fb_at cb 12 rfl)
  xi_NotSure := xiB_ok (fb_at cb 13 rfl)
  xi_NoTaker := xiB_ok (fb_at cb 14 rfl)
  xi_NotOnWire := xiB_ok (fb_at cb 15 rfl)
  xb_ToldError := xbB_ok (fb_at cb 16 rfl)
  xb_AskedError := xbB_ok (fb_at cb 17 rfl)
abbrev R : PySem.W.OpenRow := PySem.W.OpenLaw.row PySem.Challenge.rw_tidecopy_k49_refusals_apart
abbrev hk : PySem.W.Hook := hookX fa fn fb
def ob (s : PySem.W.SharedT) : AlE := obsX fa fn fb (He.frG (HandSHeadRun.getT s) (List.range s.n))
theorem ob_eq (s : PySem.W.SharedT) : ob s = hk.obs s.abs := obX_eq (HandSHeadRun.getT_eq s) (PySem.W.absHeap_size s.tree s.n s.life)
def loose : List Str := (["TideError", "ToldError", "AskedError", "NoTable", "NoChange", "NoStretch", "NoRows", "NoName", "NoRow", "Twice", "NoText", "TooMany", "Ended", "NotEnded", "NothingLeft", "NoPlace", "NoLife", "NoReading", "Held", "Trimmed", "Waits", "NotAsked", "NoKey", "NotSure", "NoTaker", "NotOnWire", "_law_bag", "_law_take", "_law_name", "_law_kinds"] : List PySem.Str) ++ (["_law_field", "_law_made_right"] : List PySem.Str)
set_option maxHeartbeats 0 in
theorem run (w : World) : HandSHeadRun.RunEq R (PySem.W.view R.prog [34]) hk ob 20000 loose w := by
  intro os
  kernel_rfl
end T

set_option maxHeartbeats 4000000
namespace T
open PySem PySem.Spec PyProof.Rows L2
local macro_rules | `(tactic| walk_at "dp") => `(tactic| first | assumption | exact Dt.dp (by assumption) | exact Dp.int _ | exact Dp.str _ | exact Dp.non | exact Dp.bl _ | (refine dpm (by assumption) ?_; walk_at "dp"))
local macro_rules | `(tactic| walk_at "ix") => `(tactic| first | rfl | decide | assumption)
local macro_rules | `(tactic| walk_at "sm") => `(tactic| first | assumption | exact Same.refl _ | exact Same.trans (by assumption) (by assumption) | (refine Same.trans ?_ (by assumption); walk_at "sm"))
local macro_rules | `(tactic| walk_at "fv") => `(tactic| (intro u hu; (first | obtain rfl := dp_int hu | obtain rfl := dp_str hu | obtain rfl := dp_non hu | obtain rfl := dp_bl hu | skip)))
local macro_rules | `(tactic| walk_at "few") => `(tactic| (simp only [List.length_cons, List.length_nil, sizeLine_eq] <;> omega))
local macro_rules | `(tactic| walk_at "s") => `(tactic| first
  | with_reducible refine x_seq ?_
  | with_reducible refine x_asg ?_
  | with_reducible refine x_name ?_
  | with_reducible refine x_ifS ?_
  | with_reducible refine x_ret ?_
  | with_reducible refine x_drop ?_
  | with_reducible refine x_op ?_
  | with_reducible refine x_un ?_
  | with_reducible refine x_test ?_
  | with_reducible refine x_B ?_
  | with_reducible refine x_and ?_
  | with_reducible refine x_or ?_
  | with_reducible refine x_not ?_
  | with_reducible refine x_andV ?_
  | with_reducible refine x_orV ?_
  | with_reducible refine x_notV ?_
  | with_reducible refine x_if ?_
  | with_reducible refine x_chain ?_
  | with_reducible refine x_CB ?_
  | with_reducible refine x_nil ?_
  | with_reducible refine x_cons ?_
  | with_reducible refine x_call ?_
  | with_reducible refine x_tup ?_
  | with_reducible refine x_lst ?_
  | with_reducible refine x_sl ?_
  | with_reducible refine x_noPart ?_
  | with_reducible refine x_part ?_
  | with_reducible refine x_c ?_
  | with_reducible refine x_retN ?_
  | with_reducible refine x_next ?_
  | with_reducible refine x_dget ?_
  | with_reducible refine x_din ?_
  | with_reducible refine x_dnotin ?_
  | with_reducible refine x_dput ?_
  | with_reducible refine x_dpop2 ?_
  | with_reducible refine x_dpop1 ?_
  | with_reducible refine x_dget2 ?_
  | with_reducible refine x_iTup ?_
  | with_reducible refine x_iList ?_
  | with_reducible refine x_iRng1 ?_
  | with_reducible refine x_iRng2 ?_
  | with_reducible refine x_iZip ?_
  | with_reducible refine x_lc ?_
  | with_reducible refine x_yes ?_
  | with_reducible refine x_for ?_
  | with_reducible refine x_gCons ?_
  | with_reducible refine x_gNil ?_
  | with_reducible refine x_mk0 ?_
  | with_reducible refine x_xm ?_
  | with_reducible refine x_xm0 ?_
  | with_reducible refine x_xmK ?_
  | with_reducible refine x_vei ?_
  | with_reducible refine x_ost ?_
  | with_reducible refine x_xfl ?_
  | with_reducible refine x_gSub ?_
  | ((with_reducible show L2.rSetL (V.ref _) (V.int _) _ _ _); refine x_put (by assumption) (by rfl) ?_)
  | with_reducible refine x_I0 ?_
  | with_reducible refine x_eqI ?_
  | with_reducible refine x_neI ?_
  | with_reducible refine x_eqS ?_
  | with_reducible refine x_neS ?_
  | with_reducible refine x_isN ?_
  | with_reducible refine x_notN ?_
  | ((with_reducible show tVar _ _ _ _); refine x_var rfl ?_)
  | ((with_reducible show wipe _ _ = wipe _ _ ∧ _); refine ⟨rfl, ?_⟩)
  | ((with_reducible show rIsi _ [_, V.ty "int"] _ _); refine x_isi (by walk_at "dp") (k_int _) ?_)
  | ((with_reducible show rIsi _ [_, V.ty "bool"] _ _); refine x_isi (by walk_at "dp") (k_bool _) ?_)
  | ((with_reducible show rIsi _ [_, V.ty "tuple"] _ _); refine x_isi (by walk_at "dp") (k_tup _) ?_)
  | ((with_reducible show rIsi _ [_, V.ty "str"] _ _); refine x_isi (by walk_at "dp") (k_str _) ?_)
  | ((with_reducible show rLen _ [_] _ _); (first | refine x_len_t (by walk_at "dp") ?_ | refine x_len_l (by walk_at "dp") ?_ | refine x_len_L (by assumption) ?_))
  | ((with_reducible show rIxT _ _ (V.int _) _ _); (refine x_ixT (by walk_at "dp") (by walk_at "ix") ?_; walk_at "fv"))
  | ((with_reducible show rIxL _ (V.ref _) (V.int _) _ _); (refine x_ixL (by assumption) (by walk_at "ix") ?_))
  | ((with_reducible show ∃ _, _ = V.bl _ ∧ _); refine ⟨_, rfl, ?_⟩)
  | ((with_reducible show ∃ k, V.bl _ = V.bl k ∧ _); refine ⟨_, rfl, ?_⟩)
  | ((with_reducible show ∃ k, V.int _ = V.int k ∧ _); refine ⟨_, rfl, ?_⟩)
  | ((with_reducible show if true = true then _ else _); refine iteT ?_)
  | ((with_reducible show if false = true then _ else _); refine iteF ?_)
  | ((with_reducible show if _ = true then _ else _); (first | refine ite_t (by assumption) ?_ | refine ite_f (by assumption) ?_ | refine ite_t (by rfl) ?_ | refine ite_f (by rfl) ?_))
  | dsimp only)
section
variable {P : Program} {w : World} {K : PySem.W.Frag} {mg : Str → Option Value} {base : Heap}
theorem sc_NoText___init__ : FnScope ["self", "line"] ["self", "line"] (defScope s_NoText___init__) := ⟨rfl, rfl, rfl, by decide +kernel, rfl, by decide +kernel, by decide +kernel⟩
def sp_NoText___init__ (K : PySem.W.Frag) : Sp := spOne (He.ga K "NoText") "line"
theorem fo_NoText___init__ (T : Tx K mg) {fd : FuncData} (F : FunD K "__init__" "NoText.__init__" (defArgs s_NoText___init__) (defBody s_NoText___init__) (defScope s_NoText___init__) (List.map (He.Dv.v K) ([.non] : List He.Dv)) [] (fa_NoText___init__ K) fd) : FnOk P w K mg base (L2.CX P w) 1 (fa_NoText___init__ K) fd ["self", "line"] (sp_NoText___init__ K) := by
  refine fn_mk F sc_NoText___init__ (fun vs H Q E h => ?len) (fun cdv A outer s H vs Q E hr h => ?body)
  case len =>
    obtain ⟨a, v, rfl, ha, q⟩ := h
    rfl
  case body =>
    have hu := hu_of hr
    obtain ⟨a, v, rfl, ha, q⟩ := h
    refine ⟨_, (pss_cons (ps_expr (pe_einit T.xb_ToldError rfl T.g_ToldError (pa_cons (pv 0) (pa_cons pe_str pa_nil))))
      (pss_one (ps_ost (pv 0) (pv 1) rfl))), ?_⟩
    have hc := T.xc "NoText" (by decide)
    repeat walk_at "s"
    refine ⟨a, _, [.str "no text"], rfl, by decide, hc.o, ha, ?_⟩
    repeat walk_at "s"
    refine ⟨a, _, rfl, hc.o, T.na_NoText_line, .inl ⟨ha, fun dx hd ne => ?_⟩⟩
    exact q dx hd ne
theorem ok_NoText___init__ (T : Tx K mg) : Xm P w K mg base 1 1 "NoText" (He.ga K "NoText") (sp_NoText___init__ K) [] [] := by
  obtain ⟨fd, F⟩ := T.f_NoText___init__
  obtain ⟨ds, rd, hb⟩ := bd_kwD (st := s_NoText___init__) (ps := ["self", "line"]) 2 1 [] (by simp) F fun _ _ _ _ _ _ _ us its ws h1 h2 h3 => match us, its, ws, h1, h2, h3 with | [_, _], [_], [], _, _, _ => ⟨_, rfl, rfl⟩
  exact ⟨_, fd, ["self", "line"], ds, T.xc "NoText" (by decide), T.xi_NoText, fo_NoText___init__ T F, T.g_NoText, rd, hb⟩
theorem ok_NoText___init___kw_line (T : Tx K mg) : Xm P w K mg base 1 0 "NoText" (He.ga K "NoText") (sp_NoText___init__ K) [] ["line"] := by
  obtain ⟨fd, F⟩ := T.f_NoText___init__
  obtain ⟨ds, rd, hb⟩ := bd_kwD (st := s_NoText___init__) (ps := ["self", "line"]) 1 1 ["line"] (by simp) F fun _ _ _ _ _ _ _ us its ws h1 h2 h3 => match us, its, ws, h1, h2, h3 with | [_], [_], [_], _, _, _ => ⟨_, rfl, rfl⟩
  exact ⟨_, fd, ["self", "line"], ds, T.xc "NoText" (by decide), T.xi_NoText, fo_NoText___init__ T F, T.g_NoText, rd, hb⟩
theorem ok_NoText___init___0 (T : Tx K mg) : Xm P w K mg base 1 0 "NoText" (He.ga K "NoText") (sp_NoText___init__ K) (List.map (He.Dv.v K) ([.non] : List He.Dv)) [] := by
  obtain ⟨fd, F⟩ := T.f_NoText___init__
  obtain ⟨ds, rd, hb⟩ := bd_kwD (st := s_NoText___init__) (ps := ["self", "line"]) 1 0 [] (by simp) F fun _ _ _ _ _ _ _ us its ws h1 h2 h3 => match us, its, ws, h1, h2, h3 with | [_], [_], [], _, _, _ => ⟨_, rfl, rfl⟩
  exact ⟨_, fd, ["self", "line"], ds, T.xc "NoText" (by decide), T.xi_NoText, fo_NoText___init__ T F, T.g_NoText, rd, hb⟩
theorem sc_TooMany___init__ : FnScope ["self", "many"] ["self", "many"] (defScope s_TooMany___init__) := ⟨rfl, rfl, rfl, by decide +kernel, rfl, by decide +kernel, by decide +kernel⟩
def sp_TooMany___init__ (K : PySem.W.Frag) : Sp := spOne (He.ga K "TooMany") "many"
theorem fo_TooMany___init__ (T : Tx K mg) {fd : FuncData} (F : FunD K "__init__" "TooMany.__init__" (defArgs s_TooMany___init__) (defBody s_TooMany___init__) (defScope s_TooMany___init__) [] [] (fa_TooMany___init__ K) fd) : FnOk P w K mg base (L2.CX P w) 1 (fa_TooMany___init__ K) fd ["self", "many"] (sp_TooMany___init__ K) := by
  refine fn_mk F sc_TooMany___init__ (fun vs H Q E h => ?len) (fun cdv A outer s H vs Q E hr h => ?body)
  case len =>
    obtain ⟨a, v, rfl, ha, q⟩ := h
    rfl
  case body =>
    have hu := hu_of hr
    obtain ⟨a, v, rfl, ha, q⟩ := h
    refine ⟨_, (pss_cons (ps_expr (pe_einit T.xb_ToldError rfl T.g_ToldError (pa_cons (pv 0) (pa_cons pe_str pa_nil))))
      (pss_one (ps_ost (pv 0) (pv 1) rfl))), ?_⟩
    have hc := T.xc "TooMany" (by decide)
    repeat walk_at "s"
    refine ⟨a, _, [.str "too many"], rfl, by decide, hc.o, ha, ?_⟩
    repeat walk_at "s"
    refine ⟨a, _, rfl, hc.o, T.na_TooMany_many, .inl ⟨ha, fun dx hd ne => ?_⟩⟩
    exact q dx hd ne
theorem ok_TooMany___init__ (T : Tx K mg) : Xm P w K mg base 1 1 "TooMany" (He.ga K "TooMany") (sp_TooMany___init__ K) [] [] := by
  obtain ⟨fd, F⟩ := T.f_TooMany___init__
  exact ⟨_, fd, ["self", "many"], [], T.xc "TooMany" (by decide), T.xi_TooMany, fo_TooMany___init__ T F, T.g_TooMany, .nil, bd_kw (st := s_TooMany___init__) 2 [] F fun _ _ _ _ _ _ us ws h1 h2 => match us, ws, h1, h2 with | [_, _], [], _, _ => rfl⟩
theorem ok_TooMany___init___kw_many (T : Tx K mg) : Xm P w K mg base 1 0 "TooMany" (He.ga K "TooMany") (sp_TooMany___init__ K) [] ["many"] := by
  obtain ⟨fd, F⟩ := T.f_TooMany___init__
  exact ⟨_, fd, ["self", "many"], [], T.xc "TooMany" (by decide), T.xi_TooMany, fo_TooMany___init__ T F, T.g_TooMany, .nil, bd_kw (st := s_TooMany___init__) 1 ["many"] F fun _ _ _ _ _ _ us ws h1 h2 => match us, ws, h1, h2 with | [_], [_], _, _ => rfl⟩
theorem sc_NoPlace___init__ : FnScope ["self", "at"] ["self", "at"] (defScope s_NoPlace___init__) := ⟨rfl, rfl, rfl, by decide +kernel, rfl, by decide +kernel, by decide +kernel⟩
def sp_NoPlace___init__ (K : PySem.W.Frag) : Sp := spOne (He.ga K "NoPlace") "at"
theorem fo_NoPlace___init__ (T : Tx K mg) {fd : FuncData} (F : FunD K "__init__" "NoPlace.__init__" (defArgs s_NoPlace___init__) (defBody s_NoPlace___init__) (defScope s_NoPlace___init__) [] [] (fa_NoPlace___init__ K) fd) : FnOk P w K mg base (L2.CX P w) 1 (fa_NoPlace___init__ K) fd ["self", "at"] (sp_NoPlace___init__ K) := by
  refine fn_mk F sc_NoPlace___init__ (fun vs H Q E h => ?len) (fun cdv A outer s H vs Q E hr h => ?body)
  case len =>
    obtain ⟨a, v, rfl, ha, q⟩ := h
    rfl
  case body =>
    have hu := hu_of hr
    obtain ⟨a, v, rfl, ha, q⟩ := h
    refine ⟨_, (pss_cons (ps_expr (pe_einit T.xb_AskedError rfl T.g_AskedError (pa_cons (pv 0) (pa_cons pe_str pa_nil))))
      (pss_one (ps_ost (pv 0) (pv 1) rfl))), ?_⟩
    have hc := T.xc "NoPlace" (by decide)
    repeat walk_at "s"
    refine ⟨a, _, [.str "no such place"], rfl, by decide, hc.o, ha, ?_⟩
    repeat walk_at "s"
    refine ⟨a, _, rfl, hc.o, T.na_NoPlace_at, .inl ⟨ha, fun dx hd ne => ?_⟩⟩
    exact q dx hd ne
theorem ok_NoPlace___init__ (T : Tx K mg) : Xm P w K mg base 1 1 "NoPlace" (He.ga K "NoPlace") (sp_NoPlace___init__ K) [] [] := by
  obtain ⟨fd, F⟩ := T.f_NoPlace___init__
  exact ⟨_, fd, ["self", "at"], [], T.xc "NoPlace" (by decide), T.xi_NoPlace, fo_NoPlace___init__ T F, T.g_NoPlace, .nil, bd_kw (st := s_NoPlace___init__) 2 [] F fun _ _ _ _ _ _ us ws h1 h2 => match us, ws, h1, h2 with | [_, _], [], _, _ => rfl⟩
theorem ok_NoPlace___init___kw_at (T : Tx K mg) : Xm P w K mg base 1 0 "NoPlace" (He.ga K "NoPlace") (sp_NoPlace___init__ K) [] ["at"] := by
  obtain ⟨fd, F⟩ := T.f_NoPlace___init__
  exact ⟨_, fd, ["self", "at"], [], T.xc "NoPlace" (by decide), T.xi_NoPlace, fo_NoPlace___init__ T F, T.g_NoPlace, .nil, bd_kw (st := s_NoPlace___init__) 1 ["at"] F fun _ _ _ _ _ _ us ws h1 h2 => match us, ws, h1, h2 with | [_], [_], _, _ => rfl⟩
theorem sc_NoLife___init__ : FnScope ["self", "who"] ["self", "who"] (defScope s_NoLife___init__) := ⟨rfl, rfl, rfl, by decide +kernel, rfl, by decide +kernel, by decide +kernel⟩
def sp_NoLife___init__ (K : PySem.W.Frag) : Sp := spOne (He.ga K "NoLife") "who"
theorem fo_NoLife___init__ (T : Tx K mg) {fd : FuncData} (F : FunD K "__init__" "NoLife.__init__" (defArgs s_NoLife___init__) (defBody s_NoLife___init__) (defScope s_NoLife___init__) [] [] (fa_NoLife___init__ K) fd) : FnOk P w K mg base (L2.CX P w) 1 (fa_NoLife___init__ K) fd ["self", "who"] (sp_NoLife___init__ K) := by
  refine fn_mk F sc_NoLife___init__ (fun vs H Q E h => ?len) (fun cdv A outer s H vs Q E hr h => ?body)
  case len =>
    obtain ⟨a, v, rfl, ha, q⟩ := h
    rfl
  case body =>
    have hu := hu_of hr
    obtain ⟨a, v, rfl, ha, q⟩ := h
    refine ⟨_, (pss_cons (ps_expr (pe_einit T.xb_AskedError rfl T.g_AskedError (pa_cons (pv 0) (pa_cons pe_str pa_nil))))
      (pss_one (ps_ost (pv 0) (pv 1) rfl))), ?_⟩
    have hc := T.xc "NoLife" (by decide)
    repeat walk_at "s"
    refine ⟨a, _, [.str "no such life"], rfl, by decide, hc.o, ha, ?_⟩
    repeat walk_at "s"
    refine ⟨a, _, rfl, hc.o, T.na_NoLife_who, .inl ⟨ha, fun dx hd ne => ?_⟩⟩
    exact q dx hd ne
theorem ok_NoLife___init__ (T : Tx K mg) : Xm P w K mg base 1 1 "NoLife" (He.ga K "NoLife") (sp_NoLife___init__ K) [] [] := by
  obtain ⟨fd, F⟩ := T.f_NoLife___init__
  exact ⟨_, fd, ["self", "who"], [], T.xc "NoLife" (by decide), T.xi_NoLife, fo_NoLife___init__ T F, T.g_NoLife, .nil, bd_kw (st := s_NoLife___init__) 2 [] F fun _ _ _ _ _ _ us ws h1 h2 => match us, ws, h1, h2 with | [_, _], [], _, _ => rfl⟩
theorem ok_NoLife___init___kw_who (T : Tx K mg) : Xm P w K mg base 1 0 "NoLife" (He.ga K "NoLife") (sp_NoLife___init__ K) [] ["who"] := by
  obtain ⟨fd, F⟩ := T.f_NoLife___init__
  exact ⟨_, fd, ["self", "who"], [], T.xc "NoLife" (by decide), T.xi_NoLife, fo_NoLife___init__ T F, T.g_NoLife, .nil, bd_kw (st := s_NoLife___init__) 1 ["who"] F fun _ _ _ _ _ _ us ws h1 h2 => match us, ws, h1, h2 with | [_], [_], _, _ => rfl⟩
theorem sc_NoReading___init__ : FnScope ["self", "number"] ["self", "number"] (defScope s_NoReading___init__) := ⟨rfl, rfl, rfl, by decide +kernel, rfl, by decide +kernel, by decide +kernel⟩
def sp_NoReading___init__ (K : PySem.W.Frag) : Sp := spOne (He.ga K "NoReading") "number"
theorem fo_NoReading___init__ (T : Tx K mg) {fd : FuncData} (F : FunD K "__init__" "NoReading.__init__" (defArgs s_NoReading___init__) (defBody s_NoReading___init__) (defScope s_NoReading___init__) [] [] (fa_NoReading___init__ K) fd) : FnOk P w K mg base (L2.CX P w) 1 (fa_NoReading___init__ K) fd ["self", "number"] (sp_NoReading___init__ K) := by
  refine fn_mk F sc_NoReading___init__ (fun vs H Q E h => ?len) (fun cdv A outer s H vs Q E hr h => ?body)
  case len =>
    obtain ⟨a, v, rfl, ha, q⟩ := h
    rfl
  case body =>
    have hu := hu_of hr
    obtain ⟨a, v, rfl, ha, q⟩ := h
    refine ⟨_, (pss_cons (ps_expr (pe_einit T.xb_AskedError rfl T.g_AskedError (pa_cons (pv 0) (pa_cons pe_str pa_nil))))
      (pss_one (ps_ost (pv 0) (pv 1) rfl))), ?_⟩
    have hc := T.xc "NoReading" (by decide)
    repeat walk_at "s"
    refine ⟨a, _, [.str "no such reading"], rfl, by decide, hc.o, ha, ?_⟩
    repeat walk_at "s"
    refine ⟨a, _, rfl, hc.o, T.na_NoReading_number, .inl ⟨ha, fun dx hd ne => ?_⟩⟩
    exact q dx hd ne
theorem ok_NoReading___init__ (T : Tx K mg) : Xm P w K mg base 1 1 "NoReading" (He.ga K "NoReading") (sp_NoReading___init__ K) [] [] := by
  obtain ⟨fd, F⟩ := T.f_NoReading___init__
  exact ⟨_, fd, ["self", "number"], [], T.xc "NoReading" (by decide), T.xi_NoReading, fo_NoReading___init__ T F, T.g_NoReading, .nil, bd_kw (st := s_NoReading___init__) 2 [] F fun _ _ _ _ _ _ us ws h1 h2 => match us, ws, h1, h2 with | [_, _], [], _, _ => rfl⟩
theorem ok_NoReading___init___kw_number (T : Tx K mg) : Xm P w K mg base 1 0 "NoReading" (He.ga K "NoReading") (sp_NoReading___init__ K) [] ["number"] := by
  obtain ⟨fd, F⟩ := T.f_NoReading___init__
  exact ⟨_, fd, ["self", "number"], [], T.xc "NoReading" (by decide), T.xi_NoReading, fo_NoReading___init__ T F, T.g_NoReading, .nil, bd_kw (st := s_NoReading___init__) 1 ["number"] F fun _ _ _ _ _ _ us ws h1 h2 => match us, ws, h1, h2 with | [_], [_], _, _ => rfl⟩
theorem sc_Held___init__ : FnScope ["self", "who"] ["self", "who"] (defScope s_Held___init__) := ⟨rfl, rfl, rfl, by decide +kernel, rfl, by decide +kernel, by decide +kernel⟩
def sp_Held___init__ (K : PySem.W.Frag) : Sp := spOne (He.ga K "Held") "who"
theorem fo_Held___init__ (T : Tx K mg) {fd : FuncData} (F : FunD K "__init__" "Held.__init__" (defArgs s_Held___init__) (defBody s_Held___init__) (defScope s_Held___init__) [] [] (fa_Held___init__ K) fd) : FnOk P w K mg base (L2.CX P w) 1 (fa_Held___init__ K) fd ["self", "who"] (sp_Held___init__ K) := by
  refine fn_mk F sc_Held___init__ (fun vs H Q E h => ?len) (fun cdv A outer s H vs Q E hr h => ?body)
  case len =>
    obtain ⟨a, v, rfl, ha, q⟩ := h
    rfl
  case body =>
    have hu := hu_of hr
    obtain ⟨a, v, rfl, ha, q⟩ := h
    refine ⟨_, (pss_cons (ps_expr (pe_einit T.xb_AskedError rfl T.g_AskedError (pa_cons (pv 0) (pa_cons pe_str pa_nil))))
      (pss_one (ps_ost (pv 0) (pv 1) rfl))), ?_⟩
    have hc := T.xc "Held" (by decide)
    repeat walk_at "s"
    refine ⟨a, _, [.str "held"], rfl, by decide, hc.o, ha, ?_⟩
    repeat walk_at "s"
    refine ⟨a, _, rfl, hc.o, T.na_Held_who, .inl ⟨ha, fun dx hd ne => ?_⟩⟩
    exact q dx hd ne
theorem ok_Held___init__ (T : Tx K mg) : Xm P w K mg base 1 1 "Held" (He.ga K "Held") (sp_Held___init__ K) [] [] := by
  obtain ⟨fd, F⟩ := T.f_Held___init__
  exact ⟨_, fd, ["self", "who"], [], T.xc "Held" (by decide), T.xi_Held, fo_Held___init__ T F, T.g_Held, .nil, bd_kw (st := s_Held___init__) 2 [] F fun _ _ _ _ _ _ us ws h1 h2 => match us, ws, h1, h2 with | [_, _], [], _, _ => rfl⟩
theorem ok_Held___init___kw_who (T : Tx K mg) : Xm P w K mg base 1 0 "Held" (He.ga K "Held") (sp_Held___init__ K) [] ["who"] := by
  obtain ⟨fd, F⟩ := T.f_Held___init__
  exact ⟨_, fd, ["self", "who"], [], T.xc "Held" (by decide), T.xi_Held, fo_Held___init__ T F, T.g_Held, .nil, bd_kw (st := s_Held___init__) 1 ["who"] F fun _ _ _ _ _ _ us ws h1 h2 => match us, ws, h1, h2 with | [_], [_], _, _ => rfl⟩
theorem sc_Trimmed___init__ : FnScope ["self", "at"] ["self", "at"] (defScope s_Trimmed___init__) := ⟨rfl, rfl, rfl, by decide +kernel, rfl, by decide +kernel, by decide +kernel⟩
def sp_Trimmed___init__ (K : PySem.W.Frag) : Sp := spOne (He.ga K "Trimmed") "at"
theorem fo_Trimmed___init__ (T : Tx K mg) {fd : FuncData} (F : FunD K "__init__" "Trimmed.__init__" (defArgs s_Trimmed___init__) (defBody s_Trimmed___init__) (defScope s_Trimmed___init__) [] [] (fa_Trimmed___init__ K) fd) : FnOk P w K mg base (L2.CX P w) 1 (fa_Trimmed___init__ K) fd ["self", "at"] (sp_Trimmed___init__ K) := by
  refine fn_mk F sc_Trimmed___init__ (fun vs H Q E h => ?len) (fun cdv A outer s H vs Q E hr h => ?body)
  case len =>
    obtain ⟨a, v, rfl, ha, q⟩ := h
    rfl
  case body =>
    have hu := hu_of hr
    obtain ⟨a, v, rfl, ha, q⟩ := h
    refine ⟨_, (pss_cons (ps_expr (pe_einit T.xb_AskedError rfl T.g_AskedError (pa_cons (pv 0) (pa_cons pe_str pa_nil))))
      (pss_one (ps_ost (pv 0) (pv 1) rfl))), ?_⟩
    have hc := T.xc "Trimmed" (by decide)
    repeat walk_at "s"
    refine ⟨a, _, [.str "trimmed"], rfl, by decide, hc.o, ha, ?_⟩
    repeat walk_at "s"
    refine ⟨a, _, rfl, hc.o, T.na_Trimmed_at, .inl ⟨ha, fun dx hd ne => ?_⟩⟩
    exact q dx hd ne
theorem ok_Trimmed___init__ (T : Tx K mg) : Xm P w K mg base 1 1 "Trimmed" (He.ga K "Trimmed") (sp_Trimmed___init__ K) [] [] := by
  obtain ⟨fd, F⟩ := T.f_Trimmed___init__
  exact ⟨_, fd, ["self", "at"], [], T.xc "Trimmed" (by decide), T.xi_Trimmed, fo_Trimmed___init__ T F, T.g_Trimmed, .nil, bd_kw (st := s_Trimmed___init__) 2 [] F fun _ _ _ _ _ _ us ws h1 h2 => match us, ws, h1, h2 with | [_, _], [], _, _ => rfl⟩
theorem ok_Trimmed___init___kw_at (T : Tx K mg) : Xm P w K mg base 1 0 "Trimmed" (He.ga K "Trimmed") (sp_Trimmed___init__ K) [] ["at"] := by
  obtain ⟨fd, F⟩ := T.f_Trimmed___init__
  exact ⟨_, fd, ["self", "at"], [], T.xc "Trimmed" (by decide), T.xi_Trimmed, fo_Trimmed___init__ T F, T.g_Trimmed, .nil, bd_kw (st := s_Trimmed___init__) 1 ["at"] F fun _ _ _ _ _ _ us ws h1 h2 => match us, ws, h1, h2 with | [_], [_], _, _ => rfl⟩
theorem sc_Waits___init__ : FnScope ["self", "number"] ["self", "number"] (defScope s_Waits___init__) := ⟨rfl, rfl, rfl, by decide +kernel, rfl, by decide +kernel, by decide +kernel⟩
def sp_Waits___init__ (K : PySem.W.Frag) : Sp := spOne (He.ga K "Waits") "number"
theorem fo_Waits___init__ (T : Tx K mg) {fd : FuncData} (F : FunD K "__init__" "Waits.__init__" (defArgs s_Waits___init__) (defBody s_Waits___init__) (defScope s_Waits___init__) [] [] (fa_Waits___init__ K) fd) : FnOk P w K mg base (L2.CX P w) 1 (fa_Waits___init__ K) fd ["self", "number"] (sp_Waits___init__ K) := by
  refine fn_mk F sc_Waits___init__ (fun vs H Q E h => ?len) (fun cdv A outer s H vs Q E hr h => ?body)
  case len =>
    obtain ⟨a, v, rfl, ha, q⟩ := h
    rfl
  case body =>
    have hu := hu_of hr
    obtain ⟨a, v, rfl, ha, q⟩ := h
    refine ⟨_, (pss_cons (ps_expr (pe_einit T.xb_AskedError rfl T.g_AskedError (pa_cons (pv 0) (pa_cons pe_str pa_nil))))
      (pss_one (ps_ost (pv 0) (pv 1) rfl))), ?_⟩
    have hc := T.xc "Waits" (by decide)
    repeat walk_at "s"
    refine ⟨a, _, [.str "it waits"], rfl, by decide, hc.o, ha, ?_⟩
    repeat walk_at "s"
    refine ⟨a, _, rfl, hc.o, T.na_Waits_number, .inl ⟨ha, fun dx hd ne => ?_⟩⟩
    exact q dx hd ne
theorem ok_Waits___init__ (T : Tx K mg) : Xm P w K mg base 1 1 "Waits" (He.ga K "Waits") (sp_Waits___init__ K) [] [] := by
  obtain ⟨fd, F⟩ := T.f_Waits___init__
  exact ⟨_, fd, ["self", "number"], [], T.xc "Waits" (by decide), T.xi_Waits, fo_Waits___init__ T F, T.g_Waits, .nil, bd_kw (st := s_Waits___init__) 2 [] F fun _ _ _ _ _ _ us ws h1 h2 => match us, ws, h1, h2 with | [_, _], [], _, _ => rfl⟩
theorem ok_Waits___init___kw_number (T : Tx K mg) : Xm P w K mg base 1 0 "Waits" (He.ga K "Waits") (sp_Waits___init__ K) [] ["number"] := by
  obtain ⟨fd, F⟩ := T.f_Waits___init__
  exact ⟨_, fd, ["self", "number"], [], T.xc "Waits" (by decide), T.xi_Waits, fo_Waits___init__ T F, T.g_Waits, .nil, bd_kw (st := s_Waits___init__) 1 ["number"] F fun _ _ _ _ _ _ us ws h1 h2 => match us, ws, h1, h2 with | [_], [_], _, _ => rfl⟩
theorem sc_NotAsked___init__ : FnScope ["self", "number"] ["self", "number"] (defScope s_NotAsked___init__) := ⟨rfl, rfl, rfl, by decide +kernel, rfl, by decide +kernel, by decide +kernel⟩
def sp_NotAsked___init__ (K : PySem.W.Frag) : Sp := spOne (He.ga K "NotAsked") "number"
theorem fo_NotAsked___init__ (T : Tx K mg) {fd : FuncData} (F : FunD K "__init__" "NotAsked.__init__" (defArgs s_NotAsked___init__) (defBody s_NotAsked___init__) (defScope s_NotAsked___init__) [] [] (fa_NotAsked___init__ K) fd) : FnOk P w K mg base (L2.CX P w) 1 (fa_NotAsked___init__ K) fd ["self", "number"] (sp_NotAsked___init__ K) := by
  refine fn_mk F sc_NotAsked___init__ (fun vs H Q E h => ?len) (fun cdv A outer s H vs Q E hr h => ?body)
  case len =>
    obtain ⟨a, v, rfl, ha, q⟩ := h
    rfl
  case body =>
    have hu := hu_of hr
    obtain ⟨a, v, rfl, ha, q⟩ := h
    refine ⟨_, (pss_cons (ps_expr (pe_einit T.xb_AskedError rfl T.g_AskedError (pa_cons (pv 0) (pa_cons pe_str pa_nil))))
      (pss_one (ps_ost (pv 0) (pv 1) rfl))), ?_⟩
    have hc := T.xc "NotAsked" (by decide)
    repeat walk_at "s"
    refine ⟨a, _, [.str "not asked for"], rfl, by decide, hc.o, ha, ?_⟩
    repeat walk_at "s"
    refine ⟨a, _, rfl, hc.o, T.na_NotAsked_number, .inl ⟨ha, fun dx hd ne => ?_⟩⟩
    exact q dx hd ne
theorem ok_NotAsked___init__ (T : Tx K mg) : Xm P w K mg base 1 1 "NotAsked" (He.ga K "NotAsked") (sp_NotAsked___init__ K) [] [] := by
  obtain ⟨fd, F⟩ := T.f_NotAsked___init__
  exact ⟨_, fd, ["self", "number"], [], T.xc "NotAsked" (by decide), T.xi_NotAsked, fo_NotAsked___init__ T F, T.g_NotAsked, .nil, bd_kw (st := s_NotAsked___init__) 2 [] F fun _ _ _ _ _ _ us ws h1 h2 => match us, ws, h1, h2 with | [_, _], [], _, _ => rfl⟩
theorem ok_NotAsked___init___kw_number (T : Tx K mg) : Xm P w K mg base 1 0 "NotAsked" (He.ga K "NotAsked") (sp_NotAsked___init__ K) [] ["number"] := by
  obtain ⟨fd, F⟩ := T.f_NotAsked___init__
  exact ⟨_, fd, ["self", "number"], [], T.xc "NotAsked" (by decide), T.xi_NotAsked, fo_NotAsked___init__ T F, T.g_NotAsked, .nil, bd_kw (st := s_NotAsked___init__) 1 ["number"] F fun _ _ _ _ _ _ us ws h1 h2 => match us, ws, h1, h2 with | [_], [_], _, _ => rfl⟩
theorem sc_NoKey___init__ : FnScope ["self", "key"] ["self", "key"] (defScope s_NoKey___init__) := ⟨rfl, rfl, rfl, by decide +kernel, rfl, by decide +kernel, by decide +kernel⟩
def sp_NoKey___init__ (K : PySem.W.Frag) : Sp := spOne (He.ga K "NoKey") "key"
theorem fo_NoKey___init__ (T : Tx K mg) {fd : FuncData} (F : FunD K "__init__" "NoKey.__init__" (defArgs s_NoKey___init__) (defBody s_NoKey___init__) (defScope s_NoKey___init__) [] [] (fa_NoKey___init__ K) fd) : FnOk P w K mg base (L2.CX P w) 1 (fa_NoKey___init__ K) fd ["self", "key"] (sp_NoKey___init__ K) := by
  refine fn_mk F sc_NoKey___init__ (fun vs H Q E h => ?len) (fun cdv A outer s H vs Q E hr h => ?body)
  case len =>
    obtain ⟨a, v, rfl, ha, q⟩ := h
    rfl
  case body =>
    have hu := hu_of hr
    obtain ⟨a, v, rfl, ha, q⟩ := h
    refine ⟨_, (pss_cons (ps_expr (pe_einit T.xb_AskedError rfl T.g_AskedError (pa_cons (pv 0) (pa_cons pe_str pa_nil))))
      (pss_one (ps_ost (pv 0) (pv 1) rfl))), ?_⟩
    have hc := T.xc "NoKey" (by decide)
    repeat walk_at "s"
    refine ⟨a, _, [.str "no key"], rfl, by decide, hc.o, ha, ?_⟩
    repeat walk_at "s"
    refine ⟨a, _, rfl, hc.o, T.na_NoKey_key, .inl ⟨ha, fun dx hd ne => ?_⟩⟩
    exact q dx hd ne
theorem ok_NoKey___init__ (T : Tx K mg) : Xm P w K mg base 1 1 "NoKey" (He.ga K "NoKey") (sp_NoKey___init__ K) [] [] := by
  obtain ⟨fd, F⟩ := T.f_NoKey___init__
  exact ⟨_, fd, ["self", "key"], [], T.xc "NoKey" (by decide), T.xi_NoKey, fo_NoKey___init__ T F, T.g_NoKey, .nil, bd_kw (st := s_NoKey___init__) 2 [] F fun _ _ _ _ _ _ us ws h1 h2 => match us, ws, h1, h2 with | [_, _], [], _, _ => rfl⟩
theorem ok_NoKey___init___kw_key (T : Tx K mg) : Xm P w K mg base 1 0 "NoKey" (He.ga K "NoKey") (sp_NoKey___init__ K) [] ["key"] := by
  obtain ⟨fd, F⟩ := T.f_NoKey___init__
  exact ⟨_, fd, ["self", "key"], [], T.xc "NoKey" (by decide), T.xi_NoKey, fo_NoKey___init__ T F, T.g_NoKey, .nil, bd_kw (st := s_NoKey___init__) 1 ["key"] F fun _ _ _ _ _ _ us ws h1 h2 => match us, ws, h1, h2 with | [_], [_], _, _ => rfl⟩
theorem sc_NotSure___init__ : FnScope ["self", "key"] ["self", "key"] (defScope s_NotSure___init__) := ⟨rfl, rfl, rfl, by decide +kernel, rfl, by decide +kernel, by decide +kernel⟩
def sp_NotSure___init__ (K : PySem.W.Frag) : Sp := spOne (He.ga K "NotSure") "key"
theorem fo_NotSure___init__ (T : Tx K mg) {fd : FuncData} (F : FunD K "__init__" "NotSure.__init__" (defArgs s_NotSure___init__) (defBody s_NotSure___init__) (defScope s_NotSure___init__) [] [] (fa_NotSure___init__ K) fd) : FnOk P w K mg base (L2.CX P w) 1 (fa_NotSure___init__ K) fd ["self", "key"] (sp_NotSure___init__ K) := by
  refine fn_mk F sc_NotSure___init__ (fun vs H Q E h => ?len) (fun cdv A outer s H vs Q E hr h => ?body)
  case len =>
    obtain ⟨a, v, rfl, ha, q⟩ := h
    rfl
  case body =>
    have hu := hu_of hr
    obtain ⟨a, v, rfl, ha, q⟩ := h
    refine ⟨_, (pss_cons (ps_expr (pe_einit T.xb_AskedError rfl T.g_AskedError (pa_cons (pv 0) (pa_cons pe_str pa_nil))))
      (pss_one (ps_ost (pv 0) (pv 1) rfl))), ?_⟩
    have hc := T.xc "NotSure" (by decide)
    repeat walk_at "s"
    refine ⟨a, _, [.str "not sure"], rfl, by decide, hc.o, ha, ?_⟩
    repeat walk_at "s"
    refine ⟨a, _, rfl, hc.o, T.na_NotSure_key, .inl ⟨ha, fun dx hd ne => ?_⟩⟩
    exact q dx hd ne
theorem ok_NotSure___init__ (T : Tx K mg) : Xm P w K mg base 1 1 "NotSure" (He.ga K "NotSure") (sp_NotSure___init__ K) [] [] := by
  obtain ⟨fd, F⟩ := T.f_NotSure___init__
  exact ⟨_, fd, ["self", "key"], [], T.xc "NotSure" (by decide), T.xi_NotSure, fo_NotSure___init__ T F, T.g_NotSure, .nil, bd_kw (st := s_NotSure___init__) 2 [] F fun _ _ _ _ _ _ us ws h1 h2 => match us, ws, h1, h2 with | [_, _], [], _, _ => rfl⟩
theorem ok_NotSure___init___kw_key (T : Tx K mg) : Xm P w K mg base 1 0 "NotSure" (He.ga K "NotSure") (sp_NotSure___init__ K) [] ["key"] := by
  obtain ⟨fd, F⟩ := T.f_NotSure___init__
  exact ⟨_, fd, ["self", "key"], [], T.xc "NotSure" (by decide), T.xi_NotSure, fo_NotSure___init__ T F, T.g_NotSure, .nil, bd_kw (st := s_NotSure___init__) 1 ["key"] F fun _ _ _ _ _ _ us ws h1 h2 => match us, ws, h1, h2 with | [_], [_], _, _ => rfl⟩
theorem sc_NoTaker___init__ : FnScope ["self", "name"] ["self", "name"] (defScope s_NoTaker___init__) := ⟨rfl, rfl, rfl, by decide +kernel, rfl, by decide +kernel, by decide +kernel⟩
def sp_NoTaker___init__ (K : PySem.W.Frag) : Sp := spOne (He.ga K "NoTaker") "name"
theorem fo_NoTaker___init__ (T : Tx K mg) {fd : FuncData} (F : FunD K "__init__" "NoTaker.__init__" (defArgs s_NoTaker___init__) (defBody s_NoTaker___init__) (defScope s_NoTaker___init__) [] [] (fa_NoTaker___init__ K) fd) : FnOk P w K mg base (L2.CX P w) 1 (fa_NoTaker___init__ K) fd ["self", "name"] (sp_NoTaker___init__ K) := by
  refine fn_mk F sc_NoTaker___init__ (fun vs H Q E h => ?len) (fun cdv A outer s H vs Q E hr h => ?body)
  case len =>
    obtain ⟨a, v, rfl, ha, q⟩ := h
    rfl
  case body =>
    have hu := hu_of hr
    obtain ⟨a, v, rfl, ha, q⟩ := h
    refine ⟨_, (pss_cons (ps_expr (pe_einit T.xb_AskedError rfl T.g_AskedError (pa_cons (pv 0) (pa_cons pe_str pa_nil))))
      (pss_one (ps_ost (pv 0) (pv 1) rfl))), ?_⟩
    have hc := T.xc "NoTaker" (by decide)
    repeat walk_at "s"
    refine ⟨a, _, [.str "no such taker"], rfl, by decide, hc.o, ha, ?_⟩
    repeat walk_at "s"
    refine ⟨a, _, rfl, hc.o, T.na_NoTaker_name, .inl ⟨ha, fun dx hd ne => ?_⟩⟩
    exact q dx hd ne
theorem ok_NoTaker___init__ (T : Tx K mg) : Xm P w K mg base 1 1 "NoTaker" (He.ga K "NoTaker") (sp_NoTaker___init__ K) [] [] := by
  obtain ⟨fd, F⟩ := T.f_NoTaker___init__
  exact ⟨_, fd, ["self", "name"], [], T.xc "NoTaker" (by decide), T.xi_NoTaker, fo_NoTaker___init__ T F, T.g_NoTaker, .nil, bd_kw (st := s_NoTaker___init__) 2 [] F fun _ _ _ _ _ _ us ws h1 h2 => match us, ws, h1, h2 with | [_, _], [], _, _ => rfl⟩
theorem ok_NoTaker___init___kw_name (T : Tx K mg) : Xm P w K mg base 1 0 "NoTaker" (He.ga K "NoTaker") (sp_NoTaker___init__ K) [] ["name"] := by
  obtain ⟨fd, F⟩ := T.f_NoTaker___init__
  exact ⟨_, fd, ["self", "name"], [], T.xc "NoTaker" (by decide), T.xi_NoTaker, fo_NoTaker___init__ T F, T.g_NoTaker, .nil, bd_kw (st := s_NoTaker___init__) 1 ["name"] F fun _ _ _ _ _ _ us ws h1 h2 => match us, ws, h1, h2 with | [_], [_], _, _ => rfl⟩
theorem sc_NotOnWire___init__ : FnScope ["self", "number"] ["self", "number"] (defScope s_NotOnWire___init__) := ⟨rfl, rfl, rfl, by decide +kernel, rfl, by decide +kernel, by decide +kernel⟩
def sp_NotOnWire___init__ (K : PySem.W.Frag) : Sp := spOne (He.ga K "NotOnWire") "number"
theorem fo_NotOnWire___init__ (T : Tx K mg) {fd : FuncData} (F : FunD K "__init__" "NotOnWire.__init__" (defArgs s_NotOnWire___init__) (defBody s_NotOnWire___init__) (defScope s_NotOnWire___init__) [] [] (fa_NotOnWire___init__ K) fd) : FnOk P w K mg base (L2.CX P w) 1 (fa_NotOnWire___init__ K) fd ["self", "number"] (sp_NotOnWire___init__ K) := by
  refine fn_mk F sc_NotOnWire___init__ (fun vs H Q E h => ?len) (fun cdv A outer s H vs Q E hr h => ?body)
  case len =>
    obtain ⟨a, v, rfl, ha, q⟩ := h
    rfl
  case body =>
    have hu := hu_of hr
    obtain ⟨a, v, rfl, ha, q⟩ := h
    refine ⟨_, (pss_cons (ps_expr (pe_einit T.xb_AskedError rfl T.g_AskedError (pa_cons (pv 0) (pa_cons pe_str pa_nil))))
      (pss_one (ps_ost (pv 0) (pv 1) rfl))), ?_⟩
    have hc := T.xc "NotOnWire" (by decide)
    repeat walk_at "s"
    refine ⟨a, _, [.str "not on the wire"], rfl, by decide, hc.o, ha, ?_⟩
    repeat walk_at "s"
    refine ⟨a, _, rfl, hc.o, T.na_NotOnWire_number, .inl ⟨ha, fun dx hd ne => ?_⟩⟩
    exact q dx hd ne
theorem ok_NotOnWire___init__ (T : Tx K mg) : Xm P w K mg base 1 1 "NotOnWire" (He.ga K "NotOnWire") (sp_NotOnWire___init__ K) [] [] := by
  obtain ⟨fd, F⟩ := T.f_NotOnWire___init__
  exact ⟨_, fd, ["self", "number"], [], T.xc "NotOnWire" (by decide), T.xi_NotOnWire, fo_NotOnWire___init__ T F, T.g_NotOnWire, .nil, bd_kw (st := s_NotOnWire___init__) 2 [] F fun _ _ _ _ _ _ us ws h1 h2 => match us, ws, h1, h2 with | [_, _], [], _, _ => rfl⟩
theorem ok_NotOnWire___init___kw_number (T : Tx K mg) : Xm P w K mg base 1 0 "NotOnWire" (He.ga K "NotOnWire") (sp_NotOnWire___init__ K) [] ["number"] := by
  obtain ⟨fd, F⟩ := T.f_NotOnWire___init__
  exact ⟨_, fd, ["self", "number"], [], T.xc "NotOnWire" (by decide), T.xi_NotOnWire, fo_NotOnWire___init__ T F, T.g_NotOnWire, .nil, bd_kw (st := s_NotOnWire___init__) 1 ["number"] F fun _ _ _ _ _ _ us ws h1 h2 => match us, ws, h1, h2 with | [_], [_], _, _ => rfl⟩
end
end T

set_option maxHeartbeats 4000000
namespace T
open PySem PySem.Spec PyProof.Rows L2
local macro_rules | `(tactic| walk_at "dp") => `(tactic| first | assumption | exact Dt.dp (by assumption) | exact Dp.int _ | exact Dp.str _ | exact Dp.non | exact Dp.bl _ | (refine dpm (by assumption) ?_; walk_at "dp"))
local macro_rules | `(tactic| walk_at "ix") => `(tactic| first | rfl | decide | assumption)
local macro_rules | `(tactic| walk_at "sm") => `(tactic| first | assumption | exact Same.refl _ | exact Same.trans (by assumption) (by assumption) | (refine Same.trans ?_ (by assumption); walk_at "sm"))
local macro_rules | `(tactic| walk_at "fv") => `(tactic| (intro u hu; (first | obtain rfl := dp_int hu | obtain rfl := dp_str hu | obtain rfl := dp_non hu | obtain rfl := dp_bl hu | skip)))
local macro_rules | `(tactic| walk_at "few") => `(tactic| (simp only [List.length_append, List.length_cons, List.length_nil, sizeLine_eq] <;> omega))
local macro_rules | `(tactic| walk_at "st") => `(tactic| (simp only [L2.start, L2.wipe, List.map_cons, List.map_nil, List.length_cons, List.length_nil, List.replicate_succ, List.replicate_zero, List.cons_append, List.nil_append, List.set_cons_succ, List.set_cons_zero, Nat.reduceAdd, Nat.reduceSub] <;> rfl))
local macro_rules | `(tactic| walk_at "s") => `(tactic| first
  | with_reducible refine x_seq ?_
  | with_reducible refine x_asg ?_
  | with_reducible refine x_nameE (by walk_at "st") ?_
  | with_reducible refine x_ifS ?_
  | with_reducible refine x_ret ?_
  | with_reducible refine x_drop ?_
  | with_reducible refine x_op ?_
  | with_reducible refine x_un ?_
  | with_reducible refine x_test ?_
  | with_reducible refine x_B ?_
  | with_reducible refine x_and ?_
  | with_reducible refine x_or ?_
  | with_reducible refine x_not ?_
  | with_reducible refine x_andV ?_
  | with_reducible refine x_orV ?_
  | with_reducible refine x_notV ?_
  | with_reducible refine x_if ?_
  | with_reducible refine x_chain ?_
  | with_reducible refine x_CB ?_
  | with_reducible refine x_nil ?_
  | with_reducible refine x_cons ?_
  | with_reducible refine x_call ?_
  | with_reducible refine x_tup ?_
  | with_reducible refine x_lst ?_
  | with_reducible refine x_sl ?_
  | with_reducible refine x_noPart ?_
  | with_reducible refine x_part ?_
  | with_reducible refine x_c ?_
  | with_reducible refine x_retN ?_
  | with_reducible refine x_next ?_
  | with_reducible refine x_dget ?_
  | with_reducible refine x_din ?_
  | with_reducible refine x_dnotin ?_
  | with_reducible refine x_dput ?_
  | with_reducible refine x_dpop2 ?_
  | with_reducible refine x_dpop1 ?_
  | with_reducible refine x_dget2 ?_
  | with_reducible refine x_iTup ?_
  | with_reducible refine x_iList ?_
  | with_reducible refine x_iRng1 ?_
  | with_reducible refine x_iRng2 ?_
  | with_reducible refine x_iZip ?_
  | with_reducible refine x_lc ?_
  | with_reducible refine x_yes ?_
  | with_reducible refine x_for ?_
  | with_reducible refine x_gCons ?_
  | with_reducible refine x_gNil ?_
  | with_reducible refine x_mk0 ?_
  | with_reducible refine x_xm ?_
  | with_reducible refine x_xm0 ?_
  | with_reducible refine x_xmK ?_
  | with_reducible refine x_vei ?_
  | with_reducible refine x_ost ?_
  | with_reducible refine x_xfl ?_
  | with_reducible refine x_gSub ?_
  | ((with_reducible show L2.rSetL (V.ref _) (V.int _) _ _ _); refine x_put (by assumption) (by rfl) ?_)
  | with_reducible refine x_I0 ?_
  | with_reducible refine x_eqI ?_
  | with_reducible refine x_neI ?_
  | with_reducible refine x_eqS ?_
  | with_reducible refine x_neS ?_
  | with_reducible refine x_isN ?_
  | with_reducible refine x_notN ?_
  | ((with_reducible show tVar _ _ _ _); refine x_var rfl ?_)
  | ((with_reducible show wipe _ _ = wipe _ _ ∧ _); refine ⟨rfl, ?_⟩)
  | ((with_reducible show rIsi _ [_, V.ty "int"] _ _); refine x_isi (by walk_at "dp") (k_int _) ?_)
  | ((with_reducible show rIsi _ [_, V.ty "bool"] _ _); refine x_isi (by walk_at "dp") (k_bool _) ?_)
  | ((with_reducible show rIsi _ [_, V.ty "tuple"] _ _); refine x_isi (by walk_at "dp") (k_tup _) ?_)
  | ((with_reducible show rIsi _ [_, V.ty "str"] _ _); refine x_isi (by walk_at "dp") (k_str _) ?_)
  | ((with_reducible show rLen _ [_] _ _); (first | refine x_len_t (by walk_at "dp") ?_ | refine x_len_l (by walk_at "dp") ?_ | refine x_len_L (by assumption) ?_))
  | ((with_reducible show rIxT _ _ (V.int _) _ _); (refine x_ixT (by walk_at "dp") (by walk_at "ix") ?_; walk_at "fv"))
  | ((with_reducible show rIxL _ (V.ref _) (V.int _) _ _); (refine x_ixL (by assumption) (by walk_at "ix") ?_))
  | ((with_reducible show ∃ _, _ = V.bl _ ∧ _); refine ⟨_, rfl, ?_⟩)
  | ((with_reducible show ∃ k, V.bl _ = V.bl k ∧ _); refine ⟨_, rfl, ?_⟩)
  | ((with_reducible show ∃ k, V.int _ = V.int k ∧ _); refine ⟨_, rfl, ?_⟩)
  | ((with_reducible show if true = true then _ else _); refine iteT ?_)
  | ((with_reducible show if false = true then _ else _); refine iteF ?_)
  | ((with_reducible show if _ = true then _ else _); (first | refine ite_t (by assumption) ?_ | refine ite_f (by assumption) ?_ | refine ite_t (by rfl) ?_ | refine ite_f (by rfl) ?_))
  | dsimp only)
section
variable {P : Program} {w : World} {K : PySem.W.Frag} {mg : Str → Option Value} {base : Heap}
end
theorem drew_put {H : Hp} {b : Addr} {x y x' y' : Int} (h : H b = some (.lst [.int x, .int y])) (h1 : 0 ≤ x') (h2 : 0 ≤ y') (h3 : y' < 2147483648) : Drew b H (upd H b (.lst [.int x', .int y'])) :=
  ⟨fun a o e n => by rw [upd_ne n]; exact e, ⟨x', y', upd_same, h1, h2, h3⟩⟩
theorem at_ints {ns : List Int} {k : Nat} (h : k < ns.length) : ∃ i : Int, atI (ns.map V.int) (k : Int) = some (.int i) := by
  refine ⟨ns[k], ?_⟩
  unfold atI ixN
  rw [List.length_map, if_pos (by omega), if_pos (by omega)]
  simp [h]
theorem bag_new {H : Hp} {l : Addr} {x y : Int} (h1 : 0 ≤ x) (h2 : 0 ≤ y) (h3 : y < 2147483648) : Bag (upd H l (.lst [.int x, .int y])) l := ⟨x, y, upd_same, h1, h2, h3⟩
theorem abs_nn (i : Int) : 0 ≤ (if i < 0 then -i else i) := by split <;> omega
section
variable {P : Program} {w : World} {K : PySem.W.Frag} {mg : Str → Option Value} {base : Heap}
theorem sc__law_bag : FnScope ["script", "k", "cell"] ["script", "k"] (defScope s__law_bag) := ⟨rfl, rfl, rfl, by decide +kernel, rfl, by decide +kernel, by decide +kernel⟩
def sp__law_bag (K : PySem.W.Frag) : Sp := fun vs H Q _ => ∃ (a : Addr) (ns : List Int) (k : Nat), vs = [.ref a, .int k] ∧ SqL K H a (ns.map V.int) ∧ k ≤ 1000 ∧ ∀ l H', Same H H' → H l = none → Bag H' l → Q (.ref l) H'
theorem fo__law_bag (T : Tx K mg) {fd : FuncData} (F : FunD K "_law_bag" "_law_bag" (defArgs s__law_bag) (defBody s__law_bag) (defScope s__law_bag) [] [] (fa__law_bag K) fd) : FnOk P w K mg base (L2.CX P w) 1 (fa__law_bag K) fd ["script", "k"] (sp__law_bag K) := by
  refine fn_mk F sc__law_bag (fun vs H Q E h => ?len) (fun cdv A outer s H vs Q E hr h => ?body)
  case len =>
    obtain ⟨a, ns, k, rfl, hs, hk, q⟩ := h
    rfl
  case body =>
    have hu := hu_of hr
    obtain ⟨a, ns, k, rfl, hs, hk, q⟩ := h
    refine ⟨_, (pss_cons (ps_set (i := 2) sc__law_bag.nd rfl (by first | exact Or.inl rfl | exact Or.inr rfl) pe_int)
      (pss_cons (ps_if (pt_cmpR op_lt (pv 1) (pe_callB (call_lenQ (K := K) rfl) (by rfl) T.z_len bt_len (pa_cons (pv 0) pa_nil)) (nomark _)) (pss_one (ps_set (i := 2) sc__law_bag.nd rfl (by first | exact Or.inl rfl | exact Or.inr rfl) (pe_callB call_abs_ (by rfl) T.z_abs bt_abs (pa_cons (pe_ix (ix_list_ (K := K) rfl) (pv 0) (pv 1) (fun _ _ => rfl)) pa_nil)))) pss_nil)
      (pss_cons (ps_if (pt_cmpR op_lt (pv 2) (pe_op op_pow pe_int pe_int) (nomark _)) (pss_one (ps_ret (pe_lst (pa_cons pe_int (pa_cons (pe_op op_add pe_int (pe_op op_modN (pe_op op_add (pe_op op_mul (pv 2) pe_int) (pe_op op_mul pe_int (pv 1))) pe_int)) pa_nil))))) pss_nil)
      (pss_one (ps_ret (pe_lst (pa_cons (pv 2) (pa_cons (pe_op op_add pe_int (pe_op op_modN (pe_op op_add (pv 2) (pv 1)) pe_int)) pa_nil)))))))), ?_⟩
    repeat walk_at "s"
    refine ite_b (fun e => ?_) (fun e => ?_)
    · have e1 : (k : Int) < (ns.map V.int).length := of_decide_eq_true e
      rw [List.length_map] at e1
      obtain ⟨i, hi⟩ := at_ints (ns := ns) (k := k) (by omega)
      repeat walk_at "s"
      refine ⟨i, rfl, ?_⟩
      repeat walk_at "s"
      refine x_I ⟨by decide, by decide, by decide⟩ ?_
      repeat walk_at "s"
      refine ite_b (fun e => ?_) (fun e => ?_)
      · have e2 := of_decide_eq_true e
        have nn := abs_nn i
        repeat walk_at "s"
        refine x_I (.inr ⟨by decide, by decide⟩) ?_
        repeat walk_at "s"
        refine x_I (.inl ⟨by decide, by decide⟩) ?_
        repeat walk_at "s"
        refine x_I (by decide) ?_
        repeat walk_at "s"
        refine ⟨by walk_at "few", fun p hp => q p _ (same_new hp) hp (bag_new (by decide) ?_ ?_)⟩
        · have h2 := Int.fmod_nonneg_of_pos ((if i < 0 then -i else i) * 7919 + 104729 * (k : Int)) (show (0 : Int) < 2147483646 by decide)
          omega
        · have h2 := Int.fmod_lt_of_pos ((if i < 0 then -i else i) * 7919 + 104729 * (k : Int)) (show (0 : Int) < 2147483646 by decide)
          omega
      · have nn := abs_nn i
        repeat walk_at "s"
        refine x_I (by decide) ?_
        repeat walk_at "s"
        refine ⟨by walk_at "few", fun p hp => q p _ (same_new hp) hp (bag_new nn ?_ ?_)⟩
        · have h2 := Int.fmod_nonneg_of_pos ((if i < 0 then -i else i) + (k : Int)) (show (0 : Int) < 2147483646 by decide)
          omega
        · have h2 := Int.fmod_lt_of_pos ((if i < 0 then -i else i) + (k : Int)) (show (0 : Int) < 2147483646 by decide)
          omega
    · repeat walk_at "s"
      refine x_I ⟨by decide, by decide, by decide⟩ ?_
      repeat walk_at "s"
      refine x_I (.inl ⟨by decide, by decide⟩) ?_
      repeat walk_at "s"
      refine x_I (.inl ⟨by decide, by decide⟩) ?_
      repeat walk_at "s"
      refine x_I (by decide) ?_
      repeat walk_at "s"
      refine ⟨by walk_at "few", fun p hp => q p _ (same_new hp) hp (bag_new (by decide) ?_ ?_)⟩
      · have h2 := Int.fmod_nonneg_of_pos ((0 : Int) * 7919 + 104729 * (k : Int)) (show (0 : Int) < 2147483646 by decide)
        omega
      · have h2 := Int.fmod_lt_of_pos ((0 : Int) * 7919 + 104729 * (k : Int)) (show (0 : Int) < 2147483646 by decide)
        omega
theorem ok__law_bag (T : Tx K mg) : Ca P w K mg base 1 "_law_bag" (sp__law_bag K) [] := by
  obtain ⟨fd, F⟩ := T.f__law_bag
  exact ⟨_, fd, ["script", "k"], [], fo__law_bag T F, T.g__law_bag, F.kp, bd_mk (st := s__law_bag) F (ps := ["script", "k"]) fun _ _ _ _ _ _ us hl => match us, hl with | [_, _], _ => rfl, .nil⟩
theorem sc__law_take : FnScope ["bag", "man1", "found"] ["bag", "man1"] (defScope s__law_take) := ⟨rfl, rfl, rfl, by decide +kernel, rfl, by decide +kernel, by decide +kernel⟩
def sp__law_take (K : PySem.W.Frag) : Sp := fun vs H Q _ => ∃ (b : Addr) (m : Int), vs = [.ref b, .int m] ∧ Bag H b ∧ 0 < m ∧ m < 2 ^ 200 ∧ ∀ r H', 0 ≤ r → r < m → Drew b H H' → Q (.int r) H'
theorem fo__law_take (T : Tx K mg) {fd : FuncData} (F : FunD K "_law_take" "_law_take" (defArgs s__law_take) (defBody s__law_take) (defScope s__law_take) [] [] (fa__law_take K) fd) : FnOk P w K mg base (L2.CX P w) 1 (fa__law_take K) fd ["bag", "man1"] (sp__law_take K) := by
  refine fn_mk F sc__law_take (fun vs H Q E h => ?len) (fun cdv A outer s H vs Q E hr h => ?body)
  case len =>
    obtain ⟨b, m, rfl, ⟨x, y, hb, h1, h2, h3⟩, hm, hm2, q⟩ := h
    rfl
  case body =>
    have hu := hu_of hr
    obtain ⟨b, m, rfl, ⟨x, y, hb, h1, h2, h3⟩, hm, hm2, q⟩ := h
    refine ⟨_, (pss_cons (ps_if (pt_cmpR op_gt (pe_ix (ix_list_ (K := K) rfl) (pv 0) pe_int (fun _ _ => rfl)) pe_int (nomark _)) (pss_cons (ps_set (i := 2) sc__law_take.nd rfl (by first | exact Or.inl rfl | exact Or.inr rfl) (pe_op op_modN (pe_ix (ix_list_ (K := K) rfl) (pv 0) pe_int (fun _ _ => rfl)) (pv 1)))
      (pss_cons (ps_asg (pe_op op_fdivW (pe_ix (ix_list_ (K := K) rfl) (pv 0) pe_int (fun _ _ => rfl)) (pv 1)) (pg_sub (pv 0) pe_int set_list))
      (pss_one (ps_ret (pv 2))))) pss_nil)
      (pss_cons (ps_asg (pe_op op_modN (pe_op op_mul (pe_ix (ix_list_ (K := K) rfl) (pv 0) pe_int (fun _ _ => rfl)) pe_int) pe_int) (pg_sub (pv 0) pe_int set_list))
      (pss_one (ps_ret (pe_op op_modN (pe_op op_fdivN (pe_op op_modN (pe_op op_mul (pe_ix (ix_list_ (K := K) rfl) (pv 0) pe_int (fun _ _ => rfl)) (pe_ix (ix_list_ (K := K) rfl) (pv 0) pe_int (fun _ _ => rfl))) pe_int) pe_int) (pv 1)))))), ?_⟩
    have hs : SqL K H b [.int x, .int y] := .of hb
    have m0 : m ≠ 0 := by omega
    have mW : CDivW x m := wide_div hm (b := 200) (by omega) (by decide) (by decide)
    repeat walk_at "s"
    refine ite_b (fun e => ?_) (fun e => ?_)
    · repeat walk_at "s"
      refine x_I m0 ?_
      repeat walk_at "s"
      refine x_I mW ?_
      repeat walk_at "s"
      have nn : 0 ≤ x / m := Int.ediv_nonneg h1 (by omega)
      exact q _ _ (Int.fmod_nonneg_of_pos x hm) (Int.fmod_lt_of_pos x hm) (drew_put hb nn h2 h3)
    · repeat walk_at "s"
      refine x_I (.inr ⟨by decide, by decide⟩) ?_
      repeat walk_at "s"
      refine x_I (by decide) ?_
      repeat walk_at "s"
      have n0 := Int.fmod_nonneg_of_pos (y * 48271) (show (0 : Int) < 2147483647 by decide)
      have n1 := Int.fmod_lt_of_pos (y * 48271) (show (0 : Int) < 2147483647 by decide)
      have hs2 : SqL K (upd H b (.lst [.int x, .int ((y * 48271).fmod 2147483647)])) b [.int x, .int ((y * 48271).fmod 2147483647)] := .of upd_same
      repeat walk_at "s"
      refine x_I (.inl ⟨by omega, by omega⟩) ?_
      repeat walk_at "s"
      refine x_I (by decide) ?_
      repeat walk_at "s"
      refine x_I ⟨by decide, by decide⟩ ?_
      repeat walk_at "s"
      refine x_I m0 ?_
      exact q _ _ (Int.fmod_nonneg_of_pos _ hm) (Int.fmod_lt_of_pos _ hm) (drew_put hb h1 n0 (by omega))
theorem ok__law_take (T : Tx K mg) : Ca P w K mg base 1 "_law_take" (sp__law_take K) [] := by
  obtain ⟨fd, F⟩ := T.f__law_take
  exact ⟨_, fd, ["bag", "man1"], [], fo__law_take T F, T.g__law_take, F.kp, bd_mk (st := s__law_take) F (ps := ["bag", "man1"]) fun _ _ _ _ _ _ us hl => match us, hl with | [_, _], _ => rfl, .nil⟩
end
def clsW : List Str := ["AskedError", "ToldError", "Ended", "Held", "NoChange", "NoKey", "NoLife", "NoName", "NoPlace", "NoReading", "NoRow", "NoRows", "NoStretch", "NoTable", "NoTaker", "NoText", "NotAsked", "NotEnded", "NothingLeft", "NotOnWire", "NotSure", "TooMany", "Trimmed", "Twice", "Waits"]
def wordsW : List Str := ["asked ", "told ", "Ended", "Held", "NoChange", "NoKey", "NoLife", "NoName", "NoPlace", "NoReading", "NoRow", "NoRows", "NoStretch", "NoTable", "NoTaker", "NoText", "NotAsked", "NotEnded", "NothingLeft", "NotOnWire", "NotSure", "TooMany", "Trimmed", "Twice", "Waits", "+"]
def bitsX (x : Str) : List Bool := clsW.map (isSub x) ++ [true]
def selW (bs : List Bool) (n : Nat) : List Str := ((List.range n).filter fun k => bs.getD k false).map fun k => wordsW.getD k ""
def kindsX (x : Str) : Str := Txt.join "" (selW (bitsX x) 26)
def fdNames : List (Str × Str) := [("NoPlace", "at"), ("Trimmed", "at"), ("NoLife", "who"), ("Held", "who"), ("NoReading", "number"), ("Waits", "number"), ("NotAsked", "number"), ("NotOnWire", "number"), ("NoKey", "key"), ("NotSure", "key"), ("NoTaker", "name"), ("TooMany", "many")]
theorem sel_succ (bs : List Bool) (n : Nat) : selW bs (n + 1) = selW bs n ++ (if bs.getD n false = true then [wordsW.getD n ""] else []) := by
  unfold selW
  rw [List.range_succ, List.filter_append, List.map_append]
  congr 1
  rw [List.filter_cons, List.filter_nil]
  split <;> rfl
theorem sel_len (bs : List Bool) (n : Nat) : (selW bs n).length ≤ n := by
  unfold selW
  rw [List.length_map]
  exact Nat.le_trans (List.length_filter_le _ _) (Nat.le_of_eq List.length_range)
theorem x_join {H : Hp} {K : PySem.W.Frag} {a : Str} {p : Addr} {Q : VK} (ys : List Str) (h : SqL K H p (ys.map V.str)) (few : (ys.map (·.length)).sum + ys.length * a.length ≤ 16777216) (q : Q (.str (Txt.join a ys)) H) :
    ∃ (a' : Str) (p' : Addr) (ys' : List Str), V.str a = .str a' ∧ [V.ref p] = [.ref p'] ∧ (SqL K H p' (ys'.map V.str) ∨ SqT K H p' (ys'.map V.str)) ∧ (ys'.map (·.length)).sum + ys'.length * a'.length ≤ 16777216 ∧ Q (.str (Txt.join a' ys')) H :=
  ⟨a, p, ys, rfl, rfl, .inl h, few, q⟩
theorem sum_le {ys : List Str} (h : ∀ y ∈ ys, y.length ≤ 100) : (ys.map (·.length)).sum ≤ 100 * ys.length := by
  induction ys with
  | nil => simp
  | cons y r ih =>
    have h1 := h y List.mem_cons_self
    have h2 := ih fun z hz => h z (List.mem_cons_of_mem _ hz)
    rw [List.map_cons, List.sum_cons, List.length_cons]
    omega
theorem sel_short (bs : List Bool) (n : Nat) : ∀ y ∈ selW bs n, y.length ≤ 100 := by
  intro y hy
  unfold selW at hy
  obtain ⟨k, _, rfl⟩ := List.mem_map.mp hy
  rw [List.getD_eq_getElem?_getD]
  cases e : wordsW[k]? with
  | none => decide
  | some z =>
    have h : ∀ z ∈ wordsW, z.length ≤ 100 := by decide +kernel
    exact h z (List.mem_of_getElem? e)
theorem words_at {n : Nat} (h : n < 26) : atI (wordsW.map V.str) (n : Int) = some (.str (wordsW.getD n "")) := by
  have z : ∀ m : Nat, m < 26 → atI (wordsW.map V.str) (m : Int) = some (.str (wordsW.getD m "")) := by decide +kernel
  exact z n h
theorem bits_at {bs : List Bool} {n : Nat} (h : n < bs.length) : atI (bs.map V.bl) (n : Int) = some (.bl (bs.getD n false)) := by
  unfold atI ixN
  rw [List.length_map, if_pos (by omega), if_pos (by omega)]
  simp [h, List.getD_eq_getElem?_getD]
theorem bits_len (x : Str) : (bitsX x).length = 26 := by
  unfold bitsX
  rw [List.length_append, List.length_map]
  rfl
section
variable {P : Program} {w : World} {K : PySem.W.Frag} {mg : Str → Option Value} {base : Heap}
theorem sc__law_name : FnScope ["bag", "man1", "k"] ["bag"] (defScope s__law_name) := ⟨rfl, rfl, rfl, by decide +kernel, rfl, by decide +kernel, by decide +kernel⟩
def sp__law_name (K : PySem.W.Frag) : Sp := fun vs H Q _ => ∃ (b : Addr), vs = [.ref b] ∧ Bag H b ∧ ∀ z H', Drew b H H' → Q (.str z) H'
theorem fo__law_name (T : Tx K mg) {fd : FuncData} (F : FunD K "_law_name" "_law_name" (defArgs s__law_name) (defBody s__law_name) (defScope s__law_name) [] [] (fa__law_name K) fd) : FnOk P w K mg base (L2.CX P w) 2 (fa__law_name K) fd ["bag"] (sp__law_name K) := by
  have c__law_take := ok__law_take (P := P) (w := w) (base := base) T
  refine fn_mk F sc__law_name (fun vs H Q E h => ?len) (fun cdv A outer s H vs Q E hr h => ?body)
  case len =>
    obtain ⟨b, rfl, hb, q⟩ := h
    rfl
  case body =>
    have hu := hu_of hr
    obtain ⟨b, rfl, hb, q⟩ := h
    refine ⟨_, (pss_cons (ps_set (i := 1) sc__law_name.nd rfl (by first | exact Or.inl rfl | exact Or.inr rfl) (pe_op op_add pe_int (pe_ix (ix_list_ (K := K) rfl) (pe_lst (pa_cons (pe_ca c__law_take hr (by decide) rfl (pa_cons (pv 0) (pa_cons pe_int pa_nil))) (pa_cons (pe_ca c__law_take hr (by decide) rfl (pa_cons (pv 0) (pa_cons pe_int pa_nil))) pa_nil))) (pe_callTy call_int1 (by rfl) T.z_int bt_int (pa_cons (pe_cmpR op_eq (pe_ca c__law_take hr (by decide) rfl (pa_cons (pv 0) (pa_cons pe_int pa_nil))) pe_int (nomark _)) pa_nil)) (fun _ _ => rfl))))
      (pss_one (ps_ret (pe_join pe_str (pe_lc (own := [("k", 2)]) rfl sc__law_name.nd (pi_range1 (by rfl) T.z_range (pa_cons (pv 1) pa_nil)) (blkOk_by (own := [("k", 2)]) (N := ["bag", "man1", "k"]) (sc := (defScope s__law_name)) (by decide +kernel)) (fun _ _ _ _ _ => (pg_name (i := 2) sc__law_name.nd rfl (by first | exact Or.inl rfl | exact Or.inr rfl))) (fun _ _ _ _ _ => pts_nil) (fun _ _ _ _ _ => (pe_ix ix_str pe_str (pe_ca c__law_take hr (by decide) rfl (pa_cons (pv 0) (pa_cons pe_int pa_nil))) (fun _ _ => rfl)))))))), ?_⟩
    repeat walk_at "s"
    refine ⟨b, 3, rfl, hb, by decide, by decide, fun r1 H1 a1 a2 d1 => ?_⟩
    repeat walk_at "s"
    refine ⟨b, 8, rfl, d1.bag, by decide, by decide, fun r2 H2 a3 a4 d2 => ?_⟩
    repeat walk_at "s"
    refine ⟨by walk_at "few", fun p hp => ?_⟩
    repeat walk_at "s"
    have d12 := d1.trans d2
    have np : b ≠ p := bag_ne d2.bag hp
    refine ⟨b, 4, rfl, d2.bag.ne np, by decide, by decide, fun r3 H3 a5 a6 d3 => ?_⟩
    repeat walk_at "s"
    refine .inr ⟨_, rfl, ?_⟩
    have hp3 : H3 p = some (.lst [.int r1, .int r2]) := d3.keep p _ upd_same (Ne.symm np)
    have d03 : Drew b H H3 := (d12.new hp).trans d3
    obtain ⟨r, hr, b1, b2⟩ : ∃ r : Int, atI [V.int r1, V.int r2] (if decide (r3 = 0) = true then 1 else 0) = some (.int r) ∧ 0 ≤ r ∧ r < 8 := by
      cases decide (r3 = 0) with
      | true => exact ⟨r2, rfl, a3, a4⟩
      | false => exact ⟨r1, rfl, a1, by omega⟩
    refine x_ixL (.of hp3) hr ?_
    repeat walk_at "s"
    refine x_M1 ?_
    repeat walk_at "s"
    refine ⟨⟨_, rfl⟩, ?_⟩
    repeat walk_at "s"
    refine ⟨_, rfl, by omega, by omega, fun D hD => ?_⟩
    have nD : b ≠ D := bag_ne d03.bag hD
    refine lc_it walk_range (fun i H' => ∃ ys : List Str, ys.length = i ∧ (∀ y ∈ ys, y.length ≤ 100) ∧ H' D = some (.lst (ys.map V.str)) ∧ Drew b H H') ⟨[], rfl, by simp, upd_same, d03.new hD⟩ (fun _ _ _ _ => trivial) ?_ ?_
    · rintro i x H4 H5 hi ⟨ys, l1, l2, l3, l4⟩ ⟨rfl, rfl⟩
      repeat walk_at "s"
      refine ⟨b, 26, rfl, l4.bag, by decide, by decide, fun r5 H6 c1 c2 d5 => ?_⟩
      obtain ⟨m, rfl⟩ : ∃ m : Nat, r5 = m := ⟨r5.toNat, by omega⟩
      obtain ⟨c, hc⟩ : ∃ c, atI (("abcdefghijklmnopqrstuvwxyz" : Str).cps.toList) (m : Int) = some c := by
        have z : ∀ m : Nat, m < 26 → (atI (("abcdefghijklmnopqrstuvwxyz" : Str).cps.toList) ((m : Nat) : Int)).isSome = true := by decide +kernel
        exact Option.isSome_iff_exists.mp (z m (by omega))
      refine ⟨_, _, c, rfl, rfl, by decide +kernel, hc, ?_⟩
      refine ⟨ys.map V.str, d5.keep D _ l3 (Ne.symm nD), ?_, ys ++ [⟨#[c]⟩], ?_, ?_, ?_, ?_⟩
      · rw [List.length_map, sizeLine_eq]
        omega
      · rw [List.length_append, l1]
        rfl
      · intro y hy
        rcases List.mem_append.mp hy with hy | hy
        · exact l2 y hy
        · rw [List.mem_singleton.mp hy]
          show 1 ≤ 100
          decide
      · rw [upd_same, List.map_append]
        rfl
      · exact (l4.trans d5).mut (d03.free hD) nD
    · rintro H4 ⟨ys, l1, l2, l3, l4⟩
      refine x_join ys (.of l3) ?_ (q _ _ l4)
      have := sum_le l2
      have e0 : ("" : Str).length = 0 := by decide
      rw [e0]
      omega
theorem ok__law_name (T : Tx K mg) : Ca P w K mg base 2 "_law_name" (sp__law_name K) [] := by
  obtain ⟨fd, F⟩ := T.f__law_name
  exact ⟨_, fd, ["bag"], [], fo__law_name T F, T.g__law_name, F.kp, bd_mk (st := s__law_name) F (ps := ["bag"]) fun _ _ _ _ _ _ us hl => match us, hl with | [_], _ => rfl, .nil⟩
theorem sc__law_kinds : FnScope ["e", "some", "words", "k"] ["e"] (defScope s__law_kinds) := ⟨rfl, rfl, rfl, by decide +kernel, rfl, by decide +kernel, by decide +kernel⟩
def sp__law_kinds (K : PySem.W.Frag) : Sp := fun vs H Q _ => ∃ (a : Addr) (x : Str) (fs : List (Str × V)), vs = [.ref a] ∧ x ∈ exNames ∧ ExF H a (He.ga K x) fs ∧ ∀ H', Same H H' → Q (.str (kindsX x)) H'
theorem fo__law_kinds (T : Tx K mg) {fd : FuncData} (F : FunD K "_law_kinds" "_law_kinds" (defArgs s__law_kinds) (defBody s__law_kinds) (defScope s__law_kinds) [] [] (fa__law_kinds K) fd) : FnOk P w K mg base (L2.CX P w) 1 (fa__law_kinds K) fd ["e"] (sp__law_kinds K) := by
  refine fn_mk F sc__law_kinds (fun vs H Q E h => ?len) (fun cdv A outer s H vs Q E hr h => ?body)
  case len =>
    obtain ⟨a, x, fs, rfl, hx, h0, q⟩ := h
    rfl
  case body =>
    have hu := hu_of hr
    obtain ⟨a, x, fs, rfl, hx, h0, q⟩ := h
    refine ⟨_, (pss_cons (ps_set (i := 1) sc__law_kinds.nd rfl (by first | exact Or.inl rfl | exact Or.inr rfl) (pe_lst (pa_cons (pe_callB (call_isx (K := K) rfl) (by rfl) T.z_isinstance bt_isinstance (pa_cons (pv 0) (pa_cons (pe_glob (v := .ref (He.ga K "AskedError")) rfl T.g_AskedError rfl) pa_nil))) (pa_cons (pe_callB (call_isx (K := K) rfl) (by rfl) T.z_isinstance bt_isinstance (pa_cons (pv 0) (pa_cons (pe_glob (v := .ref (He.ga K "ToldError")) rfl T.g_ToldError rfl) pa_nil))) (pa_cons (pe_callB (call_isx (K := K) rfl) (by rfl) T.z_isinstance bt_isinstance (pa_cons (pv 0) (pa_cons (pe_glob (v := .ref (He.ga K "Ended")) rfl T.g_Ended rfl) pa_nil))) (pa_cons (pe_callB (call_isx (K := K) rfl) (by rfl) T.z_isinstance bt_isinstance (pa_cons (pv 0) (pa_cons (pe_glob (v := .ref (He.ga K "Held")) rfl T.g_Held rfl) pa_nil))) pa_nil))))))
      (pss_cons (ps_set (i := 1) sc__law_kinds.nd rfl (by first | exact Or.inl rfl | exact Or.inr rfl) (pe_op op_cat (pv 1) (pe_lst (pa_cons (pe_callB (call_isx (K := K) rfl) (by rfl) T.z_isinstance bt_isinstance (pa_cons (pv 0) (pa_cons (pe_glob (v := .ref (He.ga K "NoChange")) rfl T.g_NoChange rfl) pa_nil))) (pa_cons (pe_callB (call_isx (K := K) rfl) (by rfl) T.z_isinstance bt_isinstance (pa_cons (pv 0) (pa_cons (pe_glob (v := .ref (He.ga K "NoKey")) rfl T.g_NoKey rfl) pa_nil))) (pa_cons (pe_callB (call_isx (K := K) rfl) (by rfl) T.z_isinstance bt_isinstance (pa_cons (pv 0) (pa_cons (pe_glob (v := .ref (He.ga K "NoLife")) rfl T.g_NoLife rfl) pa_nil))) (pa_cons (pe_callB (call_isx (K := K) rfl) (by rfl) T.z_isinstance bt_isinstance (pa_cons (pv 0) (pa_cons (pe_glob (v := .ref (He.ga K "NoName")) rfl T.g_NoName rfl) pa_nil))) pa_nil)))))))
      (pss_cons (ps_set (i := 1) sc__law_kinds.nd rfl (by first | exact Or.inl rfl | exact Or.inr rfl) (pe_op op_cat (pv 1) (pe_lst (pa_cons (pe_callB (call_isx (K := K) rfl) (by rfl) T.z_isinstance bt_isinstance (pa_cons (pv 0) (pa_cons (pe_glob (v := .ref (He.ga K "NoPlace")) rfl T.g_NoPlace rfl) pa_nil))) (pa_cons (pe_callB (call_isx (K := K) rfl) (by rfl) T.z_isinstance bt_isinstance (pa_cons (pv 0) (pa_cons (pe_glob (v := .ref (He.ga K "NoReading")) rfl T.g_NoReading rfl) pa_nil))) (pa_cons (pe_callB (call_isx (K := K) rfl) (by rfl) T.z_isinstance bt_isinstance (pa_cons (pv 0) (pa_cons (pe_glob (v := .ref (He.ga K "NoRow")) rfl T.g_NoRow rfl) pa_nil))) (pa_cons (pe_callB (call_isx (K := K) rfl) (by rfl) T.z_isinstance bt_isinstance (pa_cons (pv 0) (pa_cons (pe_glob (v := .ref (He.ga K "NoRows")) rfl T.g_NoRows rfl) pa_nil))) pa_nil)))))))
      (pss_cons (ps_set (i := 1) sc__law_kinds.nd rfl (by first | exact Or.inl rfl | exact Or.inr rfl) (pe_op op_cat (pv 1) (pe_lst (pa_cons (pe_callB (call_isx (K := K) rfl) (by rfl) T.z_isinstance bt_isinstance (pa_cons (pv 0) (pa_cons (pe_glob (v := .ref (He.ga K "NoStretch")) rfl T.g_NoStretch rfl) pa_nil))) (pa_cons (pe_callB (call_isx (K := K) rfl) (by rfl) T.z_isinstance bt_isinstance (pa_cons (pv 0) (pa_cons (pe_glob (v := .ref (He.ga K "NoTable")) rfl T.g_NoTable rfl) pa_nil))) (pa_cons (pe_callB (call_isx (K := K) rfl) (by rfl) T.z_isinstance bt_isinstance (pa_cons (pv 0) (pa_cons (pe_glob (v := .ref (He.ga K "NoTaker")) rfl T.g_NoTaker rfl) pa_nil))) (pa_cons (pe_callB (call_isx (K := K) rfl) (by rfl) T.z_isinstance bt_isinstance (pa_cons (pv 0) (pa_cons (pe_glob (v := .ref (He.ga K "NoText")) rfl T.g_NoText rfl) pa_nil))) pa_nil)))))))
      (pss_cons (ps_set (i := 1) sc__law_kinds.nd rfl (by first | exact Or.inl rfl | exact Or.inr rfl) (pe_op op_cat (pv 1) (pe_lst (pa_cons (pe_callB (call_isx (K := K) rfl) (by rfl) T.z_isinstance bt_isinstance (pa_cons (pv 0) (pa_cons (pe_glob (v := .ref (He.ga K "NotAsked")) rfl T.g_NotAsked rfl) pa_nil))) (pa_cons (pe_callB (call_isx (K := K) rfl) (by rfl) T.z_isinstance bt_isinstance (pa_cons (pv 0) (pa_cons (pe_glob (v := .ref (He.ga K "NotEnded")) rfl T.g_NotEnded rfl) pa_nil))) (pa_cons (pe_callB (call_isx (K := K) rfl) (by rfl) T.z_isinstance bt_isinstance (pa_cons (pv 0) (pa_cons (pe_glob (v := .ref (He.ga K "NothingLeft")) rfl T.g_NothingLeft rfl) pa_nil))) pa_nil))))))
      (pss_cons (ps_set (i := 1) sc__law_kinds.nd rfl (by first | exact Or.inl rfl | exact Or.inr rfl) (pe_op op_cat (pv 1) (pe_lst (pa_cons (pe_callB (call_isx (K := K) rfl) (by rfl) T.z_isinstance bt_isinstance (pa_cons (pv 0) (pa_cons (pe_glob (v := .ref (He.ga K "NotOnWire")) rfl T.g_NotOnWire rfl) pa_nil))) (pa_cons (pe_callB (call_isx (K := K) rfl) (by rfl) T.z_isinstance bt_isinstance (pa_cons (pv 0) (pa_cons (pe_glob (v := .ref (He.ga K "NotSure")) rfl T.g_NotSure rfl) pa_nil))) (pa_cons (pe_callB (call_isx (K := K) rfl) (by rfl) T.z_isinstance bt_isinstance (pa_cons (pv 0) (pa_cons (pe_glob (v := .ref (He.ga K "TooMany")) rfl T.g_TooMany rfl) pa_nil))) (pa_cons (pe_callB (call_isx (K := K) rfl) (by rfl) T.z_isinstance bt_isinstance (pa_cons (pv 0) (pa_cons (pe_glob (v := .ref (He.ga K "Trimmed")) rfl T.g_Trimmed rfl) pa_nil))) pa_nil)))))))
      (pss_cons (ps_set (i := 1) sc__law_kinds.nd rfl (by first | exact Or.inl rfl | exact Or.inr rfl) (pe_op op_cat (pv 1) (pe_lst (pa_cons (pe_callB (call_isx (K := K) rfl) (by rfl) T.z_isinstance bt_isinstance (pa_cons (pv 0) (pa_cons (pe_glob (v := .ref (He.ga K "Twice")) rfl T.g_Twice rfl) pa_nil))) (pa_cons (pe_callB (call_isx (K := K) rfl) (by rfl) T.z_isinstance bt_isinstance (pa_cons (pv 0) (pa_cons (pe_glob (v := .ref (He.ga K "Waits")) rfl T.g_Waits rfl) pa_nil))) (pa_cons (pe_callB (call_isx (K := K) rfl) (by rfl) T.z_isinstance bt_isinstance (pa_cons (pv 0) (pa_cons (pe_bltn (v := .ty "ValueError") (by rfl) T.z_ValueError bt_ValueError rfl) pa_nil))) pa_nil))))))
      (pss_cons (ps_set (i := 2) sc__law_kinds.nd rfl (by first | exact Or.inl rfl | exact Or.inr rfl) (pe_lst (pa_cons pe_str (pa_cons pe_str (pa_cons pe_str (pa_cons pe_str (pa_cons pe_str (pa_cons pe_str (pa_cons pe_str (pa_cons pe_str (pa_cons pe_str (pa_cons pe_str pa_nil))))))))))))
      (pss_cons (ps_set (i := 2) sc__law_kinds.nd rfl (by first | exact Or.inl rfl | exact Or.inr rfl) (pe_op op_cat (pv 2) (pe_lst (pa_cons pe_str (pa_cons pe_str (pa_cons pe_str (pa_cons pe_str (pa_cons pe_str (pa_cons pe_str (pa_cons pe_str (pa_cons pe_str pa_nil)))))))))))
      (pss_cons (ps_set (i := 2) sc__law_kinds.nd rfl (by first | exact Or.inl rfl | exact Or.inr rfl) (pe_op op_cat (pv 2) (pe_lst (pa_cons pe_str (pa_cons pe_str (pa_cons pe_str (pa_cons pe_str (pa_cons pe_str (pa_cons pe_str (pa_cons pe_str (pa_cons pe_str pa_nil)))))))))))
      (pss_one (ps_ret (pe_join pe_str (pe_lc (own := [("k", 3)]) rfl sc__law_kinds.nd (pi_range1 (by rfl) T.z_range (pa_cons pe_int pa_nil)) (blkOk_by (own := [("k", 3)]) (N := ["e", "some", "words", "k"]) (sc := (defScope s__law_kinds)) (by decide +kernel)) (fun _ _ _ _ _ => (pg_name (i := 3) sc__law_kinds.nd rfl (by first | exact Or.inl rfl | exact Or.inr rfl))) (fun _ _ _ _ _ => (pts_one (pt_val (pe_ix (ix_list_ (K := K) rfl) (pv 1) (pv 3) (fun _ _ => rfl))))) (fun _ _ _ _ _ => (pe_ix (ix_list_ (K := K) rfl) (pv 2) (pv 3) (fun _ _ => rfl))))))))))))))))), ?_⟩
    have hc := T.xc x hx
    have hk := T.xk x hx
    have s0 := Same.refl H
    repeat walk_at "s"
    refine x_isx (h0.same s0) hc (.own _) (hk "AskedError" (by decide)) ?_
    repeat walk_at "s"
    refine x_isx (h0.same s0) hc (.own _) (hk "ToldError" (by decide)) ?_
    repeat walk_at "s"
    refine x_isx (h0.same s0) hc (.own _) (hk "Ended" (by decide)) ?_
    repeat walk_at "s"
    refine x_isx (h0.same s0) hc (.own _) (hk "Held" (by decide)) ?_
    repeat walk_at "s"
    refine ⟨by walk_at "few", fun p1 n1 => ?_⟩
    generalize eqp1 : upd _ p1 _ = H1
    obtain ⟨t1, l1⟩ := of_new eqp1 n1
    have s1 := t1
    repeat walk_at "s"
    refine x_isx (h0.same s1) hc (.own _) (hk "NoChange" (by decide)) ?_
    repeat walk_at "s"
    refine x_isx (h0.same s1) hc (.own _) (hk "NoKey" (by decide)) ?_
    repeat walk_at "s"
    refine x_isx (h0.same s1) hc (.own _) (hk "NoLife" (by decide)) ?_
    repeat walk_at "s"
    refine x_isx (h0.same s1) hc (.own _) (hk "NoName" (by decide)) ?_
    repeat walk_at "s"
    refine ⟨by walk_at "few", fun r2 m2 => ?_⟩
    generalize eqr2 : upd _ r2 _ = G2
    obtain ⟨u2, k2⟩ := of_new eqr2 m2
    repeat walk_at "s"
    refine new_cat (u2 _ _ l1) k2 (by walk_at "few") fun p2 H2 n2 t2 l2 => ?_
    have s2 := s1.trans (u2.trans t2)
    repeat walk_at "s"
    refine x_isx (h0.same s2) hc (.own _) (hk "NoPlace" (by decide)) ?_
    repeat walk_at "s"
    refine x_isx (h0.same s2) hc (.own _) (hk "NoReading" (by decide)) ?_
    repeat walk_at "s"
    refine x_isx (h0.same s2) hc (.own _) (hk "NoRow" (by decide)) ?_
    repeat walk_at "s"
    refine x_isx (h0.same s2) hc (.own _) (hk "NoRows" (by decide)) ?_
    repeat walk_at "s"
    refine ⟨by walk_at "few", fun r3 m3 => ?_⟩
    generalize eqr3 : upd _ r3 _ = G3
    obtain ⟨u3, k3⟩ := of_new eqr3 m3
    repeat walk_at "s"
    refine new_cat (u3 _ _ l2) k3 (by walk_at "few") fun p3 H3 n3 t3 l3 => ?_
    have s3 := s2.trans (u3.trans t3)
    repeat walk_at "s"
    refine x_isx (h0.same s3) hc (.own _) (hk "NoStretch" (by decide)) ?_
    repeat walk_at "s"
    refine x_isx (h0.same s3) hc (.own _) (hk "NoTable" (by decide)) ?_
    repeat walk_at "s"
    refine x_isx (h0.same s3) hc (.own _) (hk "NoTaker" (by decide)) ?_
    repeat walk_at "s"
    refine x_isx (h0.same s3) hc (.own _) (hk "NoText" (by decide)) ?_
    repeat walk_at "s"
    refine ⟨by walk_at "few", fun r4 m4 => ?_⟩
    generalize eqr4 : upd _ r4 _ = G4
    obtain ⟨u4, k4⟩ := of_new eqr4 m4
    repeat walk_at "s"
    refine new_cat (u4 _ _ l3) k4 (by walk_at "few") fun p4 H4 n4 t4 l4 => ?_
    have s4 := s3.trans (u4.trans t4)
    repeat walk_at "s"
    refine x_isx (h0.same s4) hc (.own _) (hk "NotAsked" (by decide)) ?_
    repeat walk_at "s"
    refine x_isx (h0.same s4) hc (.own _) (hk "NotEnded" (by decide)) ?_
    repeat walk_at "s"
    refine x_isx (h0.same s4) hc (.own _) (hk "NothingLeft" (by decide)) ?_
    repeat walk_at "s"
    refine ⟨by walk_at "few", fun r5 m5 => ?_⟩
    generalize eqr5 : upd _ r5 _ = G5
    obtain ⟨u5, k5⟩ := of_new eqr5 m5
    repeat walk_at "s"
    refine new_cat (u5 _ _ l4) k5 (by walk_at "few") fun p5 H5 n5 t5 l5 => ?_
    have s5 := s4.trans (u5.trans t5)
    repeat walk_at "s"
    refine x_isx (h0.same s5) hc (.own _) (hk "NotOnWire" (by decide)) ?_
    repeat walk_at "s"
    refine x_isx (h0.same s5) hc (.own _) (hk "NotSure" (by decide)) ?_
    repeat walk_at "s"
    refine x_isx (h0.same s5) hc (.own _) (hk "TooMany" (by decide)) ?_
    repeat walk_at "s"
    refine x_isx (h0.same s5) hc (.own _) (hk "Trimmed" (by decide)) ?_
    repeat walk_at "s"
    refine ⟨by walk_at "few", fun r6 m6 => ?_⟩
    generalize eqr6 : upd _ r6 _ = G6
    obtain ⟨u6, k6⟩ := of_new eqr6 m6
    repeat walk_at "s"
    refine new_cat (u6 _ _ l5) k6 (by walk_at "few") fun p6 H6 n6 t6 l6 => ?_
    have s6 := s5.trans (u6.trans t6)
    repeat walk_at "s"
    refine x_isx (h0.same s6) hc (.own _) (hk "Twice" (by decide)) ?_
    repeat walk_at "s"
    refine x_isx (h0.same s6) hc (.own _) (hk "Waits" (by decide)) ?_
    repeat walk_at "s"
    refine x_isx (h0.same s6) hc (.ty "ValueError") (T.xv x hx) ?_
    repeat walk_at "s"
    refine ⟨by walk_at "few", fun r7 m7 => ?_⟩
    generalize eqr7 : upd _ r7 _ = G7
    obtain ⟨u7, k7⟩ := of_new eqr7 m7
    repeat walk_at "s"
    refine new_cat (u7 _ _ l6) k7 (by walk_at "few") fun p7 H7 n7 t7 l7 => ?_
    have s7 := s6.trans (u7.trans t7)
    have lb : H7 p7 = some (.lst ((bitsX x).map V.bl)) := l7
    repeat walk_at "s"
    refine ⟨by walk_at "few", fun w1 n8 => ?_⟩
    generalize eqw1 : upd _ w1 _ = H8
    obtain ⟨t8, v1⟩ := of_new eqw1 n8
    have s8 := s7.trans t8
    have lb8 := t8 _ _ lb
    repeat walk_at "s"
    refine ⟨by walk_at "few", fun r9 m9 => ?_⟩
    generalize eqr9 : upd _ r9 _ = G9
    obtain ⟨u9, k9⟩ := of_new eqr9 m9
    repeat walk_at "s"
    refine new_cat (u9 _ _ v1) k9 (by walk_at "few") fun w2 H9 n9 t9 v2 => ?_
    have s9 := s8.trans (u9.trans t9)
    have lb9 := t9 _ _ (u9 _ _ lb8)
    repeat walk_at "s"
    refine ⟨by walk_at "few", fun r10 m10 => ?_⟩
    generalize eqr10 : upd _ r10 _ = G10
    obtain ⟨u10, k10⟩ := of_new eqr10 m10
    repeat walk_at "s"
    refine new_cat (u10 _ _ v2) k10 (by walk_at "few") fun w3 H10 n10 t10 v3 => ?_
    have s10 := s9.trans (u10.trans t10)
    have lb10 := t10 _ _ (u10 _ _ lb9)
    have lw : H10 w3 = some (.lst (wordsW.map V.str)) := v3
    repeat walk_at "s"
    refine x_M1 ?_
    repeat walk_at "s"
    refine ⟨⟨_, rfl⟩, ?_⟩
    repeat walk_at "s"
    refine ⟨_, rfl, by omega, by omega, fun D hD => ?_⟩
    have bl := bits_len x
    refine lc_it walk_range (fun i H' => Same H10 H' ∧ H' D = some (.lst ((selW (bitsX x) i).map V.str))) ⟨same_new hD, upd_same⟩ (fun _ _ _ _ => trivial) ?_ ?_
    · rintro i y A B hi ⟨c1, c2⟩ ⟨rfl, rfl⟩
      repeat walk_at "s"
      have hi' : i < 26 := hi
      rw [Int.zero_add]
      refine x_ixL (.of (c1 _ _ lb10)) (bits_at (by omega)) ?_
      repeat walk_at "s"
      refine ite_b (fun e => ?_) (fun e => ?_)
      · repeat walk_at "s"
        refine x_ixL (.of (c1 _ _ lw)) (words_at hi') ?_
        refine ⟨_, c2, ?_, same_mut c1 hD, ?_⟩
        · have := sel_len (bitsX x) i
          rw [List.length_map, sizeLine_eq]
          omega
        · rw [upd_same, sel_succ, e, List.map_append]
          rfl
      · refine ⟨c1, ?_⟩
        rw [c2, sel_succ, e]
        show _ = some (HO.lst ((selW (bitsX x) i ++ []).map V.str))
        rw [List.append_nil]
    · rintro A ⟨c1, c2⟩
      refine x_join _ (.of c2) ?_ (q _ (s10.trans c1))
      have e1 := sum_le (sel_short (bitsX x) 26)
      have e2 := sel_len (bitsX x) 26
      have e0 : ("" : Str).length = 0 := by decide
      rw [e0]
      show ((selW (bitsX x) 26).map (·.length)).sum + (selW (bitsX x) 26).length * 0 ≤ 16777216
      omega
theorem ok__law_kinds (T : Tx K mg) : Ca P w K mg base 1 "_law_kinds" (sp__law_kinds K) [] := by
  obtain ⟨fd, F⟩ := T.f__law_kinds
  exact ⟨_, fd, ["e"], [], fo__law_kinds T F, T.g__law_kinds, F.kp, bd_mk (st := s__law_kinds) F (ps := ["e"]) fun _ _ _ _ _ _ us hl => match us, hl with | [_], _ => rfl, .nil⟩
end
theorem naF {K : PySem.W.Frag} {mg : Str → Option Value} (T : Tx K mg) {x f : Str} (h : (x, f) ∈ fdNames) : PySem.W.findIn K (.ref (He.ga K x)) f = some none := by
  unfold fdNames at h
  simp only [List.mem_cons, Prod.mk.injEq, List.not_mem_nil, or_false] at h
  rcases h with ⟨rfl, rfl⟩ | ⟨rfl, rfl⟩ | ⟨rfl, rfl⟩ | ⟨rfl, rfl⟩ | ⟨rfl, rfl⟩ | ⟨rfl, rfl⟩ | ⟨rfl, rfl⟩ | ⟨rfl, rfl⟩ | ⟨rfl, rfl⟩ | ⟨rfl, rfl⟩ | ⟨rfl, rfl⟩ | ⟨rfl, rfl⟩
  · exact T.na_NoPlace_at
  · exact T.na_Trimmed_at
  · exact T.na_NoLife_who
  · exact T.na_Held_who
  · exact T.na_NoReading_number
  · exact T.na_Waits_number
  · exact T.na_NotAsked_number
  · exact T.na_NotOnWire_number
  · exact T.na_NoKey_key
  · exact T.na_NotSure_key
  · exact T.na_NoTaker_name
  · exact T.na_TooMany_many
theorem fd_ex {x f : Str} (h : (x, f) ∈ fdNames) : x ∈ exNames := by
  have z : ∀ y ∈ fdNames, y.1 ∈ exNames := by decide
  exact z _ h
section
variable {P : Program} {w : World} {K : PySem.W.Frag} {mg : Str → Option Value} {base : Heap}
theorem sc__law_field : FnScope ["e"] ["e"] (defScope s__law_field) := ⟨rfl, rfl, rfl, by decide +kernel, rfl, by decide +kernel, by decide +kernel⟩
def sp__law_field (K : PySem.W.Frag) : Sp := fun vs H Q _ => ∃ (a : Addr) (x f : Str) (v : V), vs = [.ref a] ∧ (x, f) ∈ fdNames ∧ ExF H a (He.ga K x) [(f, v)] ∧ ∀ H', Same H H' → Q v H'
theorem fo__law_field (T : Tx K mg) {fd : FuncData} (F : FunD K "_law_field" "_law_field" (defArgs s__law_field) (defBody s__law_field) (defScope s__law_field) [] [] (fa__law_field K) fd) : FnOk P w K mg base (L2.CX P w) 1 (fa__law_field K) fd ["e"] (sp__law_field K) := by
  refine fn_mk F sc__law_field (fun vs H Q E h => ?len) (fun cdv A outer s H vs Q E hr h => ?body)
  case len =>
    obtain ⟨a, x, f, v, rfl, hf, h0, q⟩ := h
    rfl
  case body =>
    have hu := hu_of hr
    obtain ⟨a, x, f, v, rfl, hf, h0, q⟩ := h
    refine ⟨_, (pss_cons (ps_if (pt_val (pe_callB (call_isxT (K := K) rfl) (by rfl) T.z_isinstance bt_isinstance (pa_cons (pv 0) (pa_cons (pe_tup (pa_cons (pe_glob (v := .ref (He.ga K "NoPlace")) rfl T.g_NoPlace rfl) (pa_cons (pe_glob (v := .ref (He.ga K "Trimmed")) rfl T.g_Trimmed rfl) pa_nil))) pa_nil)))) (pss_one (ps_ret (pe_xfl (K := K) rfl (pv 0)))) pss_nil)
      (pss_cons (ps_if (pt_val (pe_callB (call_isxT (K := K) rfl) (by rfl) T.z_isinstance bt_isinstance (pa_cons (pv 0) (pa_cons (pe_tup (pa_cons (pe_glob (v := .ref (He.ga K "NoLife")) rfl T.g_NoLife rfl) (pa_cons (pe_glob (v := .ref (He.ga K "Held")) rfl T.g_Held rfl) pa_nil))) pa_nil)))) (pss_one (ps_ret (pe_xfl (K := K) rfl (pv 0)))) pss_nil)
      (pss_cons (ps_if (pt_val (pe_callB (call_isxT (K := K) rfl) (by rfl) T.z_isinstance bt_isinstance (pa_cons (pv 0) (pa_cons (pe_tup (pa_cons (pe_glob (v := .ref (He.ga K "NoReading")) rfl T.g_NoReading rfl) (pa_cons (pe_glob (v := .ref (He.ga K "Waits")) rfl T.g_Waits rfl) (pa_cons (pe_glob (v := .ref (He.ga K "NotAsked")) rfl T.g_NotAsked rfl) (pa_cons (pe_glob (v := .ref (He.ga K "NotOnWire")) rfl T.g_NotOnWire rfl) pa_nil))))) pa_nil)))) (pss_one (ps_ret (pe_xfl (K := K) rfl (pv 0)))) pss_nil)
      (pss_cons (ps_if (pt_val (pe_callB (call_isxT (K := K) rfl) (by rfl) T.z_isinstance bt_isinstance (pa_cons (pv 0) (pa_cons (pe_tup (pa_cons (pe_glob (v := .ref (He.ga K "NoKey")) rfl T.g_NoKey rfl) (pa_cons (pe_glob (v := .ref (He.ga K "NotSure")) rfl T.g_NotSure rfl) pa_nil))) pa_nil)))) (pss_one (ps_ret (pe_xfl (K := K) rfl (pv 0)))) pss_nil)
      (pss_cons (ps_if (pt_val (pe_callB (call_isx (K := K) rfl) (by rfl) T.z_isinstance bt_isinstance (pa_cons (pv 0) (pa_cons (pe_glob (v := .ref (He.ga K "NoTaker")) rfl T.g_NoTaker rfl) pa_nil)))) (pss_one (ps_ret (pe_xfl (K := K) rfl (pv 0)))) pss_nil)
      (pss_one (ps_ret (pe_ifExp (pt_val (pe_callB (call_isx (K := K) rfl) (by rfl) T.z_isinstance bt_isinstance (pa_cons (pv 0) (pa_cons (pe_glob (v := .ref (He.ga K "TooMany")) rfl T.g_TooMany rfl) pa_nil)))) (pe_xfl (K := K) rfl (pv 0)) pe_non)))))))), ?_⟩
    have hx := fd_ex hf
    have hc := T.xc x hx
    have hk := T.xk x hx
    have na := naF T hf
    have s0 := Same.refl H
    repeat walk_at "s"
    refine ⟨by walk_at "few", fun p1 n1 => ?_⟩
    generalize eqp1 : upd _ p1 _ = H1
    obtain ⟨t1, l1⟩ := of_new eqp1 n1
    have s1 := s0.trans t1
    repeat walk_at "s"
    refine x_isxT (ys := ["NoPlace", "Trimmed"]) (g := He.ga K) l1 (h0.same s1) hc (fun y hy => hk y ((by decide : ∀ y ∈ (["NoPlace", "Trimmed"] : List Str), y ∈ exNames) y hy)) ?_
    repeat walk_at "s"
    refine ite_b (fun e1 => ?_) (fun e1 => ?_)
    · have ef : f = "at" := (by decide : ∀ y ∈ fdNames, (["NoPlace", "Trimmed"] : List Str).any (isSub y.1) = true → y.2 = "at") _ hf e1
      subst ef
      repeat walk_at "s"
      refine ⟨a, _, _, v, rfl, hc, na, h0.same s1, rfl, q _ s1⟩
    repeat walk_at "s"
    refine ⟨by walk_at "few", fun p2 n2 => ?_⟩
    generalize eqp2 : upd _ p2 _ = H2
    obtain ⟨t2, l2⟩ := of_new eqp2 n2
    have s2 := s1.trans t2
    repeat walk_at "s"
    refine x_isxT (ys := ["NoLife", "Held"]) (g := He.ga K) l2 (h0.same s2) hc (fun y hy => hk y ((by decide : ∀ y ∈ (["NoLife", "Held"] : List Str), y ∈ exNames) y hy)) ?_
    repeat walk_at "s"
    refine ite_b (fun e2 => ?_) (fun e2 => ?_)
    · have ef : f = "who" := (by decide : ∀ y ∈ fdNames, (["NoLife", "Held"] : List Str).any (isSub y.1) = true → y.2 = "who") _ hf e2
      subst ef
      repeat walk_at "s"
      refine ⟨a, _, _, v, rfl, hc, na, h0.same s2, rfl, q _ s2⟩
    repeat walk_at "s"
    refine ⟨by walk_at "few", fun p3 n3 => ?_⟩
    generalize eqp3 : upd _ p3 _ = H3
    obtain ⟨t3, l3⟩ := of_new eqp3 n3
    have s3 := s2.trans t3
    repeat walk_at "s"
    refine x_isxT (ys := ["NoReading", "Waits", "NotAsked", "NotOnWire"]) (g := He.ga K) l3 (h0.same s3) hc (fun y hy => hk y ((by decide : ∀ y ∈ (["NoReading", "Waits", "NotAsked", "NotOnWire"] : List Str), y ∈ exNames) y hy)) ?_
    repeat walk_at "s"
    refine ite_b (fun e3 => ?_) (fun e3 => ?_)
    · have ef : f = "number" := (by decide : ∀ y ∈ fdNames, (["NoReading", "Waits", "NotAsked", "NotOnWire"] : List Str).any (isSub y.1) = true → y.2 = "number") _ hf e3
      subst ef
      repeat walk_at "s"
      refine ⟨a, _, _, v, rfl, hc, na, h0.same s3, rfl, q _ s3⟩
    repeat walk_at "s"
    refine ⟨by walk_at "few", fun p4 n4 => ?_⟩
    generalize eqp4 : upd _ p4 _ = H4
    obtain ⟨t4, l4⟩ := of_new eqp4 n4
    have s4 := s3.trans t4
    repeat walk_at "s"
    refine x_isxT (ys := ["NoKey", "NotSure"]) (g := He.ga K) l4 (h0.same s4) hc (fun y hy => hk y ((by decide : ∀ y ∈ (["NoKey", "NotSure"] : List Str), y ∈ exNames) y hy)) ?_
    repeat walk_at "s"
    refine ite_b (fun e4 => ?_) (fun e4 => ?_)
    · have ef : f = "key" := (by decide : ∀ y ∈ fdNames, (["NoKey", "NotSure"] : List Str).any (isSub y.1) = true → y.2 = "key") _ hf e4
      subst ef
      repeat walk_at "s"
      refine ⟨a, _, _, v, rfl, hc, na, h0.same s4, rfl, q _ s4⟩
    repeat walk_at "s"
    refine x_isx (h0.same s4) hc (.own _) (hk "NoTaker" (by decide)) ?_
    repeat walk_at "s"
    refine ite_b (fun e5 => ?_) (fun e5 => ?_)
    · have ef : f = "name" := (by decide : ∀ y ∈ fdNames, isSub y.1 "NoTaker" = true → y.2 = "name") _ hf e5
      subst ef
      repeat walk_at "s"
      refine ⟨a, _, _, v, rfl, hc, na, h0.same s4, rfl, q _ s4⟩
    repeat walk_at "s"
    refine x_isx (h0.same s4) hc (.own _) (hk "TooMany" (by decide)) ?_
    repeat walk_at "s"
    have e6 : isSub x "TooMany" = true := (by decide : ∀ y ∈ fdNames, (["NoPlace", "Trimmed"] : List Str).any (isSub y.1) = false → (["NoLife", "Held"] : List Str).any (isSub y.1) = false → (["NoReading", "Waits", "NotAsked", "NotOnWire"] : List Str).any (isSub y.1) = false → (["NoKey", "NotSure"] : List Str).any (isSub y.1) = false → isSub y.1 "NoTaker" = false → isSub y.1 "TooMany" = true) _ hf e1 e2 e3 e4 e5
    have ef : f = "many" := (by decide : ∀ y ∈ fdNames, isSub y.1 "TooMany" = true → y.2 = "many") _ hf e6
    subst ef
    rw [e6]
    repeat walk_at "s"
    refine ⟨a, _, _, v, rfl, hc, na, h0.same s4, rfl, q _ s4⟩
theorem ok__law_field (T : Tx K mg) : Ca P w K mg base 1 "_law_field" (sp__law_field K) [] := by
  obtain ⟨fd, F⟩ := T.f__law_field
  exact ⟨_, fd, ["e"], [], fo__law_field T F, T.g__law_field, F.kp, bd_mk (st := s__law_field) F (ps := ["e"]) fun _ _ _ _ _ _ us hl => match us, hl with | [_], _ => rfl, .nil⟩
theorem sc__law_made_right : FnScope ["e", "due"] ["e", "due"] (defScope s__law_made_right) := ⟨rfl, rfl, rfl, by decide +kernel, rfl, by decide +kernel, by decide +kernel⟩
def sp__law_made_right (K : PySem.W.Frag) : Sp := fun vs H Q _ => ∃ (a : Addr) (x due : Str) (fs : List (Str × V)), vs = [.ref a, .str due] ∧ x ∈ exNames ∧ ExF H a (He.ga K x) fs ∧ due.length ≤ 100 ∧ ∀ H', Same H H' → Q (.bl (decide (kindsX x = due ++ "+"))) H'
theorem fo__law_made_right (T : Tx K mg) {fd : FuncData} (F : FunD K "_law_made_right" "_law_made_right" (defArgs s__law_made_right) (defBody s__law_made_right) (defScope s__law_made_right) [] [] (fa__law_made_right K) fd) : FnOk P w K mg base (L2.CX P w) 2 (fa__law_made_right K) fd ["e", "due"] (sp__law_made_right K) := by
  have c__law_kinds := ok__law_kinds (P := P) (w := w) (base := base) T
  refine fn_mk F sc__law_made_right (fun vs H Q E h => ?len) (fun cdv A outer s H vs Q E hr h => ?body)
  case len =>
    obtain ⟨a, x, due, fs, rfl, hx, h0, hl, q⟩ := h
    rfl
  case body =>
    have hu := hu_of hr
    obtain ⟨a, x, due, fs, rfl, hx, h0, hl, q⟩ := h
    refine ⟨_, (pss_one (ps_ret (pe_and (pe_callB (call_isx (K := K) rfl) (by rfl) T.z_isinstance bt_isinstance (pa_cons (pv 0) (pa_cons (pe_glob (v := .ref (He.ga K "TideError")) rfl T.g_TideError rfl) pa_nil))) (pe_one (pe_cmpR op_eq (pe_ca c__law_kinds hr (by decide) rfl (pa_cons (pv 0) pa_nil)) (pe_op op_addStr (pv 1) pe_str) (nomark _)))))), ?_⟩
    have hc := T.xc x hx
    have hk := T.xk x hx
    have ht : isSub x "TideError" = true := (by decide : ∀ y ∈ exNames, isSub y "TideError" = true) x hx
    repeat walk_at "s"
    refine x_isx h0 hc (.own _) (hk "TideError" (by decide)) ?_
    rw [ht]
    repeat walk_at "s"
    refine ⟨a, x, fs, rfl, hx, h0, fun H1 s1 => ?_⟩
    repeat walk_at "s"
    refine ⟨_, _, rfl, rfl, ?_, ?_⟩
    · rw [sizeLine_eq, show ("+" : Str).length = 1 by decide]
      omega
    repeat walk_at "s"
    exact q _ s1
theorem ok__law_made_right (T : Tx K mg) : Ca P w K mg base 2 "_law_made_right" (sp__law_made_right K) [] := by
  obtain ⟨fd, F⟩ := T.f__law_made_right
  exact ⟨_, fd, ["e", "due"], [], fo__law_made_right T F, T.g__law_made_right, F.kp, bd_mk (st := s__law_made_right) F (ps := ["e", "due"]) fun _ _ _ _ _ _ us hl => match us, hl with | [_, _], _ => rfl, .nil⟩
end
end T

set_option maxHeartbeats 4000000
namespace T
open PySem PySem.Spec PyProof.Rows L2
local macro_rules | `(tactic| walk_at "dp") => `(tactic| first | assumption | exact Dt.dp (by assumption) | exact Dp.int _ | exact Dp.str _ | exact Dp.non | exact Dp.bl _ | (refine dpm (by assumption) ?_; walk_at "dp"))
local macro_rules | `(tactic| walk_at "ix") => `(tactic| first | rfl | decide | assumption)
local macro_rules | `(tactic| walk_at "sm") => `(tactic| first | assumption | exact Same.refl _ | exact Same.trans (by assumption) (by assumption) | (refine Same.trans ?_ (by assumption); walk_at "sm"))
local macro_rules | `(tactic| walk_at "fv") => `(tactic| (intro u hu; (first | obtain rfl := dp_int hu | obtain rfl := dp_str hu | obtain rfl := dp_non hu | obtain rfl := dp_bl hu | skip)))
local macro_rules | `(tactic| walk_at "few") => `(tactic| (simp only [List.length_append, List.length_cons, List.length_nil, sizeLine_eq] <;> omega))
local macro_rules | `(tactic| walk_at "st") => `(tactic| (simp only [L2.start, L2.wipe, List.map_cons, List.map_nil, List.length_cons, List.length_nil, List.replicate_succ, List.replicate_zero, List.cons_append, List.nil_append, List.set_cons_succ, List.set_cons_zero, Nat.reduceAdd, Nat.reduceSub] <;> rfl))
local macro_rules | `(tactic| walk_at "s") => `(tactic| first
  | with_reducible refine x_seq ?_
  | with_reducible refine x_asg ?_
  | with_reducible refine x_nameE (by walk_at "st") ?_
  | with_reducible refine x_ifS ?_
  | with_reducible refine x_ret ?_
  | with_reducible refine x_drop ?_
  | with_reducible refine x_op ?_
  | with_reducible refine x_un ?_
  | with_reducible refine x_test ?_
  | with_reducible refine x_B ?_
  | with_reducible refine x_and ?_
  | with_reducible refine x_or ?_
  | with_reducible refine x_not ?_
  | with_reducible refine x_andV ?_
  | with_reducible refine x_orV ?_
  | with_reducible refine x_notV ?_
  | with_reducible refine x_if ?_
  | with_reducible refine x_chain ?_
  | with_reducible refine x_CB ?_
  | with_reducible refine x_nil ?_
  | with_reducible refine x_cons ?_
  | with_reducible refine x_call ?_
  | with_reducible refine x_tup ?_
  | with_reducible refine x_lst ?_
  | with_reducible refine x_sl ?_
  | with_reducible refine x_noPart ?_
  | with_reducible refine x_part ?_
  | with_reducible refine x_c ?_
  | with_reducible refine x_retN ?_
  | with_reducible refine x_next ?_
  | with_reducible refine x_dget ?_
  | with_reducible refine x_din ?_
  | with_reducible refine x_dnotin ?_
  | with_reducible refine x_dput ?_
  | with_reducible refine x_dpop2 ?_
  | with_reducible refine x_dpop1 ?_
  | with_reducible refine x_dget2 ?_
  | with_reducible refine x_iTup ?_
  | with_reducible refine x_iList ?_
  | with_reducible refine x_iRng1 ?_
  | with_reducible refine x_iRng2 ?_
  | with_reducible refine x_iZip ?_
  | with_reducible refine x_lc ?_
  | with_reducible refine x_yes ?_
  | with_reducible refine x_for ?_
  | with_reducible refine x_gCons ?_
  | with_reducible refine x_gNil ?_
  | with_reducible refine x_mk0 ?_
  | with_reducible refine x_xm ?_
  | with_reducible refine x_xm0 ?_
  | with_reducible refine x_xmK ?_
  | with_reducible refine x_vei ?_
  | with_reducible refine x_ost ?_
  | with_reducible refine x_xfl ?_
  | with_reducible refine x_gSub ?_
  | ((with_reducible show L2.rSetL (V.ref _) (V.int _) _ _ _); refine x_put (by assumption) (by rfl) ?_)
  | with_reducible refine x_I0 ?_
  | with_reducible refine x_eqI ?_
  | with_reducible refine x_neI ?_
  | with_reducible refine x_eqS ?_
  | with_reducible refine x_neS ?_
  | with_reducible refine x_isN ?_
  | with_reducible refine x_notN ?_
  | ((with_reducible show tVar _ _ _ _); refine x_var rfl ?_)
  | ((with_reducible show wipe _ _ = wipe _ _ ∧ _); refine ⟨rfl, ?_⟩)
  | ((with_reducible show rIsi _ [_, V.ty "int"] _ _); refine x_isi (by walk_at "dp") (k_int _) ?_)
  | ((with_reducible show rIsi _ [_, V.ty "bool"] _ _); refine x_isi (by walk_at "dp") (k_bool _) ?_)
  | ((with_reducible show rIsi _ [_, V.ty "tuple"] _ _); refine x_isi (by walk_at "dp") (k_tup _) ?_)
  | ((with_reducible show rIsi _ [_, V.ty "str"] _ _); refine x_isi (by walk_at "dp") (k_str _) ?_)
  | ((with_reducible show rLen _ [_] _ _); (first | refine x_len_t (by walk_at "dp") ?_ | refine x_len_l (by walk_at "dp") ?_ | refine x_len_L (by assumption) ?_))
  | ((with_reducible show rIxT _ _ (V.int _) _ _); (refine x_ixT (by walk_at "dp") (by walk_at "ix") ?_; walk_at "fv"))
  | ((with_reducible show rIxL _ (V.ref _) (V.int _) _ _); (refine x_ixL (by assumption) (by walk_at "ix") ?_))
  | ((with_reducible show ∃ _, _ = V.bl _ ∧ _); refine ⟨_, rfl, ?_⟩)
  | ((with_reducible show ∃ k, V.bl _ = V.bl k ∧ _); refine ⟨_, rfl, ?_⟩)
  | ((with_reducible show ∃ k, V.int _ = V.int k ∧ _); refine ⟨_, rfl, ?_⟩)
  | ((with_reducible show if true = true then _ else _); refine iteT ?_)
  | ((with_reducible show if false = true then _ else _); refine iteF ?_)
  | ((with_reducible show if _ = true then _ else _); (first | refine ite_t (by assumption) ?_ | refine ite_f (by assumption) ?_ | refine ite_t (by rfl) ?_ | refine ite_f (by rfl) ?_))
  | dsimp only)
section
variable {P : Program} {w : World} {K : PySem.W.Frag} {mg : Str → Option Value} {base : Heap}
end
def PrX (K : PySem.W.Frag) (H : Hp) (v : V) (q : Str × List (Str × V)) : Prop := ∃ p a, v = .ref p ∧ SqT K H p [.ref a, .str q.1] ∧ ExF H a (He.ga K q.1) q.2
theorem PrX.same {K : PySem.W.Frag} {H H' : Hp} {v : V} {q : Str × List (Str × V)} (s : Same H H') (h : PrX K H v q) : PrX K H' v q := by
  obtain ⟨p, a, e, h1, h2⟩ := h
  exact ⟨p, a, e, sqt_same s h1, h2.same s⟩
def ExX (K : PySem.W.Frag) (H : Hp) (m : Int) (v : V) (q : Str × Str) : Prop := ∃ a, v = .ref a ∧ ExF H a (He.ga K q.1) [(q.2, .int m)]
theorem ExX.same {K : PySem.W.Frag} {H H' : Hp} {m : Int} {v : V} {q : Str × Str} (s : Same H H') (h : ExX K H m v q) : ExX K H' m v q := by
  obtain ⟨a, e, h2⟩ := h
  exact ⟨a, e, h2.same s⟩
theorem par_get {α β : Type} {R : α → β → Prop} : ∀ {xs : List α} {ys : List β} {i : Nat} {x : α}, Paired R xs ys → xs[i]? = some x → ∃ y, ys[i]? = some y ∧ R x y
  | _, _, i, _, .nil, e => by simp at e
  | _, _, 0, _, .cons h _, e => by
    have z := Option.some.inj e
    subst z
    exact ⟨_, rfl, h⟩
  | _, _, i + 1, _, .cons _ r, e => by
    obtain ⟨y, h1, h2⟩ := par_get (i := i) r (by simpa using e)
    exact ⟨y, by simpa using h1, h2⟩
theorem par_app {α β : Type} {R : α → β → Prop} : ∀ {xs : List α} {ys : List β} {zs : List α} {ws : List β}, Paired R xs ys → Paired R zs ws → Paired R (xs ++ zs) (ys ++ ws)
  | _, _, _, _, .nil, h => h
  | _, _, _, _, .cons h r, h2 => .cons h (par_app r h2)
theorem prs_same {K : PySem.W.Frag} {H H' : Hp} {xs : List V} {ys : List (Str × List (Str × V))} (s : Same H H') (h : Paired (PrX K H) xs ys) : Paired (PrX K H') xs ys := h.mono fun _ _ z => z.same s
theorem exs_same {K : PySem.W.Frag} {H H' : Hp} {m : Int} {xs : List V} {ys : List (Str × Str)} (s : Same H H') (h : Paired (ExX K H m) xs ys) : Paired (ExX K H' m) xs ys := h.mono fun _ _ z => z.same s
def toldQ (m : Int) : List (Str × List (Str × V)) := ([("NoTable", []), ("NoChange", []), ("NoStretch", [])] : List (Str × List (Str × V))) ++ ([("NoRows", []), ("NoName", []), ("NoText", [("line", V.non)]), ("NoRow", [])] : List (Str × List (Str × V))) ++ ([("TooMany", [("many", V.int m)]), ("Twice", [])] : List (Str × List (Str × V)))
def askedQ (word : Str) (m : Int) : List (Str × List (Str × V)) := ([("NoPlace", [("at", V.int m)]), ("NoLife", [("who", V.int m)]), ("NoReading", [("number", V.int m)])] : List (Str × List (Str × V))) ++ ([("Ended", []), ("NotEnded", []), ("Held", [("who", V.int m)])] : List (Str × List (Str × V))) ++ ([("Trimmed", [("at", V.int m)]), ("Waits", [("number", V.int m)]), ("NotAsked", [("number", V.int m)])] : List (Str × List (Str × V))) ++ ([("NoKey", [("key", V.int m)]), ("NotSure", [("key", V.int m)]), ("NoTaker", [("name", V.str word)])] : List (Str × List (Str × V))) ++ ([("NotOnWire", [("number", V.int m)]), ("NothingLeft", [])] : List (Str × List (Str × V)))
def someQ : List (Str × Str) := ([("NoPlace", "at"), ("NoLife", "who"), ("NoReading", "number"), ("Held", "who"), ("Trimmed", "at")] : List (Str × Str)) ++ ([("Waits", "number"), ("NotAsked", "number"), ("NoKey", "key"), ("NotSure", "key")] : List (Str × Str)) ++ ([("NotOnWire", "number"), ("TooMany", "many")] : List (Str × Str))
def toldN : List Str := ["NoTable", "NoChange", "NoStretch", "NoRows", "NoName", "NoText", "NoRow", "TooMany", "Twice"]
def askedN : List Str := ["NoPlace", "NoLife", "NoReading", "Ended", "NotEnded", "Held", "Trimmed", "Waits", "NotAsked", "NoKey", "NotSure", "NoTaker", "NotOnWire", "NothingLeft"]
theorem told_mem {m : Int} {q : Str × List (Str × V)} (h : q ∈ toldQ m) : q.1 ∈ toldN := by
  have z : (toldQ m).map (·.1) = toldN := rfl
  rw [← z]
  exact List.mem_map.mpr ⟨q, h, rfl⟩
theorem asked_mem {word : Str} {m : Int} {q : Str × List (Str × V)} (h : q ∈ askedQ word m) : q.1 ∈ askedN := by
  have z : (askedQ word m).map (·.1) = askedN := rfl
  rw [← z]
  exact List.mem_map.mpr ⟨q, h, rfl⟩
theorem told_ok : ∀ x ∈ toldN, x ∈ exNames ∧ x.length ≤ 20 ∧ kindsX x = ("told " ++ x) ++ "+" := by decide +kernel
theorem asked_ok : ∀ x ∈ askedN, x ∈ exNames ∧ x.length ≤ 20 ∧ kindsX x = ("asked " ++ x) ++ "+" := by decide +kernel
theorem some_ok : ∀ q ∈ someQ, q ∈ fdNames := by decide +kernel
def selN : List Str := ["NoPlace", "Held", "NoKey"]
def cntN (i : Nat) : Nat := ((askedN.take i).filter fun x => selN.contains x).length
theorem cnt_succ {i : Nat} {x : Str} (h : askedN[i]? = some x) : cntN (i + 1) = cntN i + (if selN.contains x = true then 1 else 0) := by
  unfold cntN
  rw [List.take_add_one, h, List.filter_append, List.length_append]
  congr 1
  show (List.filter _ [x]).length = _
  rw [List.filter_cons, List.filter_nil]
  split <;> rfl
theorem cnt_le (i : Nat) : cntN i ≤ i := by
  unfold cntN
  exact Nat.le_trans (List.length_filter_le _ _) (by rw [List.length_take]; omega)
theorem cnt_all : cntN 14 = 3 := by decide +kernel
theorem x_ixS {K : PySem.W.Frag} {H : Hp} {a : Addr} {xs : List V} {j : Int} {v : V} {Q : VK} (h : SqT K H a xs) (e : atI xs j = some v) (q : Q v H) : rIxT K (.ref a) (.int j) H Q := ⟨a, xs, j, v, rfl, rfl, h, e, q⟩
theorem x_rep {H : Hp} {l : Addr} {xs : List V} {k : Int} {Q : VK} (h : H l = some (.lst xs)) (h1 : 0 ≤ k) (h2 : k ≤ 1000) (h3 : xs.length ≤ 10) (q : ∀ p H', H p = none → Same H H' → H' p = some (.lst (List.replicate k.toNat xs).flatten) → Q (.ref p) H') : rRep (.ref l) (.int k) H Q :=
  ⟨l, k, xs, rfl, rfl, h, by omega, by omega, by
    have : xs.length * k.toNat ≤ 10 * 1000 := Nat.mul_le_mul h3 (by omega)
    rw [sizeLine_eq]
    omega, fun p hp => q p _ hp (same_new hp) upd_same⟩
def intsN (n : Nat) (m : Int) : PyData := .list (List.replicate n (.int m))
theorem dpa_rep {K : PySem.W.Frag} {H : Hp} {m : Int} : ∀ n : Nat, DpAll K H (List.replicate n (.int m)) (List.replicate n (.int m))
  | 0 => .nil
  | n + 1 => .cons (.int m) (dpa_rep n)
theorem in_sel {x : Str} : inV (.str x) (selN.map V.str) = selN.contains x := by
  unfold inV
  rw [List.any_map, List.contains_eq_any_beq]
  congr 1
  funext y
  show (y == x) = (x == y)
  exact Bool.beq_comm
theorem map_rep {n : Nat} {v : V} : (List.range n).map (fun _ => v) = List.replicate n v := by
  induction n with
  | zero => rfl
  | succ n ih => rw [List.range_succ, List.map_append, ih, List.replicate_succ']; rfl
section
variable {P : Program} {w : World} {K : PySem.W.Frag} {mg : Str → Option Value} {base : Heap}
theorem sc_law : FnScope ["script", "k", "bag", "word", "man1", "told", "asked", "some", "pair", "e"] ["script"] (defScope s_law) := ⟨rfl, rfl, rfl, by decide +kernel, rfl, by decide +kernel, by decide +kernel⟩
def sp_law (K : PySem.W.Frag) : Sp := fun vs H Q _ => ∃ (a : Addr) (ns : List Int), vs = [.ref a] ∧ SqL K H a (ns.map V.int) ∧ ns.length ≤ 63 ∧ ∀ H', Q (.bl true) H'
theorem fo_law (T : Tx K mg) {fd : FuncData} (F : FunD K "law" "law" (defArgs s_law) (defBody s_law) (defScope s_law) [] [] (fa_law K) fd) : FnOk P w K mg base CX0 3 (fa_law K) fd ["script"] (sp_law K) := by
  have c__law_field := ok__law_field (P := P) (w := w) (base := base) T
  have c__law_made_right := ok__law_made_right (P := P) (w := w) (base := base) T
  have c__law_take := ok__law_take (P := P) (w := w) (base := base) T
  have c__law_name := ok__law_name (P := P) (w := w) (base := base) T
  have c__law_bag := ok__law_bag (P := P) (w := w) (base := base) T
  have c_NoText___init___kw_line := ok_NoText___init___kw_line (P := P) (w := w) (base := base) T
  have c_NoText___init__ := ok_NoText___init__ (P := P) (w := w) (base := base) T
  have c_NoText___init___0 := ok_NoText___init___0 (P := P) (w := w) (base := base) T
  have c_NoTaker___init___kw_name := ok_NoTaker___init___kw_name (P := P) (w := w) (base := base) T
  have c_TooMany___init___kw_many := ok_TooMany___init___kw_many (P := P) (w := w) (base := base) T
  have c_NotOnWire___init___kw_number := ok_NotOnWire___init___kw_number (P := P) (w := w) (base := base) T
  have c_NotSure___init___kw_key := ok_NotSure___init___kw_key (P := P) (w := w) (base := base) T
  have c_NoKey___init___kw_key := ok_NoKey___init___kw_key (P := P) (w := w) (base := base) T
  have c_NotAsked___init___kw_number := ok_NotAsked___init___kw_number (P := P) (w := w) (base := base) T
  have c_Waits___init___kw_number := ok_Waits___init___kw_number (P := P) (w := w) (base := base) T
  have c_Trimmed___init___kw_at := ok_Trimmed___init___kw_at (P := P) (w := w) (base := base) T
  have c_Held___init___kw_who := ok_Held___init___kw_who (P := P) (w := w) (base := base) T
  have c_NoReading___init___kw_number := ok_NoReading___init___kw_number (P := P) (w := w) (base := base) T
  have c_NoLife___init___kw_who := ok_NoLife___init___kw_who (P := P) (w := w) (base := base) T
  have c_NoPlace___init___kw_at := ok_NoPlace___init___kw_at (P := P) (w := w) (base := base) T
  have c_NotOnWire___init__ := ok_NotOnWire___init__ (P := P) (w := w) (base := base) T
  have c_NoTaker___init__ := ok_NoTaker___init__ (P := P) (w := w) (base := base) T
  have c_NotSure___init__ := ok_NotSure___init__ (P := P) (w := w) (base := base) T
  have c_NoKey___init__ := ok_NoKey___init__ (P := P) (w := w) (base := base) T
  have c_NotAsked___init__ := ok_NotAsked___init__ (P := P) (w := w) (base := base) T
  have c_Waits___init__ := ok_Waits___init__ (P := P) (w := w) (base := base) T
  have c_Trimmed___init__ := ok_Trimmed___init__ (P := P) (w := w) (base := base) T
  have c_Held___init__ := ok_Held___init__ (P := P) (w := w) (base := base) T
  have c_NoReading___init__ := ok_NoReading___init__ (P := P) (w := w) (base := base) T
  have c_NoLife___init__ := ok_NoLife___init__ (P := P) (w := w) (base := base) T
  have c_NoPlace___init__ := ok_NoPlace___init__ (P := P) (w := w) (base := base) T
  have c_TooMany___init__ := ok_TooMany___init__ (P := P) (w := w) (base := base) T
  refine fn_mk F sc_law (fun vs H Q E h => ?len) (fun cdv A outer s H vs Q E hr h => ?body)
  case len =>
    obtain ⟨a, ns, rfl, hs, hl, q⟩ := h
    rfl
  case body =>
    have hu := hu_of hr
    obtain ⟨a, ns, rfl, hs, hl, q⟩ := h
    refine ⟨_, (pss_cons (ps_for (passes_of rfl) rfl (pi_range1 (by rfl) T.z_range (pa_cons (pe_op op_add pe_int (pe_callB (call_min2_ rfl) (by rfl) T.z_min bt_min (pa_cons (pe_callB (call_lenQ (K := K) rfl) (by rfl) T.z_len bt_len (pa_cons (pv 0) pa_nil)) (pa_cons pe_int pa_nil)))) pa_nil)) (pg_name (i := 1) sc_law.nd rfl (by first | exact Or.inl rfl | exact Or.inr rfl)) (pss_cons (ps_set (i := 2) sc_law.nd rfl (by first | exact Or.inl rfl | exact Or.inr rfl) (pe_ca c__law_bag hr (by decide) rfl (pa_cons (pv 0) (pa_cons (pv 1) pa_nil))))
      (pss_cons (ps_set (i := 3) sc_law.nd rfl (by first | exact Or.inl rfl | exact Or.inr rfl) (pe_ix (ix_list_ (K := K) rfl) (pe_lst (pa_cons (pe_ca c__law_name hr (by decide) rfl (pa_cons (pv 2) pa_nil)) (pa_cons pe_str (pa_cons pe_str pa_nil)))) (pe_ca c__law_take hr (by decide) rfl (pa_cons (pv 2) (pa_cons pe_int pa_nil))) (fun _ _ => rfl)))
      (pss_cons (ps_set (i := 4) sc_law.nd rfl (by first | exact Or.inl rfl | exact Or.inr rfl) (pe_op op_sub (pe_ca c__law_take hr (by decide) rfl (pa_cons (pv 2) (pa_cons (pe_op op_pow pe_int pe_int) pa_nil))) pe_int))
      (pss_cons (ps_set (i := 5) sc_law.nd rfl (by first | exact Or.inl rfl | exact Or.inr rfl) (pe_lst (pa_cons (pe_tup (pa_cons (pe_mk0 PySem.F.excBase_ValueError T.xe_NoTable.1 T.g_NoTable T.xe_NoTable.2.1 rfl (pa_cons pe_str pa_nil)) (pa_cons pe_str pa_nil))) (pa_cons (pe_tup (pa_cons (pe_mk0 PySem.F.excBase_ValueError T.xe_NoChange.1 T.g_NoChange T.xe_NoChange.2.1 rfl (pa_cons pe_str pa_nil)) (pa_cons pe_str pa_nil))) (pa_cons (pe_tup (pa_cons (pe_mk0 PySem.F.excBase_ValueError T.xe_NoStretch.1 T.g_NoStretch T.xe_NoStretch.2.1 rfl (pa_cons pe_str pa_nil)) (pa_cons pe_str pa_nil))) pa_nil)))))
      (pss_cons (ps_set (i := 5) sc_law.nd rfl (by first | exact Or.inl rfl | exact Or.inr rfl) (pe_op op_cat (pv 5) (pe_lst (pa_cons (pe_tup (pa_cons (pe_mk0 PySem.F.excBase_ValueError T.xe_NoRows.1 T.g_NoRows T.xe_NoRows.2.1 rfl (pa_cons pe_str pa_nil)) (pa_cons pe_str pa_nil))) (pa_cons (pe_tup (pa_cons (pe_mk0 PySem.F.excBase_ValueError T.xe_NoName.1 T.g_NoName T.xe_NoName.2.1 rfl (pa_cons pe_str pa_nil)) (pa_cons pe_str pa_nil))) (pa_cons (pe_tup (pa_cons (pe_xm0 c_NoText___init___0 hr (by decide) rfl) (pa_cons pe_str pa_nil))) (pa_cons (pe_tup (pa_cons (pe_mk0 PySem.F.excBase_ValueError T.xe_NoRow.1 T.g_NoRow T.xe_NoRow.2.1 rfl (pa_cons pe_str pa_nil)) (pa_cons pe_str pa_nil))) pa_nil)))))))
      (pss_cons (ps_set (i := 5) sc_law.nd rfl (by first | exact Or.inl rfl | exact Or.inr rfl) (pe_op op_cat (pv 5) (pe_lst (pa_cons (pe_tup (pa_cons (pe_xm c_TooMany___init__ hr (by decide) rfl (pa_cons (pv 4) pa_nil)) (pa_cons pe_str pa_nil))) (pa_cons (pe_tup (pa_cons (pe_mk0 PySem.F.excBase_ValueError T.xe_Twice.1 T.g_Twice T.xe_Twice.2.1 rfl (pa_cons pe_str pa_nil)) (pa_cons pe_str pa_nil))) pa_nil)))))
      (pss_cons (ps_set (i := 6) sc_law.nd rfl (by first | exact Or.inl rfl | exact Or.inr rfl) (pe_lst (pa_cons (pe_tup (pa_cons (pe_xm c_NoPlace___init__ hr (by decide) rfl (pa_cons (pv 4) pa_nil)) (pa_cons pe_str pa_nil))) (pa_cons (pe_tup (pa_cons (pe_xm c_NoLife___init__ hr (by decide) rfl (pa_cons (pv 4) pa_nil)) (pa_cons pe_str pa_nil))) (pa_cons (pe_tup (pa_cons (pe_xm c_NoReading___init__ hr (by decide) rfl (pa_cons (pv 4) pa_nil)) (pa_cons pe_str pa_nil))) pa_nil)))))
      (pss_cons (ps_set (i := 6) sc_law.nd rfl (by first | exact Or.inl rfl | exact Or.inr rfl) (pe_op op_cat (pv 6) (pe_lst (pa_cons (pe_tup (pa_cons (pe_mk0 PySem.F.excBase_ValueError T.xe_Ended.1 T.g_Ended T.xe_Ended.2.1 rfl (pa_cons pe_str pa_nil)) (pa_cons pe_str pa_nil))) (pa_cons (pe_tup (pa_cons (pe_mk0 PySem.F.excBase_ValueError T.xe_NotEnded.1 T.g_NotEnded T.xe_NotEnded.2.1 rfl (pa_cons pe_str pa_nil)) (pa_cons pe_str pa_nil))) (pa_cons (pe_tup (pa_cons (pe_xm c_Held___init__ hr (by decide) rfl (pa_cons (pv 4) pa_nil)) (pa_cons pe_str pa_nil))) pa_nil))))))
      (pss_cons (ps_set (i := 6) sc_law.nd rfl (by first | exact Or.inl rfl | exact Or.inr rfl) (pe_op op_cat (pv 6) (pe_lst (pa_cons (pe_tup (pa_cons (pe_xm c_Trimmed___init__ hr (by decide) rfl (pa_cons (pv 4) pa_nil)) (pa_cons pe_str pa_nil))) (pa_cons (pe_tup (pa_cons (pe_xm c_Waits___init__ hr (by decide) rfl (pa_cons (pv 4) pa_nil)) (pa_cons pe_str pa_nil))) (pa_cons (pe_tup (pa_cons (pe_xm c_NotAsked___init__ hr (by decide) rfl (pa_cons (pv 4) pa_nil)) (pa_cons pe_str pa_nil))) pa_nil))))))
      (pss_cons (ps_set (i := 6) sc_law.nd rfl (by first | exact Or.inl rfl | exact Or.inr rfl) (pe_op op_cat (pv 6) (pe_lst (pa_cons (pe_tup (pa_cons (pe_xm c_NoKey___init__ hr (by decide) rfl (pa_cons (pv 4) pa_nil)) (pa_cons pe_str pa_nil))) (pa_cons (pe_tup (pa_cons (pe_xm c_NotSure___init__ hr (by decide) rfl (pa_cons (pv 4) pa_nil)) (pa_cons pe_str pa_nil))) (pa_cons (pe_tup (pa_cons (pe_xm c_NoTaker___init__ hr (by decide) rfl (pa_cons (pv 3) pa_nil)) (pa_cons pe_str pa_nil))) pa_nil))))))
      (pss_cons (ps_set (i := 6) sc_law.nd rfl (by first | exact Or.inl rfl | exact Or.inr rfl) (pe_op op_cat (pv 6) (pe_lst (pa_cons (pe_tup (pa_cons (pe_xm c_NotOnWire___init__ hr (by decide) rfl (pa_cons (pv 4) pa_nil)) (pa_cons pe_str pa_nil))) (pa_cons (pe_tup (pa_cons (pe_mk0 PySem.F.excBase_ValueError T.xe_NothingLeft.1 T.g_NothingLeft T.xe_NothingLeft.2.1 rfl (pa_cons pe_str pa_nil)) (pa_cons pe_str pa_nil))) pa_nil)))))
      (pss_cons (ps_if (pt_cmpR (op_neD_ (K := K) rfl hr.units) (pe_lc (own := [("pair", 8)]) rfl sc_law.nd (pi_list_ (K := K) rfl (pv 5)) (blkOk_by (own := [("pair", 8)]) (N := ["script", "k", "bag", "word", "man1", "told", "asked", "some", "pair", "e"]) (sc := (defScope s_law)) (by decide +kernel)) (fun _ _ _ _ _ => (pg_name (i := 8) sc_law.nd rfl (by first | exact Or.inl rfl | exact Or.inr rfl))) (fun _ _ _ _ _ => (pts_one (pt_not (pt_val (pe_ca c__law_made_right hr (by decide) rfl (pa_cons (pe_ix (ix_tup_ (K := K) rfl) (pv 8) pe_int (fun _ _ => rfl)) (pa_cons (pe_op op_addStr pe_str (pe_ix (ix_tup_ (K := K) rfl) (pv 8) pe_int (fun _ _ => rfl))) pa_nil))))))) (fun _ _ _ _ _ => (pv 8))) (pe_lst pa_nil) (nomark _)) (pss_one (ps_ret pe_bl)) pss_nil)
      (pss_cons (ps_if (pt_cmpR (op_neD_ (K := K) rfl hr.units) (pe_lc (own := [("pair", 8)]) rfl sc_law.nd (pi_list_ (K := K) rfl (pv 6)) (blkOk_by (own := [("pair", 8)]) (N := ["script", "k", "bag", "word", "man1", "told", "asked", "some", "pair", "e"]) (sc := (defScope s_law)) (by decide +kernel)) (fun _ _ _ _ _ => (pg_name (i := 8) sc_law.nd rfl (by first | exact Or.inl rfl | exact Or.inr rfl))) (fun _ _ _ _ _ => (pts_one (pt_not (pt_val (pe_ca c__law_made_right hr (by decide) rfl (pa_cons (pe_ix (ix_tup_ (K := K) rfl) (pv 8) pe_int (fun _ _ => rfl)) (pa_cons (pe_op op_addStr pe_str (pe_ix (ix_tup_ (K := K) rfl) (pv 8) pe_int (fun _ _ => rfl))) pa_nil))))))) (fun _ _ _ _ _ => (pv 8))) (pe_lst pa_nil) (nomark _)) (pss_one (ps_ret pe_bl)) pss_nil)
      (pss_cons (ps_set (i := 7) sc_law.nd rfl (by first | exact Or.inl rfl | exact Or.inr rfl) (pe_lst (pa_cons (pe_xmK c_NoPlace___init___kw_at hr (by decide) rfl (pk_cons (pv 4) pk_nil)) (pa_cons (pe_xmK c_NoLife___init___kw_who hr (by decide) rfl (pk_cons (pv 4) pk_nil)) (pa_cons (pe_xmK c_NoReading___init___kw_number hr (by decide) rfl (pk_cons (pv 4) pk_nil)) (pa_cons (pe_xmK c_Held___init___kw_who hr (by decide) rfl (pk_cons (pv 4) pk_nil)) (pa_cons (pe_xmK c_Trimmed___init___kw_at hr (by decide) rfl (pk_cons (pv 4) pk_nil)) pa_nil)))))))
      (pss_cons (ps_set (i := 7) sc_law.nd rfl (by first | exact Or.inl rfl | exact Or.inr rfl) (pe_op op_cat (pv 7) (pe_lst (pa_cons (pe_xmK c_Waits___init___kw_number hr (by decide) rfl (pk_cons (pv 4) pk_nil)) (pa_cons (pe_xmK c_NotAsked___init___kw_number hr (by decide) rfl (pk_cons (pv 4) pk_nil)) (pa_cons (pe_xmK c_NoKey___init___kw_key hr (by decide) rfl (pk_cons (pv 4) pk_nil)) (pa_cons (pe_xmK c_NotSure___init___kw_key hr (by decide) rfl (pk_cons (pv 4) pk_nil)) pa_nil)))))))
      (pss_cons (ps_set (i := 7) sc_law.nd rfl (by first | exact Or.inl rfl | exact Or.inr rfl) (pe_op op_cat (pv 7) (pe_lst (pa_cons (pe_xmK c_NotOnWire___init___kw_number hr (by decide) rfl (pk_cons (pv 4) pk_nil)) (pa_cons (pe_xmK c_TooMany___init___kw_many hr (by decide) rfl (pk_cons (pv 4) pk_nil)) pa_nil)))))
      (pss_cons (ps_if (PW.pt (pw_or (pt_cmpR (op_neD_ (K := K) rfl hr.units) (pe_lc (own := [("e", 9)]) rfl sc_law.nd (pi_list_ (K := K) rfl (pv 7)) (blkOk_by (own := [("e", 9)]) (N := ["script", "k", "bag", "word", "man1", "told", "asked", "some", "pair", "e"]) (sc := (defScope s_law)) (by decide +kernel)) (fun _ _ _ _ _ => (pg_name (i := 9) sc_law.nd rfl (by first | exact Or.inl rfl | exact Or.inr rfl))) (fun _ _ _ _ _ => pts_nil) (fun _ _ _ _ _ => (pe_ca c__law_field hr (by decide) rfl (pa_cons (pv 9) pa_nil)))) (pe_op op_rep (pe_lst (pa_cons (pv 4) pa_nil)) pe_int) (nomark _)) (pw_or1 (pt_cmpR op_ne (pe_xfl (K := K) rfl (pe_xmK c_NoTaker___init___kw_name hr (by decide) rfl (pk_cons (pv 3) pk_nil))) (pv 3) (nomark _))))) (pss_one (ps_ret pe_bl)) pss_nil)
      (pss_cons (ps_if (pt_cmpR (op_neD_ (K := K) rfl hr.units) (pe_lc (own := [("pair", 8)]) rfl sc_law.nd (pi_list_ (K := K) rfl (pv 6)) (blkOk_by (own := [("pair", 8)]) (N := ["script", "k", "bag", "word", "man1", "told", "asked", "some", "pair", "e"]) (sc := (defScope s_law)) (by decide +kernel)) (fun _ _ _ _ _ => (pg_name (i := 8) sc_law.nd rfl (by first | exact Or.inl rfl | exact Or.inr rfl))) (fun _ _ _ _ _ => (pts_one (pt_cmpR (op_in_seq_ (K := K) rfl) (pe_ix (ix_tup_ (K := K) rfl) (pv 8) pe_int (fun _ _ => rfl)) (pe_lst (pa_cons pe_str (pa_cons pe_str (pa_cons pe_str pa_nil)))) rfl))) (fun _ _ _ _ _ => (pe_ca c__law_field hr (by decide) rfl (pa_cons (pe_ix (ix_tup_ (K := K) rfl) (pv 8) pe_int (fun _ _ => rfl)) pa_nil)))) (pe_op op_rep (pe_lst (pa_cons (pv 4) pa_nil)) pe_int) (nomark _)) (pss_one (ps_ret pe_bl)) pss_nil)
      (pss_one (ps_if (PW.pt (pw_or (pt_cmpR op_notN_ (pe_xfl (K := K) rfl (pe_xm0 c_NoText___init___0 hr (by decide) rfl)) pe_non (nomark _)) (pw_or (pt_cmpR op_ne (pe_xfl (K := K) rfl (pe_xm c_NoText___init__ hr (by decide) rfl (pa_cons (pv 4) pa_nil))) (pv 4) (nomark _)) (pw_or1 (pt_cmpR op_ne (pe_xfl (K := K) rfl (pe_xmK c_NoText___init___kw_line hr (by decide) rfl (pk_cons (pv 4) pk_nil))) (pv 4) (nomark _)))))) (pss_one (ps_ret pe_bl)) pss_nil)))))))))))))))))))))
      (pss_one (ps_ret pe_bl))), ?_⟩
    repeat walk_at "s"
    refine ⟨_, _, rfl, ?_⟩
    repeat walk_at "s"
    obtain ⟨N, hN, hN2⟩ : ∃ N : Nat, (1 + (if (10 : Int) < ((ns.map V.int).length : Int) then 10 else ((ns.map V.int).length : Int))) = (N : Int) ∧ N ≤ 1000 := by
      rw [List.length_map]
      by_cases z : (10 : Int) < (ns.length : Int)
      · rw [if_pos z]; exact ⟨11, rfl, by decide⟩
      · rw [if_neg z]; exact ⟨1 + ns.length, by omega, by omega⟩
    rw [hN]
    refine ⟨_, rfl, by omega, by omega, ?_⟩
    refine for_itX walk_range (fun _ σ H' => Same H H' ∧ σ[0]? = some (some (V.ref a)) ∧ σ.length = 10) ?_ (fun _ _ _ _ _ => trivial) ?_ ?_
    · exact ⟨Same.refl H, rfl, rfl⟩
    rotate_left
    · rintro σ H1 ⟨s1, _, _⟩
      repeat walk_at "s"
      exact q _
    rintro i x σ Hs Hs' hi ⟨s0, v0, lσ⟩ ⟨rfl, rfl⟩
    obtain ⟨c1, c2, c3, c4, c5, c6, c7, c8, c9, rfl⟩ : ∃ c1 c2 c3 c4 c5 c6 c7 c8 c9, σ = [some (V.ref a), c1, c2, c3, c4, c5, c6, c7, c8, c9] := by
      match σ, v0, lσ with
      | [y, c1, c2, c3, c4, c5, c6, c7, c8, c9], e, _ => exact ⟨c1, c2, c3, c4, c5, c6, c7, c8, c9, by rw [Option.some.inj e]⟩
    repeat walk_at "s"
    rw [Int.zero_add]
    have hi' : i < N := hi
    refine ⟨a, ns, i, rfl, s0.seq hs, by omega, fun b H1 t1 nb bag1 => ?_⟩
    have s1 := s0.trans t1
    have nb0 : H b = none := same_free s0 nb
    repeat walk_at "s"
    refine ⟨b, rfl, bag1, fun z H2 d2 => ?_⟩
    have s2 := same_drew nb0 s1 d2
    repeat walk_at "s"
    refine ⟨by walk_at "few", fun w m3 => ?_⟩
    have nw : b ≠ w := bag_ne d2.bag m3
    have bag2 := d2.bag
    generalize eqw : upd _ w _ = H3
    obtain ⟨t3, l3⟩ := of_new eqw m3
    have s3 := s2.trans t3
    have bag3 := bag2.same t3
    repeat walk_at "s"
    refine ⟨b, 3, rfl, bag3, by decide, by decide, fun r H4 r1 r2 d4 => ?_⟩
    have s4 := same_drew nb0 s3 d4
    have l4 := d4.keep w _ l3 (Ne.symm nw)
    obtain ⟨word, hword⟩ : ∃ word : Str, atI [V.str z, V.str "", V.str "A b"] r = some (.str word) := by
      have h3 : r = 0 ∨ r = 1 ∨ r = 2 := by omega
      rcases h3 with rfl | rfl | rfl
      · exact ⟨_, rfl⟩
      · exact ⟨_, rfl⟩
      · exact ⟨_, rfl⟩
    repeat walk_at "s"
    refine x_ixL (.of l4) hword ?_
    repeat walk_at "s"
    refine x_I ⟨by decide, by decide, by decide⟩ ?_
    repeat walk_at "s"
    refine ⟨b, _, rfl, d4.bag, by decide +kernel, by decide +kernel, fun r' H5 r3 r4 d5 => ?_⟩
    have s5 := same_drew nb0 s4 d5
    obtain ⟨m, hm⟩ : ∃ m : Int, r' - 7 = m := ⟨_, rfl⟩
    repeat walk_at "s"
    rw [hm]
    repeat walk_at "s"
    refine ⟨by decide, fun a1 n1 => ?_⟩
    generalize eqa1 : upd _ a1 _ = A1
    obtain ⟨u1, x1⟩ := of_exc eqa1 n1
    repeat walk_at "s"
    refine ⟨by walk_at "few", fun p1 m1 => ?_⟩
    generalize eqp1 : upd _ p1 _ = B1
    obtain ⟨y1, z1⟩ := of_new eqp1 m1
    have pr1 : PrX K B1 (.ref p1) ("NoTable", []) := ⟨p1, a1, rfl, .of z1, x1.same y1⟩
    have st1 := u1.trans y1
    repeat walk_at "s"
    refine ⟨by decide, fun a2 n2 => ?_⟩
    generalize eqa2 : upd _ a2 _ = A2
    obtain ⟨u2, x2⟩ := of_exc eqa2 n2
    repeat walk_at "s"
    refine ⟨by walk_at "few", fun p2 m2 => ?_⟩
    generalize eqp2 : upd _ p2 _ = B2
    obtain ⟨y2, z2⟩ := of_new eqp2 m2
    have pr2 : PrX K B2 (.ref p2) ("NoChange", []) := ⟨p2, a2, rfl, .of z2, x2.same y2⟩
    have st2 := u2.trans y2
    repeat walk_at "s"
    refine ⟨by decide, fun a3 n3 => ?_⟩
    generalize eqa3 : upd _ a3 _ = A3
    obtain ⟨u3, x3⟩ := of_exc eqa3 n3
    repeat walk_at "s"
    refine ⟨by walk_at "few", fun p3 m3 => ?_⟩
    generalize eqp3 : upd _ p3 _ = B3
    obtain ⟨y3, z3⟩ := of_new eqp3 m3
    have pr3 : PrX K B3 (.ref p3) ("NoStretch", []) := ⟨p3, a3, rfl, .of z3, x3.same y3⟩
    have st3 := u3.trans y3
    repeat walk_at "s"
    refine ⟨by walk_at "few", fun q4 n4 => ?_⟩
    generalize eqq4 : upd _ q4 _ = C4
    obtain ⟨y4, z4⟩ := of_new eqq4 n4
    have w3 := y4
    have w2 := st3.trans w3
    have w1 := st2.trans w2
    have sw4 := st1.trans w1
    have pl4 : Paired (PrX K C4) [V.ref p1, V.ref p2, V.ref p3] _ := .cons (pr1.same w1) (.cons (pr2.same w2) (.cons (pr3.same w3) .nil))
    have ssw4n := s5.trans sw4
    repeat walk_at "s"
    refine ⟨by decide, fun a5 n5 => ?_⟩
    generalize eqa5 : upd _ a5 _ = A5
    obtain ⟨u5, x5⟩ := of_exc eqa5 n5
    repeat walk_at "s"
    refine ⟨by walk_at "few", fun p5 m5 => ?_⟩
    generalize eqp5 : upd _ p5 _ = B5
    obtain ⟨y5, z5⟩ := of_new eqp5 m5
    have pr5 : PrX K B5 (.ref p5) ("NoRows", []) := ⟨p5, a5, rfl, .of z5, x5.same y5⟩
    have st5 := u5.trans y5
    repeat walk_at "s"
    refine ⟨by decide, fun a6 n6 => ?_⟩
    generalize eqa6 : upd _ a6 _ = A6
    obtain ⟨u6, x6⟩ := of_exc eqa6 n6
    repeat walk_at "s"
    refine ⟨by walk_at "few", fun p6 m6 => ?_⟩
    generalize eqp6 : upd _ p6 _ = B6
    obtain ⟨y6, z6⟩ := of_new eqp6 m6
    have pr6 : PrX K B6 (.ref p6) ("NoName", []) := ⟨p6, a6, rfl, .of z6, x6.same y6⟩
    have st6 := u6.trans y6
    repeat walk_at "s"
    refine new_xm0 (v := .non) fun a7 A7 u7 x7 => ?_
    repeat walk_at "s"
    refine ⟨by walk_at "few", fun p7 m7 => ?_⟩
    generalize eqp7 : upd _ p7 _ = B7
    obtain ⟨y7, z7⟩ := of_new eqp7 m7
    have pr7 : PrX K B7 (.ref p7) ("NoText", [("line", V.non)]) := ⟨p7, a7, rfl, .of z7, x7.same y7⟩
    have st7 := u7.trans y7
    repeat walk_at "s"
    refine ⟨by decide, fun a8 n8 => ?_⟩
    generalize eqa8 : upd _ a8 _ = A8
    obtain ⟨u8, x8⟩ := of_exc eqa8 n8
    repeat walk_at "s"
    refine ⟨by walk_at "few", fun p8 m8 => ?_⟩
    generalize eqp8 : upd _ p8 _ = B8
    obtain ⟨y8, z8⟩ := of_new eqp8 m8
    have pr8 : PrX K B8 (.ref p8) ("NoRow", []) := ⟨p8, a8, rfl, .of z8, x8.same y8⟩
    have st8 := u8.trans y8
    repeat walk_at "s"
    refine ⟨by walk_at "few", fun q9 n9 => ?_⟩
    generalize eqq9 : upd _ q9 _ = C9
    obtain ⟨y9, z9⟩ := of_new eqq9 n9
    have w8 := y9
    have w7 := st8.trans w8
    have w6 := st7.trans w7
    have w5 := st6.trans w6
    have sw9 := st5.trans w5
    have pl9 : Paired (PrX K C9) [V.ref p5, V.ref p6, V.ref p7, V.ref p8] _ := .cons (pr5.same w5) (.cons (pr6.same w6) (.cons (pr7.same w7) (.cons (pr8.same w8) .nil)))
    have ssw9n := ssw4n.trans sw9
    replace z4 := sw9 _ _ z4
    replace pl4 := prs_same sw9 pl4
    repeat walk_at "s"
    refine new_cat z4 z9 (by walk_at "few") fun q10 C10 n10 y10 z10 => ?_
    have pl10 := prs_same y10 (par_app pl4 pl9)
    have sy10n := ssw9n.trans y10
    repeat walk_at "s"
    refine new_xm fun a11 A11 u11 x11 => ?_
    repeat walk_at "s"
    refine ⟨by walk_at "few", fun p11 m11 => ?_⟩
    generalize eqp11 : upd _ p11 _ = B11
    obtain ⟨y11, z11⟩ := of_new eqp11 m11
    have pr11 : PrX K B11 (.ref p11) ("TooMany", [("many", V.int m)]) := ⟨p11, a11, rfl, .of z11, x11.same y11⟩
    have st11 := u11.trans y11
    repeat walk_at "s"
    refine ⟨by decide, fun a12 n12 => ?_⟩
    generalize eqa12 : upd _ a12 _ = A12
    obtain ⟨u12, x12⟩ := of_exc eqa12 n12
    repeat walk_at "s"
    refine ⟨by walk_at "few", fun p12 m12 => ?_⟩
    generalize eqp12 : upd _ p12 _ = B12
    obtain ⟨y12, z12⟩ := of_new eqp12 m12
    have pr12 : PrX K B12 (.ref p12) ("Twice", []) := ⟨p12, a12, rfl, .of z12, x12.same y12⟩
    have st12 := u12.trans y12
    repeat walk_at "s"
    refine ⟨by walk_at "few", fun q13 n13 => ?_⟩
    generalize eqq13 : upd _ q13 _ = C13
    obtain ⟨y13, z13⟩ := of_new eqq13 n13
    have w12 := y13
    have w11 := st12.trans w12
    have sw13 := st11.trans w11
    have pl13 : Paired (PrX K C13) [V.ref p11, V.ref p12] _ := .cons (pr11.same w11) (.cons (pr12.same w12) .nil)
    have ssw13n := sy10n.trans sw13
    replace z10 := sw13 _ _ z10
    replace pl10 := prs_same sw13 pl10
    repeat walk_at "s"
    refine new_cat z10 z13 (by walk_at "few") fun q14 C14 n14 y14 z14 => ?_
    have pl14 := prs_same y14 (par_app pl10 pl13)
    have sy14n := ssw13n.trans y14
    repeat walk_at "s"
    refine new_xm fun a15 A15 u15 x15 => ?_
    repeat walk_at "s"
    refine ⟨by walk_at "few", fun p15 m15 => ?_⟩
    generalize eqp15 : upd _ p15 _ = B15
    obtain ⟨y15, z15⟩ := of_new eqp15 m15
    have pr15 : PrX K B15 (.ref p15) ("NoPlace", [("at", V.int m)]) := ⟨p15, a15, rfl, .of z15, x15.same y15⟩
    have st15 := u15.trans y15
    repeat walk_at "s"
    refine new_xm fun a16 A16 u16 x16 => ?_
    repeat walk_at "s"
    refine ⟨by walk_at "few", fun p16 m16 => ?_⟩
    generalize eqp16 : upd _ p16 _ = B16
    obtain ⟨y16, z16⟩ := of_new eqp16 m16
    have pr16 : PrX K B16 (.ref p16) ("NoLife", [("who", V.int m)]) := ⟨p16, a16, rfl, .of z16, x16.same y16⟩
    have st16 := u16.trans y16
    repeat walk_at "s"
    refine new_xm fun a17 A17 u17 x17 => ?_
    repeat walk_at "s"
    refine ⟨by walk_at "few", fun p17 m17 => ?_⟩
    generalize eqp17 : upd _ p17 _ = B17
    obtain ⟨y17, z17⟩ := of_new eqp17 m17
    have pr17 : PrX K B17 (.ref p17) ("NoReading", [("number", V.int m)]) := ⟨p17, a17, rfl, .of z17, x17.same y17⟩
    have st17 := u17.trans y17
    repeat walk_at "s"
    refine ⟨by walk_at "few", fun q18 n18 => ?_⟩
    generalize eqq18 : upd _ q18 _ = C18
    obtain ⟨y18, z18⟩ := of_new eqq18 n18
    have w17 := y18
    have w16 := st17.trans w17
    have w15 := st16.trans w16
    have sw18 := st15.trans w15
    have pl18 : Paired (PrX K C18) [V.ref p15, V.ref p16, V.ref p17] _ := .cons (pr15.same w15) (.cons (pr16.same w16) (.cons (pr17.same w17) .nil))
    have ssw18n := sy14n.trans sw18
    replace z14 := sw18 _ _ z14
    replace pl14 := prs_same sw18 pl14
    repeat walk_at "s"
    refine ⟨by decide, fun a19 n19 => ?_⟩
    generalize eqa19 : upd _ a19 _ = A19
    obtain ⟨u19, x19⟩ := of_exc eqa19 n19
    repeat walk_at "s"
    refine ⟨by walk_at "few", fun p19 m19 => ?_⟩
    generalize eqp19 : upd _ p19 _ = B19
    obtain ⟨y19, z19⟩ := of_new eqp19 m19
    have pr19 : PrX K B19 (.ref p19) ("Ended", []) := ⟨p19, a19, rfl, .of z19, x19.same y19⟩
    have st19 := u19.trans y19
    repeat walk_at "s"
    refine ⟨by decide, fun a20 n20 => ?_⟩
    generalize eqa20 : upd _ a20 _ = A20
    obtain ⟨u20, x20⟩ := of_exc eqa20 n20
    repeat walk_at "s"
    refine ⟨by walk_at "few", fun p20 m20 => ?_⟩
    generalize eqp20 : upd _ p20 _ = B20
    obtain ⟨y20, z20⟩ := of_new eqp20 m20
    have pr20 : PrX K B20 (.ref p20) ("NotEnded", []) := ⟨p20, a20, rfl, .of z20, x20.same y20⟩
    have st20 := u20.trans y20
    repeat walk_at "s"
    refine new_xm fun a21 A21 u21 x21 => ?_
    repeat walk_at "s"
    refine ⟨by walk_at "few", fun p21 m21 => ?_⟩
    generalize eqp21 : upd _ p21 _ = B21
    obtain ⟨y21, z21⟩ := of_new eqp21 m21
    have pr21 : PrX K B21 (.ref p21) ("Held", [("who", V.int m)]) := ⟨p21, a21, rfl, .of z21, x21.same y21⟩
    have st21 := u21.trans y21
    repeat walk_at "s"
    refine ⟨by walk_at "few", fun q22 n22 => ?_⟩
    generalize eqq22 : upd _ q22 _ = C22
    obtain ⟨y22, z22⟩ := of_new eqq22 n22
    have w21 := y22
    have w20 := st21.trans w21
    have w19 := st20.trans w20
    have sw22 := st19.trans w19
    have pl22 : Paired (PrX K C22) [V.ref p19, V.ref p20, V.ref p21] _ := .cons (pr19.same w19) (.cons (pr20.same w20) (.cons (pr21.same w21) .nil))
    have ssw22n := ssw18n.trans sw22
    replace z14 := sw22 _ _ z14
    replace pl14 := prs_same sw22 pl14
    replace z18 := sw22 _ _ z18
    replace pl18 := prs_same sw22 pl18
    repeat walk_at "s"
    refine new_cat z18 z22 (by walk_at "few") fun q23 C23 n23 y23 z23 => ?_
    have pl23 := prs_same y23 (par_app pl18 pl22)
    have sy23n := ssw22n.trans y23
    replace z14 := y23 _ _ z14
    replace pl14 := prs_same y23 pl14
    repeat walk_at "s"
    refine new_xm fun a24 A24 u24 x24 => ?_
    repeat walk_at "s"
    refine ⟨by walk_at "few", fun p24 m24 => ?_⟩
    generalize eqp24 : upd _ p24 _ = B24
    obtain ⟨y24, z24⟩ := of_new eqp24 m24
    have pr24 : PrX K B24 (.ref p24) ("Trimmed", [("at", V.int m)]) := ⟨p24, a24, rfl, .of z24, x24.same y24⟩
    have st24 := u24.trans y24
    repeat walk_at "s"
    refine new_xm fun a25 A25 u25 x25 => ?_
    repeat walk_at "s"
    refine ⟨by walk_at "few", fun p25 m25 => ?_⟩
    generalize eqp25 : upd _ p25 _ = B25
    obtain ⟨y25, z25⟩ := of_new eqp25 m25
    have pr25 : PrX K B25 (.ref p25) ("Waits", [("number", V.int m)]) := ⟨p25, a25, rfl, .of z25, x25.same y25⟩
    have st25 := u25.trans y25
    repeat walk_at "s"
    refine new_xm fun a26 A26 u26 x26 => ?_
    repeat walk_at "s"
    refine ⟨by walk_at "few", fun p26 m26 => ?_⟩
    generalize eqp26 : upd _ p26 _ = B26
    obtain ⟨y26, z26⟩ := of_new eqp26 m26
    have pr26 : PrX K B26 (.ref p26) ("NotAsked", [("number", V.int m)]) := ⟨p26, a26, rfl, .of z26, x26.same y26⟩
    have st26 := u26.trans y26
    repeat walk_at "s"
    refine ⟨by walk_at "few", fun q27 n27 => ?_⟩
    generalize eqq27 : upd _ q27 _ = C27
    obtain ⟨y27, z27⟩ := of_new eqq27 n27
    have w26 := y27
    have w25 := st26.trans w26
    have w24 := st25.trans w25
    have sw27 := st24.trans w24
    have pl27 : Paired (PrX K C27) [V.ref p24, V.ref p25, V.ref p26] _ := .cons (pr24.same w24) (.cons (pr25.same w25) (.cons (pr26.same w26) .nil))
    have ssw27n := sy23n.trans sw27
    replace z14 := sw27 _ _ z14
    replace pl14 := prs_same sw27 pl14
    replace z23 := sw27 _ _ z23
    replace pl23 := prs_same sw27 pl23
    repeat walk_at "s"
    refine new_cat z23 z27 (by walk_at "few") fun q28 C28 n28 y28 z28 => ?_
    have pl28 := prs_same y28 (par_app pl23 pl27)
    have sy28n := ssw27n.trans y28
    replace z14 := y28 _ _ z14
    replace pl14 := prs_same y28 pl14
    repeat walk_at "s"
    refine new_xm fun a29 A29 u29 x29 => ?_
    repeat walk_at "s"
    refine ⟨by walk_at "few", fun p29 m29 => ?_⟩
    generalize eqp29 : upd _ p29 _ = B29
    obtain ⟨y29, z29⟩ := of_new eqp29 m29
    have pr29 : PrX K B29 (.ref p29) ("NoKey", [("key", V.int m)]) := ⟨p29, a29, rfl, .of z29, x29.same y29⟩
    have st29 := u29.trans y29
    repeat walk_at "s"
    refine new_xm fun a30 A30 u30 x30 => ?_
    repeat walk_at "s"
    refine ⟨by walk_at "few", fun p30 m30 => ?_⟩
    generalize eqp30 : upd _ p30 _ = B30
    obtain ⟨y30, z30⟩ := of_new eqp30 m30
    have pr30 : PrX K B30 (.ref p30) ("NotSure", [("key", V.int m)]) := ⟨p30, a30, rfl, .of z30, x30.same y30⟩
    have st30 := u30.trans y30
    repeat walk_at "s"
    refine new_xm fun a31 A31 u31 x31 => ?_
    repeat walk_at "s"
    refine ⟨by walk_at "few", fun p31 m31 => ?_⟩
    generalize eqp31 : upd _ p31 _ = B31
    obtain ⟨y31, z31⟩ := of_new eqp31 m31
    have pr31 : PrX K B31 (.ref p31) ("NoTaker", [("name", V.str word)]) := ⟨p31, a31, rfl, .of z31, x31.same y31⟩
    have st31 := u31.trans y31
    repeat walk_at "s"
    refine ⟨by walk_at "few", fun q32 n32 => ?_⟩
    generalize eqq32 : upd _ q32 _ = C32
    obtain ⟨y32, z32⟩ := of_new eqq32 n32
    have w31 := y32
    have w30 := st31.trans w31
    have w29 := st30.trans w30
    have sw32 := st29.trans w29
    have pl32 : Paired (PrX K C32) [V.ref p29, V.ref p30, V.ref p31] _ := .cons (pr29.same w29) (.cons (pr30.same w30) (.cons (pr31.same w31) .nil))
    have ssw32n := sy28n.trans sw32
    replace z14 := sw32 _ _ z14
    replace pl14 := prs_same sw32 pl14
    replace z28 := sw32 _ _ z28
    replace pl28 := prs_same sw32 pl28
    repeat walk_at "s"
    refine new_cat z28 z32 (by walk_at "few") fun q33 C33 n33 y33 z33 => ?_
    have pl33 := prs_same y33 (par_app pl28 pl32)
    have sy33n := ssw32n.trans y33
    replace z14 := y33 _ _ z14
    replace pl14 := prs_same y33 pl14
    repeat walk_at "s"
    refine new_xm fun a34 A34 u34 x34 => ?_
    repeat walk_at "s"
    refine ⟨by walk_at "few", fun p34 m34 => ?_⟩
    generalize eqp34 : upd _ p34 _ = B34
    obtain ⟨y34, z34⟩ := of_new eqp34 m34
    have pr34 : PrX K B34 (.ref p34) ("NotOnWire", [("number", V.int m)]) := ⟨p34, a34, rfl, .of z34, x34.same y34⟩
    have st34 := u34.trans y34
    repeat walk_at "s"
    refine ⟨by decide, fun a35 n35 => ?_⟩
    generalize eqa35 : upd _ a35 _ = A35
    obtain ⟨u35, x35⟩ := of_exc eqa35 n35
    repeat walk_at "s"
    refine ⟨by walk_at "few", fun p35 m35 => ?_⟩
    generalize eqp35 : upd _ p35 _ = B35
    obtain ⟨y35, z35⟩ := of_new eqp35 m35
    have pr35 : PrX K B35 (.ref p35) ("NothingLeft", []) := ⟨p35, a35, rfl, .of z35, x35.same y35⟩
    have st35 := u35.trans y35
    repeat walk_at "s"
    refine ⟨by walk_at "few", fun q36 n36 => ?_⟩
    generalize eqq36 : upd _ q36 _ = C36
    obtain ⟨y36, z36⟩ := of_new eqq36 n36
    have w35 := y36
    have w34 := st35.trans w35
    have sw36 := st34.trans w34
    have pl36 : Paired (PrX K C36) [V.ref p34, V.ref p35] _ := .cons (pr34.same w34) (.cons (pr35.same w35) .nil)
    have ssw36n := sy33n.trans sw36
    replace z14 := sw36 _ _ z14
    replace pl14 := prs_same sw36 pl14
    replace z33 := sw36 _ _ z33
    replace pl33 := prs_same sw36 pl33
    repeat walk_at "s"
    refine new_cat z33 z36 (by walk_at "few") fun q37 C37 n37 y37 z37 => ?_
    have pl37 := prs_same y37 (par_app pl33 pl36)
    have sy37n := ssw36n.trans y37
    replace z14 := y37 _ _ z14
    replace pl14 := prs_same y37 pl14
    repeat walk_at "s"
    have sq38 : SqL K _ q14 _ := .of z14
    refine ⟨q14, rfl, ⟨_, sq38⟩, fun D38 nD38 => ?_⟩
    refine lc_it walk_list (fun _ H' => Same _ H' ∧ H' D38 = some (.lst [])) ⟨same_new nD38, upd_same⟩ (fun _ _ _ p => p.1.seq sq38) ?_ ?_
    · rintro i x A B hi ⟨c1, c2⟩ ⟨rfl, hx⟩
      obtain ⟨⟨nm, fs⟩, hq, pp, aa, rfl, hp1, hp2⟩ := par_get pl14 hx
      have mem : nm ∈ toldN := told_mem (List.mem_of_getElem? hq)
      obtain ⟨k1, k2, k3⟩ := told_ok nm mem
      repeat walk_at "s"
      refine x_ixS (sqt_same c1 hp1) rfl ?_
      repeat walk_at "s"
      refine x_ixS (sqt_same c1 hp1) rfl ?_
      repeat walk_at "s"
      refine ⟨_, _, rfl, rfl, ?_, ?_⟩
      · rw [sizeLine_eq, show ("told " : Str).length = 5 by decide]
        omega
      repeat walk_at "s"
      refine ⟨aa, nm, _, fs, rfl, k1, hp2.same c1, ?_, fun H' t' => ?_⟩
      · rw [PySem.Str.length_append, show ("told " : Str).length = 5 by decide]
        omega
      rw [show decide (kindsX nm = ("told " ++ nm) ++ "+") = true from decide_eq_true k3]
      repeat walk_at "s"
      exact ⟨c1.trans t', t' _ _ c2⟩
    rintro E38 ⟨tD38, lD38⟩
    repeat walk_at "s"
    refine ⟨by walk_at "few", fun q38 n38 => ?_⟩
    generalize eqq38 : upd _ q38 _ = C38
    obtain ⟨y38, z38⟩ := of_new eqq38 n38
    have v38 := tD38.trans y38
    repeat walk_at "s"
    refine x_neD (d := .list []) (e := .list []) (.lst (.of (y38 _ _ lD38)) .nil) (.lst (.of z38) .nil) (by decide) (by decide) ?_
    rw [show (!PyData.eqv (.list []) (.list [])) = false by decide +kernel]
    have sv38n := sy37n.trans v38
    replace z14 := v38 _ _ z14
    replace pl14 := prs_same v38 pl14
    replace z37 := v38 _ _ z37
    replace pl37 := prs_same v38 pl37
    repeat walk_at "s"
    have sq39 : SqL K _ q37 _ := .of z37
    refine ⟨q37, rfl, ⟨_, sq39⟩, fun D39 nD39 => ?_⟩
    refine lc_it walk_list (fun _ H' => Same _ H' ∧ H' D39 = some (.lst [])) ⟨same_new nD39, upd_same⟩ (fun _ _ _ p => p.1.seq sq39) ?_ ?_
    · rintro i x A B hi ⟨c1, c2⟩ ⟨rfl, hx⟩
      obtain ⟨⟨nm, fs⟩, hq, pp, aa, rfl, hp1, hp2⟩ := par_get pl37 hx
      have mem : nm ∈ askedN := asked_mem (List.mem_of_getElem? hq)
      obtain ⟨k1, k2, k3⟩ := asked_ok nm mem
      repeat walk_at "s"
      refine x_ixS (sqt_same c1 hp1) rfl ?_
      repeat walk_at "s"
      refine x_ixS (sqt_same c1 hp1) rfl ?_
      repeat walk_at "s"
      refine ⟨_, _, rfl, rfl, ?_, ?_⟩
      · rw [sizeLine_eq, show ("asked " : Str).length = 6 by decide]
        omega
      repeat walk_at "s"
      refine ⟨aa, nm, _, fs, rfl, k1, hp2.same c1, ?_, fun H' t' => ?_⟩
      · rw [PySem.Str.length_append, show ("asked " : Str).length = 6 by decide]
        omega
      rw [show decide (kindsX nm = ("asked " ++ nm) ++ "+") = true from decide_eq_true k3]
      repeat walk_at "s"
      exact ⟨c1.trans t', t' _ _ c2⟩
    rintro E39 ⟨tD39, lD39⟩
    repeat walk_at "s"
    refine ⟨by walk_at "few", fun q39 n39 => ?_⟩
    generalize eqq39 : upd _ q39 _ = C39
    obtain ⟨y39, z39⟩ := of_new eqq39 n39
    have v39 := tD39.trans y39
    repeat walk_at "s"
    refine x_neD (d := .list []) (e := .list []) (.lst (.of (y39 _ _ lD39)) .nil) (.lst (.of z39) .nil) (by decide) (by decide) ?_
    rw [show (!PyData.eqv (.list []) (.list [])) = false by decide +kernel]
    have sv39n := sv38n.trans v39
    replace z14 := v39 _ _ z14
    replace pl14 := prs_same v39 pl14
    replace z37 := v39 _ _ z37
    replace pl37 := prs_same v39 pl37
    repeat walk_at "s"
    refine new_xmK fun a40 A40 u40 x40 => ?_
    have pr40 : ExX K A40 m (.ref a40) ("NoPlace", "at") := ⟨a40, rfl, x40⟩
    have st40 := u40
    repeat walk_at "s"
    refine new_xmK fun a41 A41 u41 x41 => ?_
    have pr41 : ExX K A41 m (.ref a41) ("NoLife", "who") := ⟨a41, rfl, x41⟩
    have st41 := u41
    repeat walk_at "s"
    refine new_xmK fun a42 A42 u42 x42 => ?_
    have pr42 : ExX K A42 m (.ref a42) ("NoReading", "number") := ⟨a42, rfl, x42⟩
    have st42 := u42
    repeat walk_at "s"
    refine new_xmK fun a43 A43 u43 x43 => ?_
    have pr43 : ExX K A43 m (.ref a43) ("Held", "who") := ⟨a43, rfl, x43⟩
    have st43 := u43
    repeat walk_at "s"
    refine new_xmK fun a44 A44 u44 x44 => ?_
    have pr44 : ExX K A44 m (.ref a44) ("Trimmed", "at") := ⟨a44, rfl, x44⟩
    have st44 := u44
    repeat walk_at "s"
    refine ⟨by walk_at "few", fun q45 n45 => ?_⟩
    generalize eqq45 : upd _ q45 _ = C45
    obtain ⟨y45, z45⟩ := of_new eqq45 n45
    have w44 := y45
    have w43 := st44.trans w44
    have w42 := st43.trans w43
    have w41 := st42.trans w42
    have w40 := st41.trans w41
    have sw45 := st40.trans w40
    have pl45 : Paired (ExX K C45 m) [V.ref a40, V.ref a41, V.ref a42, V.ref a43, V.ref a44] _ := .cons (pr40.same w40) (.cons (pr41.same w41) (.cons (pr42.same w42) (.cons (pr43.same w43) (.cons (pr44.same w44) .nil))))
    have ssw45n := sv39n.trans sw45
    replace z14 := sw45 _ _ z14
    replace pl14 := prs_same sw45 pl14
    replace z37 := sw45 _ _ z37
    replace pl37 := prs_same sw45 pl37
    repeat walk_at "s"
    refine new_xmK fun a46 A46 u46 x46 => ?_
    have pr46 : ExX K A46 m (.ref a46) ("Waits", "number") := ⟨a46, rfl, x46⟩
    have st46 := u46
    repeat walk_at "s"
    refine new_xmK fun a47 A47 u47 x47 => ?_
    have pr47 : ExX K A47 m (.ref a47) ("NotAsked", "number") := ⟨a47, rfl, x47⟩
    have st47 := u47
    repeat walk_at "s"
    refine new_xmK fun a48 A48 u48 x48 => ?_
    have pr48 : ExX K A48 m (.ref a48) ("NoKey", "key") := ⟨a48, rfl, x48⟩
    have st48 := u48
    repeat walk_at "s"
    refine new_xmK fun a49 A49 u49 x49 => ?_
    have pr49 : ExX K A49 m (.ref a49) ("NotSure", "key") := ⟨a49, rfl, x49⟩
    have st49 := u49
    repeat walk_at "s"
    refine ⟨by walk_at "few", fun q50 n50 => ?_⟩
    generalize eqq50 : upd _ q50 _ = C50
    obtain ⟨y50, z50⟩ := of_new eqq50 n50
    have w49 := y50
    have w48 := st49.trans w49
    have w47 := st48.trans w48
    have w46 := st47.trans w47
    have sw50 := st46.trans w46
    have pl50 : Paired (ExX K C50 m) [V.ref a46, V.ref a47, V.ref a48, V.ref a49] _ := .cons (pr46.same w46) (.cons (pr47.same w47) (.cons (pr48.same w48) (.cons (pr49.same w49) .nil)))
    have ssw50n := ssw45n.trans sw50
    replace z14 := sw50 _ _ z14
    replace pl14 := prs_same sw50 pl14
    replace z37 := sw50 _ _ z37
    replace pl37 := prs_same sw50 pl37
    replace z45 := sw50 _ _ z45
    replace pl45 := exs_same sw50 pl45
    repeat walk_at "s"
    refine new_cat z45 z50 (by walk_at "few") fun q51 C51 n51 y51 z51 => ?_
    have pl51 := exs_same y51 (par_app pl45 pl50)
    have sy51n := ssw50n.trans y51
    replace z14 := y51 _ _ z14
    replace pl14 := prs_same y51 pl14
    replace z37 := y51 _ _ z37
    replace pl37 := prs_same y51 pl37
    repeat walk_at "s"
    refine new_xmK fun a52 A52 u52 x52 => ?_
    have pr52 : ExX K A52 m (.ref a52) ("NotOnWire", "number") := ⟨a52, rfl, x52⟩
    have st52 := u52
    repeat walk_at "s"
    refine new_xmK fun a53 A53 u53 x53 => ?_
    have pr53 : ExX K A53 m (.ref a53) ("TooMany", "many") := ⟨a53, rfl, x53⟩
    have st53 := u53
    repeat walk_at "s"
    refine ⟨by walk_at "few", fun q54 n54 => ?_⟩
    generalize eqq54 : upd _ q54 _ = C54
    obtain ⟨y54, z54⟩ := of_new eqq54 n54
    have w53 := y54
    have w52 := st53.trans w53
    have sw54 := st52.trans w52
    have pl54 : Paired (ExX K C54 m) [V.ref a52, V.ref a53] _ := .cons (pr52.same w52) (.cons (pr53.same w53) .nil)
    have ssw54n := sy51n.trans sw54
    replace z14 := sw54 _ _ z14
    replace pl14 := prs_same sw54 pl14
    replace z37 := sw54 _ _ z37
    replace pl37 := prs_same sw54 pl37
    replace z51 := sw54 _ _ z51
    replace pl51 := exs_same sw54 pl51
    repeat walk_at "s"
    refine new_cat z51 z54 (by walk_at "few") fun q55 C55 n55 y55 z55 => ?_
    have pl55 := exs_same y55 (par_app pl51 pl54)
    have sy55n := ssw54n.trans y55
    replace z14 := y55 _ _ z14
    replace pl14 := prs_same y55 pl14
    replace z37 := y55 _ _ z37
    replace pl37 := prs_same y55 pl37
    repeat walk_at "s"
    have sq56 : SqL K _ q55 _ := .of z55
    refine ⟨q55, rfl, ⟨_, sq56⟩, fun D56 nD56 => ?_⟩
    refine lc_it walk_list (PvM _ D56 fun _ => .int m) (pvm0 nD56) (fun _ _ _ p => p.1.seq sq56) ?_ ?_
    · rintro i x A B hi p ⟨rfl, hx⟩
      obtain ⟨⟨nm, f⟩, hq, aa, rfl, hp2⟩ := par_get pl55 hx
      have mem : (nm, f) ∈ fdNames := some_ok _ (List.mem_of_getElem? hq)
      repeat walk_at "s"
      refine ⟨aa, nm, f, _, rfl, mem, hp2.same p.1, fun H' t' => ?_⟩
      have hi2 : i < 11 := hi
      exact lc_end (f := fun _ => V.int m) nD56 rfl (p.1.trans t') (t' _ _ p.2) (by omega)
    rintro E56 ⟨tD56, lD56⟩
    repeat walk_at "s"
    refine ⟨by walk_at "few", fun q56 n56 => ?_⟩
    generalize eqq56 : upd _ q56 _ = C56
    obtain ⟨y56, z56⟩ := of_new eqq56 n56
    repeat walk_at "s"
    refine x_rep z56 (by decide) (by decide) (by simp) fun r56 G56 e56 f56 g56 => ?_
    have v56 := tD56.trans (y56.trans f56)
    rw [map_rep] at lD56
    repeat walk_at "s"
    refine x_neD (d := intsN 11 m) (e := intsN 11 m) (.lst (.of (f56 _ _ (y56 _ _ lD56))) (dpa_rep 11)) (.lst (.of g56) (dpa_rep 11)) rfl rfl ?_
    rw [show (!PyData.eqv (intsN 11 m) (intsN 11 m)) = false by rw [PySem.SeqAt.eqv_refl _ rfl]; rfl]
    have sv56n := sy55n.trans v56
    replace z14 := v56 _ _ z14
    replace pl14 := prs_same v56 pl14
    replace z37 := v56 _ _ z37
    replace pl37 := prs_same v56 pl37
    replace z55 := v56 _ _ z55
    replace pl55 := exs_same v56 pl55
    repeat walk_at "s"
    refine new_xmK fun a57 A57 u57 x57 => ?_
    repeat walk_at "s"
    refine ⟨a57, _, _, _, rfl, T.xc "NoTaker" (by decide), T.na_NoTaker_name, x57, rfl, ?_⟩
    repeat walk_at "s"
    rw [decide_eq_true (show word = word from rfl)]
    have su57n := sv56n.trans u57
    replace z14 := u57 _ _ z14
    replace pl14 := prs_same u57 pl14
    replace z37 := u57 _ _ z37
    replace pl37 := prs_same u57 pl37
    replace z55 := u57 _ _ z55
    replace pl55 := exs_same u57 pl55
    repeat walk_at "s"
    have sq58 : SqL K _ q37 _ := .of z37
    refine ⟨q37, rfl, ⟨_, sq58⟩, fun D58 nD58 => ?_⟩
    refine lc_it walk_list (fun i H' => Same _ H' ∧ H' D58 = some (.lst (List.replicate (cntN i) (.int m)))) ⟨same_new nD58, upd_same⟩ (fun _ _ _ p => p.1.seq sq58) ?_ ?_
    · rintro i x A B hi ⟨c1, c2⟩ ⟨rfl, hx⟩
      obtain ⟨⟨nm, fs⟩, hq, pp, aa, rfl, hp1, hp2⟩ := par_get pl37 hx
      have hq' : askedN[i]? = some nm := by
        have z : (askedQ word m).map (·.1) = askedN := rfl
        rw [← z, List.getElem?_map, show (askedQ word m)[i]? = some (nm, fs) from hq]
        rfl
      repeat walk_at "s"
      refine x_ixS (sqt_same c1 hp1) rfl ?_
      repeat walk_at "s"
      refine ⟨by walk_at "few", fun q2 n2 => ?_⟩
      generalize eqq2 : upd _ q2 _ = C2
      obtain ⟨y2, z2⟩ := of_new eqq2 n2
      have c3 := c1.trans y2
      repeat walk_at "s"
      refine ⟨q2, selN.map V.str, rfl, .inl (.of z2), rfl, rfl, ?_⟩
      rw [show (if false = true then !inV (V.str nm) (selN.map V.str) else inV (V.str nm) (selN.map V.str)) = selN.contains nm from in_sel]
      repeat walk_at "s"
      refine ite_b (fun e => ?_) (fun e => ?_)
      · repeat walk_at "s"
        refine x_ixS (sqt_same c3 hp1) rfl ?_
        have hf : ∃ f, (nm, f) ∈ fdNames ∧ fs = [(f, V.int m)] := by
          have z : ∀ j < 14, ∀ n g, (askedQ word m)[j]? = some (n, g) → selN.contains n = true → ∃ f, (n, f) ∈ fdNames ∧ g = [(f, V.int m)] := by
            intro j hj n g e1 e2
            match j, hj with
            | 0, _ => cases e1; exact ⟨"at", by decide, rfl⟩
            | 1, _ => cases e1; exact absurd e2 (by decide)
            | 2, _ => cases e1; exact absurd e2 (by decide)
            | 3, _ => cases e1; exact absurd e2 (by decide)
            | 4, _ => cases e1; exact absurd e2 (by decide)
            | 5, _ => cases e1; exact ⟨"who", by decide, rfl⟩
            | 6, _ => cases e1; exact absurd e2 (by decide)
            | 7, _ => cases e1; exact absurd e2 (by decide)
            | 8, _ => cases e1; exact absurd e2 (by decide)
            | 9, _ => cases e1; exact ⟨"key", by decide, rfl⟩
            | 10, _ => cases e1; exact absurd e2 (by decide)
            | 11, _ => cases e1; exact absurd e2 (by decide)
            | 12, _ => cases e1; exact absurd e2 (by decide)
            | 13, _ => cases e1; exact absurd e2 (by decide)
          exact z i hi nm fs hq e
        obtain ⟨f, hf1, rfl⟩ := hf
        repeat walk_at "s"
        refine ⟨aa, nm, f, _, rfl, hf1, hp2.same c3, fun H' t' => ?_⟩
        refine ⟨_, t' _ _ (y2 _ _ c2), ?_, same_mut (c3.trans t') nD58, ?_⟩
        · have := cnt_le i
          have hi2 : i < 14 := hi
          rw [List.length_replicate, sizeLine_eq]
          omega
        · rw [upd_same, cnt_succ hq', e, if_pos rfl, List.replicate_succ']
      · refine ⟨c3, ?_⟩
        rw [y2 _ _ c2, cnt_succ hq', e]
        rfl
    rintro E58 ⟨tD58, lD58⟩
    have lE58 : E58 D58 = some (.lst (List.replicate 3 (.int m))) := lD58
    repeat walk_at "s"
    refine ⟨by walk_at "few", fun q58 n58 => ?_⟩
    generalize eqq58 : upd _ q58 _ = C58
    obtain ⟨y58, z58⟩ := of_new eqq58 n58
    repeat walk_at "s"
    refine x_rep z58 (by decide) (by decide) (by simp) fun r58 G58 e58 f58 g58 => ?_
    have v58 := tD58.trans (y58.trans f58)
    repeat walk_at "s"
    refine x_neD (d := intsN 3 m) (e := intsN 3 m) (.lst (.of (f58 _ _ (y58 _ _ lE58))) (dpa_rep 3)) (.lst (.of g58) (dpa_rep 3)) rfl rfl ?_
    rw [show (!PyData.eqv (intsN 3 m) (intsN 3 m)) = false by rw [PySem.SeqAt.eqv_refl _ rfl]; rfl]
    have sv58n := su57n.trans v58
    repeat walk_at "s"
    refine new_xm0 (v := .non) fun a59 A59 u59 x59 => ?_
    repeat walk_at "s"
    refine ⟨a59, _, _, _, rfl, T.xc "NoText" (by decide), T.na_NoText_line, x59, rfl, ?_⟩
    repeat walk_at "s"
    refine new_xm fun a60 A60 u60 x60 => ?_
    repeat walk_at "s"
    refine ⟨a60, _, _, _, rfl, T.xc "NoText" (by decide), T.na_NoText_line, x60, rfl, ?_⟩
    repeat walk_at "s"
    rw [decide_eq_true (show m = m from rfl)]
    repeat walk_at "s"
    refine new_xmK fun a61 A61 u61 x61 => ?_
    repeat walk_at "s"
    refine ⟨a61, _, _, _, rfl, T.xc "NoText" (by decide), T.na_NoText_line, x61, rfl, ?_⟩
    repeat walk_at "s"
    rw [decide_eq_true (show m = m from rfl)]
    repeat walk_at "s"
    exact ⟨sv58n.trans (u59.trans (u60.trans u61)), rfl, rfl⟩
end
end T

open PySem PySem.W PySem.Calls PyProof.Rows in
set_option maxHeartbeats 0 in
theorem PySem.Challenge.cw_tidecopy_k49_refusals_apart_holds : PySem.Challenge.rw_tidecopy_k49_refusals_apart.Holds := by
  w_on; o_law
  refine HandSHeadRun.head_any (r := (PySem.W.OpenLaw.row PySem.Challenge.rw_tidecopy_k49_refusals_apart)) (q := view (PySem.W.OpenLaw.row PySem.Challenge.rw_tidecopy_k49_refusals_apart).prog [34]) (H := T.hk) (ob := T.ob) (M := 20000) (loose := T.loose) (d := HandSHeadRun.topDef (PySem.W.OpenLaw.row PySem.Challenge.rw_tidecopy_k49_refusals_apart).prog 34) (kwd := []) T.ob_eq
    (by kernel_rfl) (fun s => by kernel_rfl) T.run (by kernel_rfl) (by kernel_rfl) (by kernel_rfl) (by rfl) (by first | assumption | decide +kernel) (by decide +kernel) ⟨rfl, rfl, rfl, rfl, rfl, by decide +kernel⟩ ?hw ?hc
  case hw => w_witness2
  case hc =>
    refine L2.walk_ofE (l := PySem.Challenge.rw_tidecopy_k49_refusals_apart) (n := 63) (k := 3) (x := "script") (CX := L2.CX0) rfl (by decide) (by kernel_rfl) ⟨rfl, by decide, by decide⟩ ?F (fun _ _ _ _ z => z)
    case F =>
      intro w mg fa h Y G hmg0
      obtain ⟨K, KX, c, cb⟩ := Y
      have hmg : mg ("law" : PySem.Str) = some (.ref fa) := by
        have e : (HandSHeadRun.topDef (PySem.W.OpenLaw.row PySem.Challenge.rw_tidecopy_k49_refusals_apart).prog 34).name = ("law" : PySem.Str) := by kernel_rfl
        rw [← e]
        exact hmg0
      have TT := T.tx_of KX G c cb
      obtain ⟨fd, F⟩ := TT.f_law
      have e := hmg.symm.trans TT.g_law
      cases e
      have b := L2.FunD.bindsA (ps := ["script"]) F fun _ _ _ _ _ _ us hl => match us, hl with | [_], _ => rfl
      exact ⟨K, fd, T.sp_law K, KX, fun s v => b s [v] rfl, fun H a ns hl _ hS => ⟨a, ns, rfl, hS, hl, fun _ => rfl⟩, fun base _ _ => T.fo_law TT F⟩
