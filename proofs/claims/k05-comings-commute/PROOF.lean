import PyProof.Rows.All
import Wide.All
import OpenK.AllK
import Wide.FinOn
import HandS.ForMost
import HandS.Deep
import KE.KDictKeyed
import HandS.More
import HandS.Lambda
import HandS.Walk
import KE.KDictCopyH
import HandS.DictComp
import KE.GoesMore
import HandS.SetBool
import HandS.SortKw
import KE.SortKeyHeap
import HandS.EndTab
import HandS.HeadWalk
import HandS.TupSets
import KE.SortData
import HandS.IsInst
import HandS.Flow
import HandS.Star
import HandS.Conv
import KE.KNestM
import PySem.Challenge.RW_tilesregrow_k05_whole_comings_commute
set_option Elab.async false
set_option linter.all false
set_option maxRecDepth 100000
set_option maxHeartbeats 4000000
/-! A dict whose keys are data of any kinds together (ints, texts, None, nested tuples), at the raw heap. -/
namespace TGr
open PySem PySem.Spec PyProof.Rows L2

abbrev Dm := NestedKey

/-- the entry e has the key k -/
structure EntOk (w : World) (h : Heap) (e : DictEntry) (k : Dm) : Prop where
  hs : e.hash = k.hash w
  is : NestedIs h k e.key
  dp : k.depth ≤ 8

section
variable {prog : Program} {w : World} {A : Around} {E : Value → Shared → Prop} {s : Shared}
theorem paired_at {α β : Type} {F : α → β → Prop} : ∀ {l₁ : List α} {l₂ : List β}, Paired F l₁ l₂ → ∀ (j : Nat) (a : α), l₁[j]? = some a → ∃ b, l₂[j]? = some b ∧ F a b
  | _, _, .nil, j, a, h => by simp at h
  | _, _, .cons r _, 0, a, h => by
    simp only [List.getElem?_cons_zero, Option.some.injEq] at h
    subst h
    exact ⟨_, rfl, r⟩
  | _, _, .cons _ t, j + 1, a, h => by
    simp only [List.getElem?_cons_succ] at h ⊢
    exact paired_at t j a h
theorem paired_at' {α β : Type} {F : α → β → Prop} : ∀ {l₁ : List α} {l₂ : List β}, Paired F l₁ l₂ → ∀ (j : Nat) (b : β), l₂[j]? = some b → ∃ a, l₁[j]? = some a ∧ F a b
  | _, _, .nil, j, a, h => by simp at h
  | _, _, .cons r _, 0, a, h => by
    simp only [List.getElem?_cons_zero, Option.some.injEq] at h
    subst h
    exact ⟨_, rfl, r⟩
  | _, _, .cons _ t, j + 1, a, h => by
    simp only [List.getElem?_cons_succ] at h ⊢
    exact paired_at' t j a h

theorem quiet_all {k : Dm} {key : Value} {stored : List Value} {Q : Bool → Shared → Prop} (hk : NestedIs s.heap k key) (hd : k.depth ≤ 8)
    (hst : ∀ v ∈ stored, ∃ k', NestedIs s.heap k' v ∧ k'.depth ≤ 8) (h : Q false s) : wpAny (model prog w) A (tableMayTell key stored) Q E s := by
  unfold tableMayTell
  split
  · exact wpAny_pure h
  · refine wpAny_bind (quiet_key k key 8 s hk hd A E _ ?_)
    simp only [Bool.not_true, Bool.false_eq_true, if_false]
    refine wpAny_bind (wpAny_forIn_list _ (fun rest r s' => s' = s ∧ r = (none, ()) ∧ ∀ v ∈ rest, ∃ k', NestedIs s.heap k' v ∧ k'.depth ≤ 8) _ ?_ ?_ _ _ ⟨rfl, rfl, hst⟩)
    · rintro x rest r s' ⟨rfl, rfl, hr⟩
      obtain ⟨k', h1, h2⟩ := hr x List.mem_cons_self
      refine wpAny_bind (quiet_key k' x 8 s' h1 h2 A E _ ?_)
      simp only [Bool.not_true, Bool.false_eq_true, if_false]
      exact wpAny_pure ⟨rfl, rfl, fun v hv => hr v (List.mem_cons_of_mem _ hv)⟩
    · rintro r s' ⟨rfl, rfl, _⟩
      exact wpAny_pure h

theorem eqb {x y : Dm} {a b : Value} {Q : Bool → Shared → Prop} (hu : A.units + 8 < cLine) (hx : NestedIs s.heap x a) (hy : NestedIs s.heap y b) (hd : y.depth ≤ 8) (h : Q (decide (x = y)) s) :
    wpAny (model prog w) A (eqBool a b) Q E s := eqAt_key x y A s _ _ hx hy (by omega) _ _ _ _ (by rw [← NestedKey.decide_eq]; exact h)

/-- where the key k stands among the keys ks -/
theorem find_mix {d : Addr} {key : Value} {k : Dm} {o : Obj} {es : Array DictEntry} {ep : Nat} {ks : List Dm} {Q : Option Nat → Shared → Prop} (hu : A.units + 8 < cLine) (hkey : NestedIs s.heap k key) (hd8 : k.depth ≤ 8)
    (ho : s.heap.get? d = some o) (hd : o.data = .dict es ep) (he : Paired (EntOk w s.heap) es.toList ks) (hn : ks.Nodup)
    (hnone : k ∉ ks → Q none s) (hsome : ∀ j, ks[j]? = some k → Q (some j) s) : wpAny (model prog w) A (dictFind d key (k.hash w)) Q E s := by
  have ent : ∀ (j : Nat) (e : DictEntry), es[j]? = some e → ∃ k', ks[j]? = some k' ∧ EntOk w s.heap e k' := fun j e h => paired_at he j e (by rw [Array.getElem?_toList]; exact h)
  have ent' : ∀ (j : Nat) (k' : Dm), ks[j]? = some k' → ∃ e, es[j]? = some e ∧ EntOk w s.heap e k' := fun j k' h => by
    obtain ⟨e, h1, h2⟩ := paired_at' he j k' h
    exact ⟨e, by rw [← Array.getElem?_toList]; exact h1, h2⟩
  have uniq : ∀ (i j : Nat), ks[i]? = some k → ks[j]? = some k → i = j := fun i j hi hj => (List.getElem?_inj (List.getElem?_eq_some_iff.mp hi).1 hn).mp (hi.trans hj.symm)
  have pl : ∀ j, j ∈ placesWithHash es.size (fun i => es[i]?.map (·.hash)) (k.hash w) → ∃ e, es[j]? = some e ∧ e.hash = k.hash w := fun j hj => by
    have h2 : (es[j]?.map (·.hash) == some (k.hash w)) = true := (List.mem_filter.mp hj).2
    cases hx : es[j]? with
    | none => rw [hx] at h2; simp at h2
    | some e =>
      rw [hx] at h2
      exact ⟨e, rfl, by simpa using h2⟩
  have inpl : ∀ j, ks[j]? = some k → j ∈ placesWithHash es.size (fun i => es[i]?.map (·.hash)) (k.hash w) := fun j hj => by
    obtain ⟨e, h1, h2⟩ := ent' j k hj
    exact List.mem_filter.mpr ⟨List.mem_range.mpr (Array.getElem?_eq_some_iff.mp h1).1, by show (es[j]?.map (·.hash) == some (k.hash w)) = true; rw [h1]; simp [h2.hs]⟩
  have mem_ix : k ∈ ks → ∃ j, ks[j]? = some k := fun h => List.mem_iff_getElem?.mp h
  generalize hpl : placesWithHash es.size (fun i => es[i]?.map (·.hash)) (k.hash w) = places at pl inpl
  -- the walk where all keys are carried by value
  have plain : wpAny (model prog w) A (dictWalkPlain d key (k.hash w) es places) Q E s := by
    unfold dictWalkPlain
    refine wpAny_bind ?_
    refine wpAny_forIn_list _ (fun rest b s' => s' = s ∧ b = (none, ()) ∧ ∃ done, places = done ++ rest ∧ ∀ j ∈ done, ks[j]? ≠ some k) _ ?_ ?_ _ _ ⟨rfl, rfl, [], rfl, fun _ h => nomatch h⟩
    · rintro x rest b s' ⟨rfl, rfl, done, hr, hno⟩
      obtain ⟨e, hx, hh⟩ := pl x (by rw [hr]; simp)
      obtain ⟨k', hk', eok⟩ := ent x e hx
      rw [hx]
      dsimp only
      rw [if_pos (by rw [hh]; simp)]
      refine wpAny_bind (wpAny_dictEpoch ho hd (wpAny_bind (eqb hu eok.is hkey hd8 (wpAny_bind (wpAny_dictEpoch ho hd ?_)))))
      show wpAny _ _ (if (ep != ep) = true then _ else _) _ E _
      rw [if_neg (by simp)]
      by_cases hkk : k' = k
      · rw [decide_eq_true hkk]
        subst hkk
        exact wpAny_bind (wpAny_rule (wpAny_pure (wpAny_pure (hsome x hk'))))
      · rw [decide_eq_false hkk]
        refine wpAny_bind (wpAny_rule (wpAny_pure ⟨rfl, rfl, done ++ [x], by rw [hr]; simp, fun j hj => ?_⟩))
        rcases List.mem_append.mp hj with h | h
        · exact hno j h
        · obtain rfl : j = x := by simpa using h
          rw [hk']
          exact fun q => hkk (Option.some.inj q)
    · rintro b s' ⟨rfl, rfl, done, hr, hno⟩
      rw [List.append_nil] at hr
      refine wpAny_pure (hnone fun hm => ?_)
      obtain ⟨j, hj⟩ := mem_ix hm
      exact hno j (by rw [← hr]; exact inpl j hj) hj
  unfold dictFind
  try with_reducible refine wpAny_holding ?_
  refine wpAny_bind (wpAny_dictEntries ho hd ?_)
  dsimp only
  rw [hpl]
  have hst : ∀ v ∈ places.filterMap (fun i => es[i]?.map (·.key)), ∃ k', NestedIs s.heap k' v ∧ k'.depth ≤ 8 := by
    intro v hv
    obtain ⟨i, _, hi⟩ := List.mem_filterMap.mp hv
    cases hei : es[i]? with
    | none => rw [hei] at hi; cases hi
    | some e =>
      rw [hei] at hi
      obtain rfl : e.key = v := by simpa using hi
      obtain ⟨k', _, eok⟩ := ent i e hei
      exact ⟨k', eok.is, eok.dp⟩
  have hany : ∀ a, key = .ref a → ¬ (es.any fun e => e.key == Value.ref a && e.hash != k.hash w) = true := by
    rintro a rfl
    rw [← Array.any_toList, List.any_eq_true]
    rintro ⟨e, hin, hc⟩
    obtain ⟨j, hj⟩ := List.mem_iff_getElem?.mp hin
    obtain ⟨k', _, eok⟩ := ent j e (by rw [← Array.getElem?_toList]; exact hj)
    simp only [Bool.and_eq_true, beq_iff_eq, bne_iff_ne, ne_eq] at hc
    obtain ⟨hxa, hne⟩ := hc
    have h1 := eok.is
    rw [hxa] at h1
    exact hne (by rw [eok.hs, NestedIs.inj _ _ _ h1 hkey])
  have fin : ∀ (tree : Bool → Sem (Option Nat)), wpAny (model prog w) A (tree false) Q E s → wpAny (model prog w) A (do
      let tells ← if ((places.filterMap fun i => es[i]?.map (·.key)) == [key]) = true then pure false else tableMayTell key (places.filterMap fun i => es[i]?.map (·.key))
      tree tells) Q E s := by
    intro tree ht
    by_cases hone : ((places.filterMap fun i => es[i]?.map (·.key)) == [key]) = true
    · rw [if_pos hone]
      exact wpAny_bind (wpAny_pure ht)
    · rw [if_neg hone]
      exact wpAny_bind (quiet_all hkey hd8 hst ht)
  have byv : ∀ x t, key = .str x t → (es.all fun e => isExactStrKey e.key) = true → wpAny (model prog w) A (foundByValue d key es x) Q E s := by
    rintro x t rfl hall
    have hkx : k = .text x := by cases hkey; rfl
    have isx : ∀ (j : Nat) (e : DictEntry), es[j]? = some e → e.key.isStr x = true → ks[j]? = some k := by
      intro j e hj hs
      obtain ⟨k', hk', eok⟩ := ent j e hj
      rw [hk', hkx]
      have h1 := eok.is
      cases hek : e.key with
      | str y u =>
        rw [hek] at hs h1
        obtain rfl : y = x := by simpa [Value.isStr] using hs
        cases h1
        rfl
      | _ => rw [hek] at hs; simp [Value.isStr] at hs
    have isx' : ∀ (j : Nat), ks[j]? = some k → ∃ e, es[j]? = some e ∧ e.key.isStr x = true := by
      intro j hj
      obtain ⟨e, h1, eok⟩ := ent' j k hj
      refine ⟨e, h1, ?_⟩
      have h2 := eok.is
      rw [hkx] at h2
      cases hek : e.key with
      | str y u =>
        rw [hek] at h2
        cases h2
        simp [Value.isStr]
      | _ => rw [hek] at h2; cases h2
    unfold foundByValue
    cases hf : es.findIdx? (fun e => e.key.isStr x) with
    | none =>
      refine wpAny_pure (hnone fun hm => ?_)
      obtain ⟨j, hj⟩ := mem_ix hm
      obtain ⟨e, h1, h2⟩ := isx' j hj
      have h3 := Array.findIdx?_eq_none_iff.mp hf e (Array.mem_of_getElem? h1)
      rw [h2] at h3
      cases h3
    | some i =>
      obtain ⟨hlt, hi, _⟩ := Array.findIdx?_eq_some_iff_getElem.mp hf
      have hji := isx i es[i] (Array.getElem?_eq_getElem hlt) hi
      obtain ⟨k', hk', eok⟩ := ent i es[i] (Array.getElem?_eq_getElem hlt)
      have hkk : k' = k := Option.some.inj (hk'.symm.trans hji)
      simp only [Array.getElem?_eq_getElem hlt]
      refine wpAny_bind (wpAny_dictEpoch ho hd (wpAny_bind (eqb hu eok.is hkey hd8 (wpAny_bind (wpAny_dictEpoch ho hd ?_)))))
      show wpAny _ _ (if (ep != ep) = true then _ else _) _ E _
      rw [if_neg (by simp), decide_eq_true hkk]
      exact wpAny_bind (wpAny_rule (wpAny_pure (hsome i hji)))
  cases key with
  | ref a =>
    rw [if_neg (by simp [carriedByValue])]
    rw [if_neg (hany a rfl)]
    refine fin _ ?_
    rw [if_neg (by simp)]
    refine wpAny_bind ?_
    refine wpAny_forIn_list _ (fun rest b s' => s' = s ∧ ∃ done hit, b = (none, hit) ∧ places = done ++ rest ∧
      ((hit = none ∧ ∀ j ∈ done, ks[j]? ≠ some k) ∨ ∃ j, hit = some j ∧ j ∈ done ∧ ks[j]? = some k)) _ ?_ ?_ _ _ ⟨rfl, [], none, rfl, rfl, .inl ⟨rfl, fun _ h => nomatch h⟩⟩
    · rintro x rest b s' ⟨rfl, done, hit, rfl, hr, hH⟩
      obtain ⟨e, hx, hh⟩ := pl x (by rw [hr]; simp)
      obtain ⟨k', hk', eok⟩ := ent x e hx
      rw [hx]
      dsimp only
      rw [if_pos (by rw [hh]; simp)]
      refine wpAny_bind (wpAny_dictEpoch ho hd (wpAny_bind (eqb hu eok.is hkey hd8 (wpAny_bind (wpAny_dictEpoch ho hd ?_)))))
      show wpAny _ _ (if (ep != ep) = true then _ else _) _ E _
      rw [if_neg (by simp)]
      have nodup : places.Nodup := by
        rw [← hpl]
        exact List.Nodup.sublist List.filter_sublist List.nodup_range
      by_cases hkk : k' = k
      · rw [decide_eq_true hkk]
        subst hkk
        rcases hH with ⟨rfl, _⟩ | ⟨j, _, hj, hj2⟩
        · rw [if_pos rfl, if_neg (by simp)]
          refine wpAny_bind (wpAny_rule ?_)
          split
          · exact wpAny_pure (wpAny_pure (hsome x hk'))
          · exact wpAny_pure ⟨rfl, done ++ [x], some x, rfl, by rw [hr]; simp, .inr ⟨x, rfl, by simp, hk'⟩⟩
        · obtain rfl := uniq j x hj2 hk'
          rw [hr] at nodup
          exact absurd rfl ((List.nodup_append.mp nodup).2.2 j hj j List.mem_cons_self)
      · rw [decide_eq_false hkk]
        simp only [Bool.false_eq_true, if_false]
        refine wpAny_bind (wpAny_rule ?_)
        rw [if_neg (by simp)]
        refine wpAny_pure ⟨rfl, done ++ [x], hit, rfl, by rw [hr]; simp, ?_⟩
        rcases hH with ⟨h0, hno⟩ | ⟨j, h1, hj, hj2⟩
        · refine .inl ⟨h0, fun j hj => ?_⟩
          rcases List.mem_append.mp hj with h | h
          · exact hno j h
          · obtain rfl : j = x := by simpa using h
            rw [hk']
            exact fun q => hkk (Option.some.inj q)
        · exact .inr ⟨j, h1, List.mem_append_left _ hj, hj2⟩
    · rintro b s' ⟨rfl, done, hit, rfl, hr, hH⟩
      rw [List.append_nil] at hr
      rcases hH with ⟨rfl, hno⟩ | ⟨j, rfl, _, hj2⟩
      · refine wpAny_pure (hnone fun hm => ?_)
        obtain ⟨j, hj⟩ := mem_ix hm
        exact hno j (by rw [← hr]; exact inpl j hj) hj
      · exact wpAny_pure (hsome j hj2)
  | str x t =>
    dsimp only
    by_cases hs : (es.all fun e => isExactStrKey e.key) = true
    · rw [if_pos hs]
      exact byv x t rfl hs
    · rw [if_neg hs]
      by_cases hall : (Value.str x t :: places.filterMap fun i => es[i]?.map (·.key)).all carriedByValue = true
      · rw [if_pos hall]
        exact plain
      · rw [if_neg hall]
        refine fin _ ?_
        rw [if_neg (by simp)]
        refine wpAny_bind ?_
        refine wpAny_forIn_list _ (fun rest b s' => s' = s ∧ ∃ done hit, b = (none, hit) ∧ places = done ++ rest ∧
          ((hit = none ∧ ∀ j ∈ done, ks[j]? ≠ some k) ∨ ∃ j, hit = some j ∧ j ∈ done ∧ ks[j]? = some k)) _ ?_ ?_ _ _ ⟨rfl, [], none, rfl, rfl, .inl ⟨rfl, fun _ h => nomatch h⟩⟩
        · rintro x rest b s' ⟨rfl, done, hit, rfl, hr, hH⟩
          obtain ⟨e, hx, hh⟩ := pl x (by rw [hr]; simp)
          obtain ⟨k', hk', eok⟩ := ent x e hx
          rw [hx]
          dsimp only
          rw [if_pos (by rw [hh]; simp)]
          refine wpAny_bind (wpAny_dictEpoch ho hd (wpAny_bind (eqb hu eok.is hkey hd8 (wpAny_bind (wpAny_dictEpoch ho hd ?_)))))
          show wpAny _ _ (if (ep != ep) = true then _ else _) _ E _
          rw [if_neg (by simp)]
          have nodup : places.Nodup := by
            rw [← hpl]
            exact List.Nodup.sublist List.filter_sublist List.nodup_range
          by_cases hkk : k' = k
          · rw [decide_eq_true hkk]
            subst hkk
            rcases hH with ⟨rfl, _⟩ | ⟨j, _, hj, hj2⟩
            · rw [if_pos rfl, if_neg (by simp)]
              refine wpAny_bind (wpAny_rule ?_)
              split
              · exact wpAny_pure (wpAny_pure (hsome x hk'))
              · exact wpAny_pure ⟨rfl, done ++ [x], some x, rfl, by rw [hr]; simp, .inr ⟨x, rfl, by simp, hk'⟩⟩
            · obtain rfl := uniq j x hj2 hk'
              rw [hr] at nodup
              exact absurd rfl ((List.nodup_append.mp nodup).2.2 j hj j List.mem_cons_self)
          · rw [decide_eq_false hkk]
            simp only [Bool.false_eq_true, if_false]
            refine wpAny_bind (wpAny_rule ?_)
            rw [if_neg (by simp)]
            refine wpAny_pure ⟨rfl, done ++ [x], hit, rfl, by rw [hr]; simp, ?_⟩
            rcases hH with ⟨h0, hno⟩ | ⟨j, h1, hj, hj2⟩
            · refine .inl ⟨h0, fun j hj => ?_⟩
              rcases List.mem_append.mp hj with h | h
              · exact hno j h
              · obtain rfl : j = x := by simpa using h
                rw [hk']
                exact fun q => hkk (Option.some.inj q)
            · exact .inr ⟨j, h1, List.mem_append_left _ hj, hj2⟩
        · rintro b s' ⟨rfl, done, hit, rfl, hr, hH⟩
          rw [List.append_nil] at hr
          rcases hH with ⟨rfl, hno⟩ | ⟨j, rfl, _, hj2⟩
          · refine wpAny_pure (hnone fun hm => ?_)
            obtain ⟨j, hj⟩ := mem_ix hm
            exact hno j (by rw [← hr]; exact inpl j hj) hj
          · exact wpAny_pure (hsome j hj2)
  | none =>
    by_cases hall : (Value.none :: places.filterMap fun i => es[i]?.map (·.key)).all carriedByValue = true
    · rw [if_pos hall]
      exact plain
    · rw [if_neg hall]
      refine fin _ ?_
      rw [if_neg (by simp)]
      refine wpAny_bind ?_
      refine wpAny_forIn_list _ (fun rest b s' => s' = s ∧ ∃ done hit, b = (none, hit) ∧ places = done ++ rest ∧
        ((hit = none ∧ ∀ j ∈ done, ks[j]? ≠ some k) ∨ ∃ j, hit = some j ∧ j ∈ done ∧ ks[j]? = some k)) _ ?_ ?_ _ _ ⟨rfl, [], none, rfl, rfl, .inl ⟨rfl, fun _ h => nomatch h⟩⟩
      · rintro x rest b s' ⟨rfl, done, hit, rfl, hr, hH⟩
        obtain ⟨e, hx, hh⟩ := pl x (by rw [hr]; simp)
        obtain ⟨k', hk', eok⟩ := ent x e hx
        rw [hx]
        dsimp only
        rw [if_pos (by rw [hh]; simp)]
        refine wpAny_bind (wpAny_dictEpoch ho hd (wpAny_bind (eqb hu eok.is hkey hd8 (wpAny_bind (wpAny_dictEpoch ho hd ?_)))))
        show wpAny _ _ (if (ep != ep) = true then _ else _) _ E _
        rw [if_neg (by simp)]
        have nodup : places.Nodup := by
          rw [← hpl]
          exact List.Nodup.sublist List.filter_sublist List.nodup_range
        by_cases hkk : k' = k
        · rw [decide_eq_true hkk]
          subst hkk
          rcases hH with ⟨rfl, _⟩ | ⟨j, _, hj, hj2⟩
          · rw [if_pos rfl, if_neg (by simp)]
            refine wpAny_bind (wpAny_rule ?_)
            split
            · exact wpAny_pure (wpAny_pure (hsome x hk'))
            · exact wpAny_pure ⟨rfl, done ++ [x], some x, rfl, by rw [hr]; simp, .inr ⟨x, rfl, by simp, hk'⟩⟩
          · obtain rfl := uniq j x hj2 hk'
            rw [hr] at nodup
            exact absurd rfl ((List.nodup_append.mp nodup).2.2 j hj j List.mem_cons_self)
        · rw [decide_eq_false hkk]
          simp only [Bool.false_eq_true, if_false]
          refine wpAny_bind (wpAny_rule ?_)
          rw [if_neg (by simp)]
          refine wpAny_pure ⟨rfl, done ++ [x], hit, rfl, by rw [hr]; simp, ?_⟩
          rcases hH with ⟨h0, hno⟩ | ⟨j, h1, hj, hj2⟩
          · refine .inl ⟨h0, fun j hj => ?_⟩
            rcases List.mem_append.mp hj with h | h
            · exact hno j h
            · obtain rfl : j = x := by simpa using h
              rw [hk']
              exact fun q => hkk (Option.some.inj q)
          · exact .inr ⟨j, h1, List.mem_append_left _ hj, hj2⟩
      · rintro b s' ⟨rfl, done, hit, rfl, hr, hH⟩
        rw [List.append_nil] at hr
        rcases hH with ⟨rfl, hno⟩ | ⟨j, rfl, _, hj2⟩
        · refine wpAny_pure (hnone fun hm => ?_)
          obtain ⟨j, hj⟩ := mem_ix hm
          exact hno j (by rw [← hr]; exact inpl j hj) hj
        · exact wpAny_pure (hsome j hj2)
  | bool b =>
    by_cases hall : (Value.bool b :: places.filterMap fun i => es[i]?.map (·.key)).all carriedByValue = true
    · rw [if_pos hall]
      exact plain
    · rw [if_neg hall]
      refine fin _ ?_
      rw [if_neg (by simp)]
      refine wpAny_bind ?_
      refine wpAny_forIn_list _ (fun rest b s' => s' = s ∧ ∃ done hit, b = (none, hit) ∧ places = done ++ rest ∧
        ((hit = none ∧ ∀ j ∈ done, ks[j]? ≠ some k) ∨ ∃ j, hit = some j ∧ j ∈ done ∧ ks[j]? = some k)) _ ?_ ?_ _ _ ⟨rfl, [], none, rfl, rfl, .inl ⟨rfl, fun _ h => nomatch h⟩⟩
      · rintro x rest b s' ⟨rfl, done, hit, rfl, hr, hH⟩
        obtain ⟨e, hx, hh⟩ := pl x (by rw [hr]; simp)
        obtain ⟨k', hk', eok⟩ := ent x e hx
        rw [hx]
        dsimp only
        rw [if_pos (by rw [hh]; simp)]
        refine wpAny_bind (wpAny_dictEpoch ho hd (wpAny_bind (eqb hu eok.is hkey hd8 (wpAny_bind (wpAny_dictEpoch ho hd ?_)))))
        show wpAny _ _ (if (ep != ep) = true then _ else _) _ E _
        rw [if_neg (by simp)]
        have nodup : places.Nodup := by
          rw [← hpl]
          exact List.Nodup.sublist List.filter_sublist List.nodup_range
        by_cases hkk : k' = k
        · rw [decide_eq_true hkk]
          subst hkk
          rcases hH with ⟨rfl, _⟩ | ⟨j, _, hj, hj2⟩
          · rw [if_pos rfl, if_neg (by simp)]
            refine wpAny_bind (wpAny_rule ?_)
            split
            · exact wpAny_pure (wpAny_pure (hsome x hk'))
            · exact wpAny_pure ⟨rfl, done ++ [x], some x, rfl, by rw [hr]; simp, .inr ⟨x, rfl, by simp, hk'⟩⟩
          · obtain rfl := uniq j x hj2 hk'
            rw [hr] at nodup
            exact absurd rfl ((List.nodup_append.mp nodup).2.2 j hj j List.mem_cons_self)
        · rw [decide_eq_false hkk]
          simp only [Bool.false_eq_true, if_false]
          refine wpAny_bind (wpAny_rule ?_)
          rw [if_neg (by simp)]
          refine wpAny_pure ⟨rfl, done ++ [x], hit, rfl, by rw [hr]; simp, ?_⟩
          rcases hH with ⟨h0, hno⟩ | ⟨j, h1, hj, hj2⟩
          · refine .inl ⟨h0, fun j hj => ?_⟩
            rcases List.mem_append.mp hj with h | h
            · exact hno j h
            · obtain rfl : j = x := by simpa using h
              rw [hk']
              exact fun q => hkk (Option.some.inj q)
          · exact .inr ⟨j, h1, List.mem_append_left _ hj, hj2⟩
      · rintro b s' ⟨rfl, done, hit, rfl, hr, hH⟩
        rw [List.append_nil] at hr
        rcases hH with ⟨rfl, hno⟩ | ⟨j, rfl, _, hj2⟩
        · refine wpAny_pure (hnone fun hm => ?_)
          obtain ⟨j, hj⟩ := mem_ix hm
          exact hno j (by rw [← hr]; exact inpl j hj) hj
        · exact wpAny_pure (hsome j hj2)
  | int i t =>
    by_cases hall : (Value.int i t :: places.filterMap fun i => es[i]?.map (·.key)).all carriedByValue = true
    · rw [if_pos hall]
      exact plain
    · rw [if_neg hall]
      refine fin _ ?_
      rw [if_neg (by simp)]
      refine wpAny_bind ?_
      refine wpAny_forIn_list _ (fun rest b s' => s' = s ∧ ∃ done hit, b = (none, hit) ∧ places = done ++ rest ∧
        ((hit = none ∧ ∀ j ∈ done, ks[j]? ≠ some k) ∨ ∃ j, hit = some j ∧ j ∈ done ∧ ks[j]? = some k)) _ ?_ ?_ _ _ ⟨rfl, [], none, rfl, rfl, .inl ⟨rfl, fun _ h => nomatch h⟩⟩
      · rintro x rest b s' ⟨rfl, done, hit, rfl, hr, hH⟩
        obtain ⟨e, hx, hh⟩ := pl x (by rw [hr]; simp)
        obtain ⟨k', hk', eok⟩ := ent x e hx
        rw [hx]
        dsimp only
        rw [if_pos (by rw [hh]; simp)]
        refine wpAny_bind (wpAny_dictEpoch ho hd (wpAny_bind (eqb hu eok.is hkey hd8 (wpAny_bind (wpAny_dictEpoch ho hd ?_)))))
        show wpAny _ _ (if (ep != ep) = true then _ else _) _ E _
        rw [if_neg (by simp)]
        have nodup : places.Nodup := by
          rw [← hpl]
          exact List.Nodup.sublist List.filter_sublist List.nodup_range
        by_cases hkk : k' = k
        · rw [decide_eq_true hkk]
          subst hkk
          rcases hH with ⟨rfl, _⟩ | ⟨j, _, hj, hj2⟩
          · rw [if_pos rfl, if_neg (by simp)]
            refine wpAny_bind (wpAny_rule ?_)
            split
            · exact wpAny_pure (wpAny_pure (hsome x hk'))
            · exact wpAny_pure ⟨rfl, done ++ [x], some x, rfl, by rw [hr]; simp, .inr ⟨x, rfl, by simp, hk'⟩⟩
          · obtain rfl := uniq j x hj2 hk'
            rw [hr] at nodup
            exact absurd rfl ((List.nodup_append.mp nodup).2.2 j hj j List.mem_cons_self)
        · rw [decide_eq_false hkk]
          simp only [Bool.false_eq_true, if_false]
          refine wpAny_bind (wpAny_rule ?_)
          rw [if_neg (by simp)]
          refine wpAny_pure ⟨rfl, done ++ [x], hit, rfl, by rw [hr]; simp, ?_⟩
          rcases hH with ⟨h0, hno⟩ | ⟨j, h1, hj, hj2⟩
          · refine .inl ⟨h0, fun j hj => ?_⟩
            rcases List.mem_append.mp hj with h | h
            · exact hno j h
            · obtain rfl : j = x := by simpa using h
              rw [hk']
              exact fun q => hkk (Option.some.inj q)
          · exact .inr ⟨j, h1, List.mem_append_left _ hj, hj2⟩
      · rintro b s' ⟨rfl, done, hit, rfl, hr, hH⟩
        rw [List.append_nil] at hr
        rcases hH with ⟨rfl, hno⟩ | ⟨j, rfl, _, hj2⟩
        · refine wpAny_pure (hnone fun hm => ?_)
          obtain ⟨j, hj⟩ := mem_ix hm
          exact hno j (by rw [← hr]; exact inpl j hj) hj
        · exact wpAny_pure (hsome j hj2)
  | _ => cases hkey

/-! ### the entries -/
def entM (w : World) (x : Dm × Value × Value) : DictEntry := ⟨x.1.hash w, x.2.1, x.2.2⟩
def look {β : Type} (xs : List (Dm × β)) (k : Dm) : Option β := (xs.find? fun x => decide (x.1 = k)).map (·.2)
def putX {α : Type} (xs : List (Dm × α × α)) (k : Dm) (kv v : α) : List (Dm × α × α) :=
  if (look xs k).isSome then xs.map (fun x => if x.1 = k then (x.1, x.2.1, v) else x) else xs ++ [(k, kv, v)]
def delX {β : Type} (xs : List (Dm × β)) (k : Dm) : List (Dm × β) := xs.filter fun x => decide (x.1 ≠ k)
section
variable {β : Type}
theorem look_nil {k : Dm} : look ([] : List (Dm × β)) k = none := rfl
theorem look_pos {x : Dm × β} {xs : List (Dm × β)} {k : Dm} (h : x.1 = k) : look (x :: xs) k = some x.2 := by simp [look, List.find?_cons, h]
theorem look_neg {x : Dm × β} {xs : List (Dm × β)} {k : Dm} (h : ¬ x.1 = k) : look (x :: xs) k = look xs k := by simp [look, List.find?_cons, h]
theorem look_none_iff : ∀ {xs : List (Dm × β)} {k : Dm}, look xs k = none ↔ k ∉ xs.map (·.1)
  | [], k => by simp [look]
  | x :: xs, k => by
    by_cases h : x.1 = k
    · rw [look_pos h]; simp [h]
    · rw [look_neg h, look_none_iff, List.map_cons, List.mem_cons, not_or]
      exact ⟨fun q => ⟨fun e => h e.symm, q⟩, fun q => q.2⟩
theorem look_mem : ∀ {xs : List (Dm × β)} {k : Dm} {b : β}, look xs k = some b → (k, b) ∈ xs
  | [], k, b, h => by cases h
  | x :: xs, k, b, h => by
    by_cases e : x.1 = k
    · rw [look_pos e] at h
      cases h
      rw [← e]
      exact List.mem_cons_self
    · rw [look_neg e] at h
      exact List.mem_cons_of_mem _ (look_mem h)
theorem look_at : ∀ {xs : List (Dm × β)} {j : Nat} {k : Dm} {b : β}, (xs.map (·.1)).Nodup → xs[j]? = some (k, b) → look xs k = some b
  | [], j, k, b, _, h => by simp at h
  | x :: xs, 0, k, b, _, h => by
    simp only [List.getElem?_cons_zero, Option.some.injEq] at h
    subst h
    exact look_pos rfl
  | x :: xs, j + 1, k, b, hn, h => by
    rw [List.map_cons, List.nodup_cons] at hn
    simp only [List.getElem?_cons_succ] at h
    have hm : k ∈ xs.map (·.1) := List.mem_map.mpr ⟨(k, b), List.mem_of_getElem? h, rfl⟩
    rw [look_neg fun e => hn.1 (e ▸ hm)]
    exact look_at hn.2 h
theorem look_of_mem {xs : List (Dm × β)} {k : Dm} {b : β} (hn : (xs.map (·.1)).Nodup) (h : (k, b) ∈ xs) : look xs k = some b := by
  obtain ⟨j, hj⟩ := List.mem_iff_getElem?.mp h
  exact look_at hn hj
theorem delX_not : ∀ {xs : List (Dm × β)} {k : Dm}, k ∉ xs.map (·.1) → delX xs k = xs
  | [], _, _ => rfl
  | x :: xs, k, h => by
    rw [List.map_cons, List.mem_cons, not_or] at h
    have ne : x.1 ≠ k := fun e => h.1 e.symm
    show (x :: xs).filter _ = _
    rw [List.filter_cons_of_pos (by simp [ne])]
    exact congrArg (List.cons x) (delX_not h.2)
theorem erase_delX : ∀ {xs : List (Dm × β)} {j : Nat} {k : Dm} {b : β}, (xs.map (·.1)).Nodup → xs[j]? = some (k, b) → xs.eraseIdx j = delX xs k
  | [], j, k, b, _, h => by simp at h
  | x :: xs, 0, k, b, hn, h => by
    simp only [List.getElem?_cons_zero, Option.some.injEq] at h
    subst h
    rw [List.map_cons, List.nodup_cons] at hn
    rw [List.eraseIdx_cons_zero]
    show _ = ((k, b) :: xs).filter _
    rw [List.filter_cons, if_neg (by simp)]
    exact (delX_not hn.1).symm
  | x :: xs, j + 1, k, b, hn, h => by
    rw [List.map_cons, List.nodup_cons] at hn
    simp only [List.getElem?_cons_succ] at h
    have hm : k ∈ xs.map (·.1) := List.mem_map.mpr ⟨(k, b), List.mem_of_getElem? h, rfl⟩
    have ne : x.1 ≠ k := fun e => hn.1 (e ▸ hm)
    rw [List.eraseIdx_cons_succ, erase_delX hn.2 h]
    show _ = (x :: xs).filter _
    rw [List.filter_cons_of_pos (by simp [ne])]
    rfl
theorem nodup_delX {xs : List (Dm × β)} (hn : (xs.map (·.1)).Nodup) (k : Dm) : ((delX xs k).map (·.1)).Nodup := List.Nodup.sublist (List.Sublist.map _ List.filter_sublist) hn
theorem mem_delX {xs : List (Dm × β)} {k : Dm} {x : Dm × β} (h : x ∈ delX xs k) : x ∈ xs := (List.mem_filter.mp h).1
theorem delX_len (xs : List (Dm × β)) (k : Dm) : (delX xs k).length ≤ xs.length := List.length_filter_le _ _
theorem look_delX : ∀ (xs : List (Dm × β)) (k j : Dm), look (delX xs k) j = if j = k then none else look xs j
  | [], k, j => by simp [delX, look]
  | x :: xs, k, j => by
    have ih := look_delX xs k j
    by_cases h : x.1 = k
    · have e : delX (x :: xs) k = delX xs k := by
        show (x :: xs).filter _ = xs.filter _
        rw [List.filter_cons, if_neg (by simp [h])]
      rw [e, ih]
      by_cases hj : j = k
      · rw [if_pos hj, if_pos hj]
      · rw [if_neg hj, if_neg hj, look_neg fun q => hj (q.symm.trans h)]
    · have e : delX (x :: xs) k = x :: delX xs k := by
        show (x :: xs).filter _ = x :: xs.filter _
        rw [List.filter_cons, if_pos (by simp [h])]
      rw [e]
      by_cases hx : x.1 = j
      · rw [look_pos hx, look_pos hx, if_neg fun q => h (hx.trans q)]
      · rw [look_neg hx, look_neg hx, ih]
end
section
variable {α : Type}
theorem putX_map_not (v : α) : ∀ {xs : List (Dm × α × α)} {k : Dm}, k ∉ xs.map (·.1) → xs.map (fun x => if x.1 = k then (x.1, x.2.1, v) else x) = xs
  | [], _, _ => rfl
  | x :: xs, k, h => by
    rw [List.map_cons, List.mem_cons, not_or] at h
    rw [List.map_cons, if_neg fun e => h.1 e.symm, putX_map_not v h.2]
theorem putX_keys (v : α) (k : Dm) : ∀ xs : List (Dm × α × α), (xs.map (fun x => if x.1 = k then (x.1, x.2.1, v) else x)).map (·.1) = xs.map (·.1)
  | [] => rfl
  | x :: xs => by
    rw [List.map_cons, List.map_cons, List.map_cons, putX_keys v k xs]
    by_cases h : x.1 = k
    · rw [if_pos h]
    · rw [if_neg h]
theorem putX_new {xs : List (Dm × α × α)} {k : Dm} {kv v : α} (h : look xs k = none) : putX xs k kv v = xs ++ [(k, kv, v)] := by
  unfold putX
  rw [h]
  rfl
theorem putX_old {xs : List (Dm × α × α)} {k : Dm} {kv v : α} {p : α × α} (h : look xs k = some p) : putX xs k kv v = xs.map (fun x => if x.1 = k then (x.1, x.2.1, v) else x) := by
  unfold putX
  rw [h]
  rfl
theorem putX_modify {γ : Type} (f : Dm × α × α → γ) (g : γ → γ) {k : Dm} {v : α} (hg : ∀ a b, g (f (k, a, b)) = f (k, a, v)) :
    ∀ {xs : List (Dm × α × α)} {j : Nat} {p : α × α}, (xs.map (·.1)).Nodup → xs[j]? = some (k, p) → (xs.map f).modify j g = (xs.map (fun x => if x.1 = k then (x.1, x.2.1, v) else x)).map f
  | [], j, p, _, h => by simp at h
  | x :: xs, 0, p, hn, h => by
    simp only [List.getElem?_cons_zero, Option.some.injEq] at h
    subst h
    rw [List.map_cons, List.nodup_cons] at hn
    rw [List.map_cons, List.map_cons, List.map_cons, if_pos rfl, putX_map_not v hn.1]
    show g (f (k, p)) :: xs.map f = f (k, p.1, v) :: xs.map f
    rw [show (k, p) = (k, p.1, p.2) from rfl, hg]
  | x :: xs, j + 1, p, hn, h => by
    rw [List.map_cons, List.nodup_cons] at hn
    simp only [List.getElem?_cons_succ] at h
    have hm : k ∈ xs.map (·.1) := List.mem_map.mpr ⟨(k, p), List.mem_of_getElem? h, rfl⟩
    have ne : ¬ x.1 = k := fun e => hn.1 (e ▸ hm)
    rw [List.map_cons, List.map_cons, List.map_cons, if_neg ne]
    show f x :: (xs.map f).modify j g = f x :: _
    rw [putX_modify f g hg hn.2 h]
theorem nodup_putX {xs : List (Dm × α × α)} (hn : (xs.map (·.1)).Nodup) (k : Dm) (kv v : α) : ((putX xs k kv v).map (·.1)).Nodup := by
  cases h : look xs k with
  | some p => rw [putX_old h, putX_keys]; exact hn
  | none =>
    rw [putX_new h, List.map_append, List.nodup_append]
    refine ⟨hn, by simp, fun a ha b hb => ?_⟩
    obtain rfl : b = k := by simpa using hb
    exact fun e => look_none_iff.mp h (e ▸ ha)
theorem putX_len (xs : List (Dm × α × α)) (k : Dm) (kv v : α) : (putX xs k kv v).length ≤ xs.length + 1 := by
  unfold putX
  split <;> simp
theorem look_map_put (v : α) (k j : Dm) : ∀ xs : List (Dm × α × α), look (xs.map (fun x => if x.1 = k then (x.1, x.2.1, v) else x)) j = (look xs j).map fun p => if j = k then (p.1, v) else p
  | [] => rfl
  | x :: xs => by
    rw [List.map_cons]
    by_cases hx : x.1 = j
    · by_cases hk : x.1 = k
      · rw [if_pos hk, look_pos (show ((x.1, x.2.1, v) : Dm × α × α).1 = j from hx), look_pos hx, Option.map_some, if_pos (hx.symm.trans hk)]
      · rw [if_neg hk, look_pos hx, look_pos hx, Option.map_some, if_neg fun e => hk (hx.trans e)]
    · have e : ¬ (if x.1 = k then (x.1, x.2.1, v) else x).1 = j := by
        by_cases hk : x.1 = k
        · rw [if_pos hk]; exact hx
        · rw [if_neg hk]; exact hx
      rw [look_neg e, look_neg hx]
      exact look_map_put v k j xs
theorem look_snoc {β : Type} (k j : Dm) (b : β) : ∀ xs : List (Dm × β), look (xs ++ [(k, b)]) j = (look xs j).or (if j = k then some b else none)
  | [] => by
    show look [(k, b)] j = _
    by_cases h : k = j
    · rw [look_pos h, if_pos h.symm]; rfl
    · rw [look_neg h, if_neg fun e => h e.symm]; rfl
  | x :: xs => by
    show look (x :: (xs ++ [(k, b)])) j = _
    by_cases hx : x.1 = j
    · rw [look_pos hx, look_pos hx]; rfl
    · rw [look_neg hx, look_neg hx]
      exact look_snoc k j b xs
/-- the values alone -/
theorem look_putX (xs : List (Dm × α × α)) (k j : Dm) (kv v : α) : (look (putX xs k kv v) j).map (·.2) = if j = k then some v else (look xs j).map (·.2) := by
  cases h : look xs k with
  | some p =>
    rw [putX_old h, look_map_put]
    by_cases hj : j = k
    · subst hj
      rw [h, if_pos rfl]
      simp
    · rw [if_neg hj]
      cases look xs j with
      | none => rfl
      | some q => simp [hj]
  | none =>
    rw [putX_new h, look_snoc]
    by_cases hj : j = k
    · subst hj
      rw [h, if_pos rfl, if_pos rfl]
      rfl
    · rw [if_neg hj, if_neg hj, Option.or_none]
theorem mem_putX {xs : List (Dm × α × α)} {k : Dm} {kv v : α} {x : Dm × α × α} (h : x ∈ putX xs k kv v) : (∃ y ∈ xs, y.1 = x.1 ∧ y.2.1 = x.2.1) ∨ (x.1 = k ∧ x.2.1 = kv) := by
  cases hl : look xs k with
  | some p =>
    rw [putX_old hl] at h
    obtain ⟨y, hy, e⟩ := List.mem_map.mp h
    refine .inl ⟨y, hy, ?_⟩
    by_cases hk : y.1 = k
    · rw [if_pos hk] at e
      rw [← e]
      exact ⟨rfl, rfl⟩
    · rw [if_neg hk] at e
      rw [e]
      exact ⟨rfl, rfl⟩
  | none =>
    rw [putX_new hl] at h
    rcases List.mem_append.mp h with h | h
    · exact .inl ⟨x, h, rfl, rfl⟩
    · obtain rfl : x = (k, kv, v) := by simpa using h
      exact .inr ⟨rfl, rfl⟩
end

/-- at d stands a plain dict with the entries xs -/
def RawD (w : World) (h : Heap) (d : Addr) (xs : List (Dm × Value × Value)) : Prop :=
  ∃ o es ep, h.get? d = some o ∧ o.ExactDict ∧ o.data = .dict es ep ∧ es.toList = xs.map (entM w)
/-- the keys are keys -/
structure KeysM (h : Heap) (xs : List (Dm × Value × Value)) : Prop where
  is : ∀ x ∈ xs, NestedIs h x.1 x.2.1 ∧ x.1.depth ≤ 8
  nd : (xs.map (·.1)).Nodup
theorem RawD.typeIs {s : Shared} {d : Addr} {xs : List (Dm × Value × Value)} (x : RawD w s.heap d xs) : s.TypeIs (.ref d) "dict" := let ⟨o, _, _, ho, hc, _⟩ := x; ⟨o, ho, hc.1⟩
theorem RawD.at' {h h' : Heap} {d : Addr} {xs : List (Dm × Value × Value)} (x : RawD w h d xs) (k : ∀ o, h.get? d = some o → h'.get? d = some o) : RawD w h' d xs := let ⟨o, es, ep, ho, r⟩ := x; ⟨o, es, ep, k o ho, r⟩
theorem RawD.size {h : Heap} {d : Addr} {xs : List (Dm × Value × Value)} {o : Obj} {es : Array DictEntry} {ep : Nat} (_ : h.get? d = some o) (_ : o.data = .dict es ep) (he : es.toList = xs.map (entM w)) : es.size = xs.length := by
  rw [← Array.length_toList, he, List.length_map]
theorem paired_ent {h : Heap} : ∀ {xs : List (Dm × Value × Value)}, (∀ x ∈ xs, NestedIs h x.1 x.2.1 ∧ x.1.depth ≤ 8) → Paired (EntOk w h) (xs.map (entM w)) (xs.map (·.1))
  | [], _ => .nil
  | x :: xs, hx => .cons ⟨rfl, (hx x List.mem_cons_self).1, (hx x List.mem_cons_self).2⟩ (paired_ent fun y hy => hx y (List.mem_cons_of_mem _ hy))
theorem keys_ix {xs : List (Dm × Value × Value)} {j : Nat} {k : Dm} (h : (xs.map (·.1))[j]? = some k) : ∃ p, xs[j]? = some (k, p) := by
  rw [List.getElem?_map] at h
  cases e : xs[j]? with
  | none => rw [e] at h; cases h
  | some x =>
    rw [e] at h
    have q : x.1 = k := Option.some.inj h
    exact ⟨x.2, by rw [← q]⟩
theorem nested_keeps {h h' : Heap} {d : Addr} {o : Obj} {es : Array DictEntry} {ep : Nat} (ho : h.get? d = some o) (hd : o.data = .dict es ep) (hs : Heap.SameBut d h h') {k : Dm} {v : Value} (x : NestedIs h k v) : NestedIs h' k v :=
  NestedIs.at (fun b ob vs n hb hc => by
    refine (hs.2 b fun e => ?_).trans hb
    subst e
    rw [ho] at hb
    cases hb
    rw [hd] at hc
    cases hc) k _ x

section
variable {d : Addr} {key : Value} {k : Dm} {xs : List (Dm × Value × Value)}
theorem get_mix {Q : Option Value → Shared → Prop} (hu : A.units + 8 < cLine) (hkey : NestedIs s.heap k key) (hd8 : k.depth ≤ 8) (hm : RawD w s.heap d xs) (hk : KeysM s.heap xs)
    (h : Q ((look xs k).map (·.2)) { s with toks := s.toks + k.draws }) : wpAny (model prog w) A (dictGet d key) Q E s := by
  obtain ⟨o, es, ep, ho, hc, hd, he⟩ := hm
  unfold dictGet
  try with_reducible refine wpAny_holding ?_
  refine wpAny_bind (pyHash_key k key A s _ hkey (by omega) (wpAny_bind (find_mix (s := { s with toks := s.toks + k.draws }) (ks := xs.map (·.1)) hu hkey hd8 ho hd (by rw [he]; exact paired_ent hk.is) hk.nd ?_ ?_)))
  · intro hno
    rw [look_none_iff.mpr hno] at h
    exact wpAny_pure h
  · intro j hj
    obtain ⟨p, hp⟩ := keys_ix hj
    rw [look_at hk.nd hp] at h
    refine wpAny_bind (wpAny_dictEntries (s := { s with toks := s.toks + k.draws }) ho hd ?_)
    have e1 : es[j]? = some (entM w (k, p)) := by rw [← Array.getElem?_toList, he, List.getElem?_map, hp]; rfl
    rw [e1]
    exact wpAny_pure h
theorem keysM_put {h h' : Heap} {o : Obj} {es : Array DictEntry} {ep : Nat} {v : Value} (ho : h.get? d = some o) (hd : o.data = .dict es ep) (hs : Heap.SameBut d h h') (hkey : NestedIs h k key) (hd8 : k.depth ≤ 8) (hk : KeysM h xs) : KeysM h' (putX xs k key v) := by
  refine ⟨fun x hx => ?_, nodup_putX hk.nd _ _ _⟩
  rcases mem_putX hx with ⟨y, hy, e1, e2⟩ | ⟨e1, e2⟩
  · rw [← e1, ← e2]
    exact ⟨nested_keeps ho hd hs (hk.is y hy).1, (hk.is y hy).2⟩
  · rw [e1, e2]
    exact ⟨nested_keeps ho hd hs hkey, hd8⟩
theorem set_mix {v : Value} {Q : Unit → Shared → Prop} (hu : A.units + 8 < cLine) (hkey : NestedIs s.heap k key) (hd8 : k.depth ≤ 8) (hm : RawD w s.heap d xs) (hk : KeysM s.heap xs) (hz : xs.length ≤ sizeLine)
    (h : ∀ h', RawD w h' d (putX xs k key v) → Heap.SameBut d s.heap h' → Q () { s with heap := h', toks := s.toks + k.draws }) : wpAny (model prog w) A (dictSet d key v) Q E s := by
  obtain ⟨o, es, ep, ho, hc, hd, he⟩ := hm
  have hsz := RawD.size ho hd he
  unfold dictSet
  try with_reducible refine wpAny_holding ?_
  refine wpAny_bind (pyHash_key k key A s _ hkey (by omega) ?_)
  unfold dictSetHashed
  try with_reducible refine wpAny_holding ?_
  refine wpAny_bind (find_mix (s := { s with toks := s.toks + k.draws }) (ks := xs.map (·.1)) hu hkey hd8 ho hd (by rw [he]; exact paired_ent hk.is) hk.nd ?_ ?_)
  · intro hno
    refine wpAny_bind (wpAny_rule (wpAny_updateDictKeys (hz := by omega) (s := { s with toks := s.toks + k.draws }) ho hd (h _ ⟨_, _, ep + 1, Heap.get?_update_self _ ho (Obj.isFreed_of_dict (Obj.data_mapDictKeys hd _)),
      hc.mapDictKeys _, Obj.data_mapDictKeys hd _, ?_⟩ (Heap.SameBut.update ..))))
    rw [putX_new (look_none_iff.mpr hno)]
    simp [he, entM]
  · intro j hj
    obtain ⟨p, hp⟩ := keys_ix hj
    refine wpAny_bind (wpAny_rule (wpAny_bind (wpAny_updateDict (s := { s with toks := s.toks + k.draws }) ho hd (wpAny_point (h _ ⟨_, _, ep, Heap.get?_update_self _ ho (Obj.isFreed_of_dict (Obj.data_mapDict hd _)),
      hc.mapDict _, Obj.data_mapDict hd _, ?_⟩ (Heap.SameBut.update ..))))))
    rw [putX_old (look_at hk.nd hp), ← putX_modify (entM w) (fun e : DictEntry => { e with val := v }) (fun _ _ => rfl) hk.nd hp, ← he]
    obtain ⟨l⟩ := es
    simp
theorem sdf_mix {v : Value} {Q : Value → Shared → Prop} (hu : A.units + 8 < cLine) (hkey : NestedIs s.heap k key) (hd8 : k.depth ≤ 8) (hm : RawD w s.heap d xs) (hk : KeysM s.heap xs) (hz : xs.length ≤ sizeLine)
    (h1 : ∀ p, look xs k = some p → Q p.2 { s with toks := s.toks + k.draws })
    (h2 : look xs k = none → ∀ h', RawD w h' d (xs ++ [(k, key, v)]) → Heap.SameBut d s.heap h' → Q v { s with heap := h', toks := s.toks + k.draws }) : wpAny (model prog w) A (dictSetDefault d key v) Q E s := by
  obtain ⟨o, es, ep, ho, hc, hd, he⟩ := hm
  have hsz := RawD.size ho hd he
  unfold dictSetDefault
  try with_reducible refine wpAny_holding ?_
  refine wpAny_bind (pyHash_key k key A s _ hkey (by omega) ?_)
  refine wpAny_bind (find_mix (s := { s with toks := s.toks + k.draws }) (ks := xs.map (·.1)) hu hkey hd8 ho hd (by rw [he]; exact paired_ent hk.is) hk.nd ?_ ?_)
  · intro hno
    refine wpAny_bind (wpAny_rule (wpAny_bind (wpAny_updateDictKeys (hz := by omega) (s := { s with toks := s.toks + k.draws }) ho hd (wpAny_pure (h2 (look_none_iff.mpr hno) _ ⟨_, _, ep + 1, Heap.get?_update_self _ ho (Obj.isFreed_of_dict (Obj.data_mapDictKeys hd _)),
      hc.mapDictKeys _, Obj.data_mapDictKeys hd _, ?_⟩ (Heap.SameBut.update ..))))))
    simp [he, entM]
  · intro j hj
    obtain ⟨p, hp⟩ := keys_ix hj
    refine wpAny_bind (wpAny_dictEntries (s := { s with toks := s.toks + k.draws }) ho hd ?_)
    have e1 : es[j]? = some (entM w (k, p)) := by rw [← Array.getElem?_toList, he, List.getElem?_map, hp]; rfl
    rw [e1]
    exact wpAny_bind (wpAny_rule (wpAny_pure (h1 p (look_at hk.nd hp))))
theorem out_mix {p : Value × Value} {Q : Option DictEntry → Shared → Prop} (hu : A.units + 8 < cLine) (hkey : NestedIs s.heap k key) (hd8 : k.depth ≤ 8) (hm : RawD w s.heap d xs) (hk : KeysM s.heap xs) (hz : xs.length ≤ sizeLine) (hp : look xs k = some p)
    (h : ∀ e h', e.val = p.2 → RawD w h' d (delX xs k) → Heap.SameBut d s.heap h' → Q (some e) { s with heap := h', toks := s.toks + k.draws }) : wpAny (model prog w) A (Builtin.Dict.takeOut d key) Q E s := by
  obtain ⟨o, es, ep, ho, hc, hd, he⟩ := hm
  have hsz := RawD.size ho hd he
  unfold Builtin.Dict.takeOut
  try with_reducible refine wpAny_holding ?_
  refine wpAny_bind (pyHash_key k key A s _ hkey (by omega) ?_)
  refine wpAny_bind (find_mix (s := { s with toks := s.toks + k.draws }) (ks := xs.map (·.1)) hu hkey hd8 ho hd (by rw [he]; exact paired_ent hk.is) hk.nd ?_ ?_)
  · intro hno
    rw [look_none_iff.mpr hno] at hp
    cases hp
  · intro j hj
    obtain ⟨q, hq⟩ := keys_ix hj
    have eq : q = p := by
      rw [look_at hk.nd hq] at hp
      exact Option.some.inj hp
    subst eq
    refine wpAny_bind (wpAny_dictEntries (s := { s with toks := s.toks + k.draws }) ho hd ?_)
    have e1 : es[j]? = some (entM w (k, q)) := by rw [← Array.getElem?_toList, he, List.getElem?_map, hq]; rfl
    rw [e1]
    refine wpAny_bind (wpAny_updateDictKeys (hz := by omega) (s := { s with toks := s.toks + k.draws }) ho hd (wpAny_pure (h _ _ rfl ⟨_, _, ep + 1, Heap.get?_update_self _ ho (Obj.isFreed_of_dict (Obj.data_mapDictKeys hd _)),
      hc.mapDictKeys _, Obj.data_mapDictKeys hd _, ?_⟩ (Heap.SameBut.update ..))))
    rw [← erase_delX hk.nd hq, PySem.map_eraseIdx, ← he]
    obtain ⟨l⟩ := es
    simp
end
end
end TGr

/-! Data in the abstract heap; dicts whose keys are data. -/
namespace TG
open PySem PySem.Spec L2 TGr
open PyProof.Rows hiding St

/-! ### data -/
mutual
/-- the value x is the data d -/
inductive Dat (K : PySem.W.Frag) (H : Hp) : Dm → V → Prop
  | non : Dat K H .none .non
  | num (i : Int) : Dat K H (.num i) (.int i)
  | text (x : Str) : PyData.strOk x = true → Dat K H (.text x) (.str x)
  | tup {a : Addr} {xs : List V} {ds : List Dm} : SqT K H a xs → DatA K H ds xs → Dat K H (.tup ds) (.ref a)
inductive DatA (K : PySem.W.Frag) (H : Hp) : List Dm → List V → Prop
  | nil : DatA K H [] []
  | cons {d : Dm} {x : V} {ds : List Dm} {xs : List V} : Dat K H d x → DatA K H ds xs → DatA K H (d :: ds) (x :: xs)
end
section
variable {K : PySem.W.Frag} {H H' : Hp}
mutual
theorem Dat.up (h : ∀ a xs, SqT K H a xs → SqT K H' a xs) : ∀ (d : Dm) (x : V), Dat K H d x → Dat K H' d x
  | .none, _, r => by cases r; exact .non
  | .num i, _, r => by cases r; exact .num i
  | .text x, _, r => by cases r with | text _ hx => exact .text x hx
  | .tup ds, _, r => by
    cases r with
    | tup h1 h2 => exact .tup (h _ _ h1) (DatA.up h ds _ h2)
theorem DatA.up (h : ∀ a xs, SqT K H a xs → SqT K H' a xs) : ∀ (ds : List Dm) (xs : List V), DatA K H ds xs → DatA K H' ds xs
  | [], _, r => by cases r; exact .nil
  | d :: ds, _, r => by
    cases r with
    | cons h1 h2 => exact .cons (Dat.up h d _ h1) (DatA.up h ds _ h2)
end
mutual
theorem Dat.dp : ∀ (d : Dm) (x : V), Dat K H d x → Dp K H x d.data
  | .none, _, r => by cases r; exact .non
  | .num i, _, r => by cases r; exact .int i
  | .text x, _, r => by cases r; exact .str x
  | .tup ds, _, r => by
    cases r with
    | tup h1 h2 => exact .tup h1 (DatA.dp ds _ h2)
theorem DatA.dp : ∀ (ds : List Dm) (xs : List V), DatA K H ds xs → DpAll K H xs (NestedKey.datas ds)
  | [], _, r => by cases r; exact .nil
  | d :: ds, _, r => by
    cases r with
    | cons h1 h2 => exact .cons (Dat.dp d _ h1) (DatA.dp ds _ h2)
end
theorem DatA.length : ∀ {ds : List Dm} {xs : List V}, DatA K H ds xs → ds.length = xs.length
  | [], _, r => by cases r; rfl
  | d :: ds, _, r => by
    cases r with
    | cons h1 h2 => simp [DatA.length h2]
theorem DatA.get : ∀ {ds : List Dm} {xs : List V} {i : Nat} {x : V}, DatA K H ds xs → xs[i]? = some x → ∃ d, ds[i]? = some d ∧ Dat K H d x
  | [], _, i, x, r, e => by cases r; simp at e
  | d :: ds, _, 0, x, r, e => by
    cases r with
    | cons h1 h2 =>
      simp only [List.getElem?_cons_zero, Option.some.injEq] at e
      subst e
      exact ⟨d, rfl, h1⟩
  | d :: ds, _, i + 1, x, r, e => by
    cases r with
    | cons h1 h2 =>
      simp only [List.getElem?_cons_succ] at e ⊢
      exact DatA.get h2 e
theorem DatA.get' : ∀ {ds : List Dm} {xs : List V} {i : Nat} {d : Dm}, DatA K H ds xs → ds[i]? = some d → ∃ x, xs[i]? = some x ∧ Dat K H d x
  | [], _, i, d, r, e => by simp at e
  | d :: ds, _, 0, d', r, e => by
    cases r with
    | cons h1 h2 =>
      simp only [List.getElem?_cons_zero, Option.some.injEq] at e
      subst e
      exact ⟨_, rfl, h1⟩
  | d :: ds, _, i + 1, d', r, e => by
    cases r with
    | cons h1 h2 =>
      simp only [List.getElem?_cons_succ] at e ⊢
      exact DatA.get' h2 e
theorem DatA.append : ∀ {ds es : List Dm} {xs ys : List V}, DatA K H ds xs → DatA K H es ys → DatA K H (ds ++ es) (xs ++ ys)
  | [], _, _, _, r, q => by cases r; exact q
  | d :: ds, es, _, ys, r, q => by
    cases r with
    | cons h1 h2 => exact .cons h1 (DatA.append h2 q)
theorem DatA.mem : ∀ {ds : List Dm} {xs : List V} {x : V}, DatA K H ds xs → x ∈ xs → ∃ d ∈ ds, Dat K H d x := fun {ds xs x} r h => by
  obtain ⟨i, hi⟩ := List.mem_iff_getElem?.mp h
  obtain ⟨d, h1, h2⟩ := r.get hi
  exact ⟨d, List.mem_of_getElem? h1, h2⟩
theorem DatA.one {d : Dm} {x : V} (h : Dat K H d x) : DatA K H [d] [x] := .cons h .nil
theorem DatA.take : ∀ {ds : List Dm} {xs : List V} (n : Nat), DatA K H ds xs → DatA K H (ds.take n) (xs.take n)
  | _, _, 0, _ => by rw [List.take_zero, List.take_zero]; exact .nil
  | [], _, _ + 1, r => by cases r; exact .nil
  | d :: ds, _, n + 1, r => by
    cases r with
    | cons h1 h2 => exact .cons h1 (DatA.take n h2)
theorem DatA.drop : ∀ {ds : List Dm} {xs : List V} (n : Nat), DatA K H ds xs → DatA K H (ds.drop n) (xs.drop n)
  | _, _, 0, r => r
  | [], _, _ + 1, r => by cases r; exact .nil
  | d :: ds, _, n + 1, r => by
    cases r with
    | cons h1 h2 => exact DatA.drop n h2
theorem DatA.set : ∀ {ds : List Dm} {xs : List V} (n : Nat) {d : Dm} {x : V}, DatA K H ds xs → Dat K H d x → DatA K H (ds.set n d) (xs.set n x)
  | [], _, _, _, _, r, _ => by cases r; exact .nil
  | d :: ds, _, 0, _, _, r, q => by
    cases r with
    | cons h1 h2 => exact .cons q h2
  | d :: ds, _, n + 1, _, _, r, q => by
    cases r with
    | cons h1 h2 => exact .cons h1 (DatA.set n h2 q)
/-- a pair of ints -/
theorem dat_pl {a : Addr} {i j : Int} (h : SqT K H a [.int i, .int j]) : Dat K H (.tup [.num i, .num j]) (.ref a) := .tup h (.cons (.num i) (.cons (.num j) .nil))
theorem Dat.tupI {ds : List Dm} {x : V} (h : Dat K H (.tup ds) x) : ∃ a xs, x = .ref a ∧ SqT K H a xs ∧ DatA K H ds xs := by
  cases h with
  | tup h1 h2 => exact ⟨_, _, rfl, h1, h2⟩
theorem Dat.numI {i : Int} {x : V} (h : Dat K H (.num i) x) : x = .int i := by cases h; rfl
theorem DatA.two {d e : Dm} {xs : List V} (h : DatA K H [d, e] xs) : ∃ x y, xs = [x, y] ∧ Dat K H d x ∧ Dat K H e y := by
  cases h with
  | cons h1 h2 =>
    cases h2 with
    | cons h3 h4 => cases h4; exact ⟨_, _, rfl, h1, h3⟩
theorem Dat.two {d e : Dm} {x : V} (h : Dat K H (.tup [d, e]) x) : ∃ a y z, x = .ref a ∧ SqT K H a [y, z] ∧ Dat K H d y ∧ Dat K H e z := by
  obtain ⟨a, xs, rfl, h1, h2⟩ := h.tupI
  obtain ⟨y, z, rfl, h3, h4⟩ := h2.two
  exact ⟨a, y, z, rfl, h1, h3, h4⟩
theorem Dat.pl {i j : Int} {x : V} (h : Dat K H (.tup [.num i, .num j]) x) : ∃ a, x = .ref a ∧ SqT K H a [.int i, .int j] := by
  obtain ⟨a, y, z, rfl, h1, h2, h3⟩ := h.two
  rw [h2.numI, h3.numI] at h1
  exact ⟨a, rfl, h1⟩
end
/-! equality of data -/
mutual
theorem eqv_data : ∀ d e : Dm, PyData.eqv d.data e.data = NestedKey.beq d e
  | .none, .none => by simp [NestedKey.data, PyData.eqv, NestedKey.beq]
  | .none, .num _ | .none, .text _ | .none, .tup _ => by simp [NestedKey.data, PyData.eqv, NestedKey.beq]
  | .num _, .none | .num _, .text _ | .num _, .tup _ => by simp [NestedKey.data, PyData.eqv, NestedKey.beq]
  | .text _, .none | .text _, .num _ | .text _, .tup _ => by simp [NestedKey.data, PyData.eqv, NestedKey.beq]
  | .tup _, .none | .tup _, .num _ | .tup _, .text _ => by simp [NestedKey.data, PyData.eqv, NestedKey.beq]
  | .num a, .num b => by simp only [NestedKey.data, PyData.eqv, NestedKey.beq]; rfl
  | .text a, .text b => by
    simp only [NestedKey.data, PyData.eqv, NestedKey.beq]
    rw [Bool.eq_iff_iff]
    simp
  | .tup a, .tup b => by
    simp only [NestedKey.data, PyData.eqv, NestedKey.beq]
    exact eqv_datas a b
theorem eqv_datas : ∀ d e : List Dm, PyData.eqvAll (NestedKey.datas d) (NestedKey.datas e) = NestedKey.beqAll d e
  | [], [] => by simp [NestedKey.datas, PyData.eqvAll, NestedKey.beqAll]
  | [], _ :: _ => by simp [NestedKey.datas, PyData.eqvAll, NestedKey.beqAll]
  | _ :: _, [] => by simp [NestedKey.datas, PyData.eqvAll, NestedKey.beqAll]
  | x :: xs, y :: ys => by simp only [NestedKey.datas, PyData.eqvAll, NestedKey.beqAll, eqv_data x y, eqv_datas xs ys]
end
theorem eqv_dec (d e : Dm) : PyData.eqv d.data e.data = decide (d = e) := by rw [eqv_data, NestedKey.decide_eq]
theorem beqAll_dec : ∀ d e : List Dm, NestedKey.beqAll d e = decide (d = e) := fun d e => by
  cases h : NestedKey.beqAll d e with
  | true => exact (decide_eq_true (NestedKey.eq_of_beqAll d e h)).symm
  | false => exact (decide_eq_false fun q => by rw [q, NestedKey.beqAll_self] at h; cases h).symm
section
variable {K : PySem.W.Frag} {H : Hp}
mutual
theorem Dat.lay : ∀ (d : Dm) (x : V), Dat K H d x → d.data.canLay0 = true
  | .none, _, _ => by simp [NestedKey.data, PyData.canLay0]
  | .num _, _, _ => by simp [NestedKey.data, PyData.canLay0]
  | .text x, _, r => by
    cases r with
    | text _ hx => simp only [NestedKey.data, PyData.canLay0]; exact hx
  | .tup a, _, r => by
    cases r with
    | tup h1 h2 => simp only [NestedKey.data, PyData.canLay0]; exact DatA.lay a _ h2
theorem DatA.lay : ∀ (ds : List Dm) (xs : List V), DatA K H ds xs → PyData.canLayAll0 (NestedKey.datas ds) = true
  | [], _, _ => by simp [NestedKey.datas, PyData.canLayAll0]
  | d :: ds, _, r => by
    cases r with
    | cons h1 h2 => simp [NestedKey.datas, PyData.canLayAll0, Dat.lay d _ h1, DatA.lay ds _ h2]
end
end
mutual
theorem data_depth : ∀ d : Dm, d.data.depth = d.depth
  | .none => by simp [NestedKey.data, PyData.depth, NestedKey.depth]
  | .num _ => by simp [NestedKey.data, PyData.depth, NestedKey.depth]
  | .text _ => by simp [NestedKey.data, PyData.depth, NestedKey.depth]
  | .tup a => by simp only [NestedKey.data, PyData.depth, NestedKey.depth, datas_depth a]
theorem datas_depth : ∀ ds : List Dm, PyData.depthAll (NestedKey.datas ds) = NestedKey.depthAll ds
  | [] => by simp [NestedKey.datas, PyData.depthAll, NestedKey.depthAll]
  | d :: ds => by simp only [NestedKey.datas, PyData.depthAll, NestedKey.depthAll, data_depth d, datas_depth ds]
end
theorem shaped_data {K : PySem.W.Frag} {H : Hp} {d : Dm} {x : V} (r : Dat K H d x) (h : d.depth ≤ 60) : SeqAt.shaped d.data = true := by
  show (d.data.canLay0 && decide (d.data.depth ≤ 64)) = true
  rw [Dat.lay d x r, data_depth, Bool.true_and]
  exact decide_eq_true (by omega)
theorem depthAll_le {n : Nat} : ∀ {ds : List Dm}, (∀ d ∈ ds, d.depth ≤ n) → NestedKey.depthAll ds ≤ n
  | [], _ => by simp [NestedKey.depthAll]
  | d :: ds, h => by
    have h1 := h d List.mem_cons_self
    have h2 := depthAll_le fun x hx => h x (List.mem_cons_of_mem d hx)
    simp only [NestedKey.depthAll]
    omega
theorem shaped_list {K : PySem.W.Frag} {H : Hp} {ds : List Dm} {xs : List V} (r : DatA K H ds xs) (h : ∀ d ∈ ds, d.depth ≤ 60) : SeqAt.shaped (.list (NestedKey.datas ds)) = true := by
  have hd := depthAll_le h
  show (PyData.canLay0 (.list (NestedKey.datas ds)) && decide (PyData.depth (.list (NestedKey.datas ds)) ≤ 64)) = true
  simp only [PyData.canLay0, PyData.depth, DatA.lay ds xs r, datas_depth, Bool.true_and]
  exact decide_eq_true (by omega)
theorem datas_map : ∀ ds : List Dm, NestedKey.datas ds = ds.map NestedKey.data
  | [] => rfl
  | d :: ds => by rw [NestedKey.datas, datas_map ds]; rfl

section
variable {X : Cx} {pins : List (Addr × Obj)} {σ : St} {H : Hp} {s : Shared}
mutual
theorem Dat.is (I : Inv X pins σ H s) : ∀ (d : Dm) (x : V) (u : Value), Dat X.K H d x → RelV x u → NestedIs s.heap d u
  | .none, _, _, h, r => by cases h; cases r; exact .none
  | .num i, _, _, h, r => by cases h; obtain ⟨t, rfl⟩ := r; exact .int i t
  | .text x, _, _, h, r => by cases h; obtain ⟨t, rfl⟩ := r; exact .text x t
  | .tup ds, _, _, h, r => by
    cases h with
    | tup h1 h2 =>
      cases r
      obtain ⟨its, rv, ⟨o, ho, hc, n, hd⟩, _⟩ := I.tuple h1
      exact .tup ho hc hd (by simpa using DatA.is I ds _ its h2 rv)
theorem DatA.is (I : Inv X pins σ H s) : ∀ (ds : List Dm) (xs : List V) (us : List Value), DatA X.K H ds xs → Vals xs us → NestedAll s.heap ds us
  | [], _, _, h, r => by cases h; cases r; exact .nil
  | d :: ds, _, _, h, r => by
    cases h with
    | cons h1 h2 =>
      cases r with
      | cons r1 r2 => exact .cons (Dat.is I d _ _ h1 r1) (DatA.is I ds _ _ h2 r2)
end
theorem Dat.inj {σ : L2.St} (I : Inv X pins σ H s) {d e : Dm} {x : V} (h1 : Dat X.K H d x) (h2 : Dat X.K H e x) {u : Value} (r : RelV x u) : d = e := NestedIs.inj d e u (Dat.is I d x u h1 r) (Dat.is I e x u h2 r)
end

theorem st_least' {p : Nat → Prop} : ∀ n, p n → ∃ k, k ≤ n ∧ p k ∧ ∀ k', k' < k → ¬ p k' := by
  intro n
  induction n using Nat.strongRecOn with
  | ind n ih =>
    intro h
    by_cases c : ∃ k', k' < n ∧ p k'
    · obtain ⟨k', h1, h2⟩ := c
      obtain ⟨k, a, b, d⟩ := ih k' h1 h2
      exact ⟨k, Nat.le_trans a (Nat.le_of_lt h1), b, d⟩
    · exact ⟨n, Nat.le_refl _, h, fun k' hk hp => c ⟨k', hk, hp⟩⟩
/-! ### data compared -/
section
variable {X : Cx}
def rEqT (K : PySem.W.Frag) : R2 := fun x y H Q => ∃ d e, Dat K H d x ∧ Dat K H e y ∧ d.depth ≤ 60 ∧ e.depth ≤ 60 ∧ Q (.bl (decide (d = e))) H
def rNeT (K : PySem.W.Frag) : R2 := fun x y H Q => ∃ d e, Dat K H d x ∧ Dat K H e y ∧ d.depth ≤ 60 ∧ e.depth ≤ 60 ∧ Q (.bl (!decide (d = e))) H
theorem op_eqT (hu : X.A.units + 64 < cLine) : OpR X (compareOp .Eq) (rEqT X.K) := by
  intro pins s σ H x y v u Q I rx ry h
  obtain ⟨d, e, h1, h2, h3, h4, q⟩ := h
  exact op_eqD hu pins s σ H x y v u Q I rx ry ⟨d.data, e.data, Dat.dp d x h1, Dat.dp e y h2, shaped_data h1 h3, shaped_data h2 h4, by rw [eqv_dec]; exact q⟩
theorem op_neT (hu : X.A.units + 64 < cLine) : OpR X (compareOp .NotEq) (rNeT X.K) := by
  intro pins s σ H x y v u Q I rx ry h
  obtain ⟨d, e, h1, h2, h3, h4, q⟩ := h
  exact op_neD hu pins s σ H x y v u Q I rx ry ⟨d.data, e.data, Dat.dp d x h1, Dat.dp e y h2, shaped_data h1 h3, shaped_data h2 h4, by rw [eqv_dec]; exact q⟩
/-- a list of data -/
def LsD (K : PySem.W.Frag) (H : Hp) (ds : List Dm) (x : V) : Prop := ∃ a xs, x = .ref a ∧ SqL K H a xs ∧ DatA K H ds xs
def rEqLs (K : PySem.W.Frag) : R2 := fun x y H Q => ∃ ds es, LsD K H ds x ∧ LsD K H es y ∧ (∀ d ∈ ds, d.depth ≤ 60) ∧ (∀ d ∈ es, d.depth ≤ 60) ∧ Q (.bl (decide (ds = es))) H
def rNeLs (K : PySem.W.Frag) : R2 := fun x y H Q => ∃ ds es, LsD K H ds x ∧ LsD K H es y ∧ (∀ d ∈ ds, d.depth ≤ 60) ∧ (∀ d ∈ es, d.depth ≤ 60) ∧ Q (.bl (!decide (ds = es))) H
theorem LsD.dp {K : PySem.W.Frag} {H : Hp} {ds : List Dm} {x : V} (h : LsD K H ds x) : Dp K H x (.list (NestedKey.datas ds)) := by
  obtain ⟨a, xs, rfl, h1, h2⟩ := h
  exact .lst h1 (DatA.dp ds xs h2)
theorem LsD.shaped {K : PySem.W.Frag} {H : Hp} {ds : List Dm} {x : V} (h : LsD K H ds x) (hd : ∀ d ∈ ds, d.depth ≤ 60) : SeqAt.shaped (.list (NestedKey.datas ds)) = true := by
  obtain ⟨a, xs, rfl, h1, h2⟩ := h
  exact shaped_list h2 hd
theorem eqv_lists (ds es : List Dm) : PyData.eqv (.list (NestedKey.datas ds)) (.list (NestedKey.datas es)) = decide (ds = es) := by
  rw [PyData.eqv, eqv_datas, beqAll_dec]
theorem op_eqLs (hu : X.A.units + 64 < cLine) : OpR X (compareOp .Eq) (rEqLs X.K) := by
  intro pins s σ H x y v u Q I rx ry h
  obtain ⟨d, e, h1, h2, h3, h4, q⟩ := h
  exact op_eqD hu pins s σ H x y v u Q I rx ry ⟨_, _, h1.dp, h2.dp, h1.shaped h3, h2.shaped h4, by rw [eqv_lists]; exact q⟩
theorem op_neLs (hu : X.A.units + 64 < cLine) : OpR X (compareOp .NotEq) (rNeLs X.K) := by
  intro pins s σ H x y v u Q I rx ry h
  obtain ⟨d, e, h1, h2, h3, h4, q⟩ := h
  exact op_neD hu pins s σ H x y v u Q I rx ry ⟨_, _, h1.dp, h2.dp, h1.shaped h3, h2.shaped h4, by rw [eqv_lists]; exact q⟩
/-- x in l, x not in l -/
def rInT (K : PySem.W.Frag) : R2 := fun x y H Q => ∃ d ds, Dat K H d x ∧ LsD K H ds y ∧ d.depth ≤ 60 ∧ (∀ d ∈ ds, d.depth ≤ 60) ∧ Q (.bl (decide (d ∈ ds))) H
def rNotInT (K : PySem.W.Frag) : R2 := fun x y H Q => ∃ d ds, Dat K H d x ∧ LsD K H ds y ∧ d.depth ≤ 60 ∧ (∀ d ∈ ds, d.depth ≤ 60) ∧ Q (.bl (!decide (d ∈ ds))) H
theorem any_dec (d : Dm) : ∀ ds : List Dm, ((NestedKey.datas ds).any fun z => PyData.eqv z d.data) = decide (d ∈ ds)
  | [] => by simp [NestedKey.datas]
  | e :: ds => by
    rw [NestedKey.datas, List.any_cons, eqv_dec, any_dec d ds, Bool.eq_iff_iff]
    simp only [Bool.or_eq_true, decide_eq_true_eq, List.mem_cons]
    constructor
    · rintro (rfl | h)
      · exact .inl rfl
      · exact .inr h
    · rintro (rfl | h)
      · exact .inl rfl
      · exact .inr h
theorem op_inT (hu : X.A.units + 65 < cLine) : OpR X (compareOp .In) (rInT X.K) := by
  intro pins s σ H x y v u Q I rx ry h
  obtain ⟨d, ds, h1, h2, h3, h4, q⟩ := h
  exact op_inD hu pins s σ H x y v u Q I rx ry ⟨_, _, Dat.dp d x h1, h2.dp, shaped_data h1 h3, h2.shaped h4, by rw [any_dec]; exact q⟩
theorem op_notInT (hu : X.A.units + 65 < cLine) : OpR X (compareOp .NotIn) (rNotInT X.K) := by
  intro pins s σ H x y v u Q I rx ry h
  obtain ⟨d, ds, h1, h2, h3, h4, q⟩ := h
  exact op_notInD hu pins s σ H x y v u Q I rx ry ⟨_, _, Dat.dp d x h1, h2.dp, shaped_data h1 h3, h2.shaped h4, by rw [any_dec]; exact q⟩
/-- l.index(x) of data -/
def rIndexT (K : PySem.W.Frag) : V → List V → Hp → VK → Prop := fun x xs H Q => ∃ (y : V) (d : Dm) (ds : List Dm), xs = [y] ∧ LsD K H ds x ∧ Dat K H d y ∧ (∀ e ∈ ds, e.depth ≤ 60) ∧ d.depth ≤ 60 ∧ d ∈ ds ∧
  ∀ j : Nat, ds[j]? = some d → Q (.int (j : Nat)) H
theorem mt_indexT (hu : X.A.units + 65 < cLine) : MtR X "list.index" (rIndexT X.K) := by
  intro pins s σ H x xs v us Q I rx rxs h
  obtain ⟨y, d, ds, rfl, hl, hy, h3, h4, hm, q⟩ := h
  obtain ⟨a, zs, rfl, l1, l2⟩ := id hl
  obtain ⟨j0, hj0⟩ := List.mem_iff_getElem?.mp hm
  obtain ⟨j, _, hj, hno⟩ := st_least' (p := fun j => ds[j]? = some d) j0 hj0
  refine mt_indexD hu pins s σ H _ _ v us Q I rx rxs ⟨a, y, d.data, NestedKey.datas ds, j, d.data, rfl, rfl, hl.dp, Dat.dp d y hy, hl.shaped h3, shaped_data hy h4, ?_, ?_, fun m z' hmj hz' => ?_, q j hj⟩
  · rw [datas_map, List.getElem?_map, hj]
    rfl
  · rw [eqv_dec]
    exact decide_eq_true rfl
  · rw [datas_map, List.getElem?_map] at hz'
    cases e : ds[m]? with
    | none => rw [e] at hz'; cases hz'
    | some e' =>
      rw [e] at hz'
      have z : e'.data = z' := Option.some.inj hz'
      rw [← z, eqv_dec]
      refine decide_eq_false fun q2 => hno m hmj ?_
      rw [e, q2]
end
end TG

/-! Dicts whose keys are data, in the abstract heap: their rules. -/
namespace TG
open PySem PySem.Spec L2 TGr
open PyProof.Rows hiding St

abbrev Ent := Dm × V × V
/-- the entries as they lie -/
abbrev XR : List Ent → List (Dm × Value × Value) → Prop := Paired fun p q => p.1 = q.1 ∧ RelV p.2.1 q.2.1 ∧ RelV p.2.2 q.2.2
def DicO (w : World) (a : Addr) (xs : List Ent) : HO := .ext fun h => ∃ ys, XR xs ys ∧ RawD w h a ys
/-- at a stands a dict with the entries xs -/
structure Dic (K : PySem.W.Frag) (w : World) (H : Hp) (a : Addr) (xs : List Ent) : Prop where
  rd : Rd H a (DicO w a xs)
  key : ∀ x ∈ xs, Dat K H x.1 x.2.1 ∧ x.1.depth ≤ 8
  nd : (xs.map (·.1)).Nodup
  sz : xs.length ≤ sizeLine
  sys : (a == sysModules) = false

theorem XR.length {xs : List Ent} {ys : List (Dm × Value × Value)} (r : XR xs ys) : xs.length = ys.length := Paired.length r
theorem XR.keys : ∀ {xs : List Ent} {ys : List (Dm × Value × Value)}, XR xs ys → xs.map (·.1) = ys.map (·.1)
  | _, _, .nil => rfl
  | _, _, .cons r t => by rw [List.map_cons, List.map_cons, r.1, XR.keys t]
theorem XR.lk : ∀ {xs : List Ent} {ys : List (Dm × Value × Value)}, XR xs ys → ∀ k, (look xs k = none ∧ look ys k = none) ∨ ∃ p q, look xs k = some p ∧ look ys k = some q ∧ RelV p.1 q.1 ∧ RelV p.2 q.2
  | _, _, .nil, k => .inl ⟨rfl, rfl⟩
  | x :: xs, y :: ys, .cons r t, k => by
    by_cases h : x.1 = k
    · rw [look_pos h, look_pos (r.1.symm.trans h)]
      exact .inr ⟨_, _, rfl, rfl, r.2⟩
    · rw [look_neg h, look_neg fun q => h (r.1.trans q)]
      exact XR.lk t k
theorem XR.put {k : Dm} {kv v : V} {ku u : Value} (rk : RelV kv ku) (rv : RelV v u) {xs : List Ent} {ys : List (Dm × Value × Value)} (r : XR xs ys) : XR (putX xs k kv v) (putX ys k ku u) := by
  have rep : ∀ {xs : List Ent} {ys : List (Dm × Value × Value)}, XR xs ys → XR (xs.map fun x => if x.1 = k then (x.1, x.2.1, v) else x) (ys.map fun x => if x.1 = k then (x.1, x.2.1, u) else x) := by
    intro xs ys r
    induction r with
    | nil => exact .nil
    | @cons x y _ _ h t ih =>
      refine .cons ?_ ih
      dsimp only
      by_cases e : x.1 = k
      · rw [if_pos e, if_pos (h.1.symm.trans e)]
        exact ⟨h.1, h.2.1, rv⟩
      · rw [if_neg e, if_neg fun q => e (h.1.trans q)]
        exact h
  have app : ∀ {xs : List Ent} {ys : List (Dm × Value × Value)}, XR xs ys → XR (xs ++ [(k, kv, v)]) (ys ++ [(k, ku, u)]) := by
    intro xs ys r
    induction r with
    | nil => exact .cons ⟨rfl, rk, rv⟩ .nil
    | cons h t ih => exact .cons h ih
  rcases r.lk k with ⟨h1, h2⟩ | ⟨p, q, h1, h2, _⟩
  · rw [putX_new h1, putX_new h2]
    exact app r
  · rw [putX_old h1, putX_old h2]
    exact rep r
theorem XR.del {k : Dm} : ∀ {xs : List Ent} {ys : List (Dm × Value × Value)}, XR xs ys → XR (delX xs k) (delX ys k)
  | _, _, .nil => .nil
  | x :: xs, y :: ys, .cons h t => by
    have ih := XR.del (k := k) t
    unfold delX at ih ⊢
    rw [List.filter_cons, List.filter_cons]
    by_cases e : x.1 = k
    · have e' : y.1 = k := h.1.symm.trans e
      rw [if_neg (by simp [e]), if_neg (by simp [e'])]
      exact ih
    · have e' : ¬ y.1 = k := fun q => e (h.1.trans q)
      rw [if_pos (by simp [e]), if_pos (by simp [e'])]
      exact .cons h ih
theorem dicO_ok {P : Program} {w : World} {H : Hp} {h : Heap} {a : Addr} {xs : List Ent} {ys : List (Dm × Value × Value)} (r : XR xs ys) (d : RawD w h a ys) : ObjOk P w H h a (DicO w a xs) :=
  ⟨⟨ys, r, d⟩, let ⟨o, _, _, ho, _⟩ := d; ⟨o, ho⟩, fun _ _ ⟨ys, r, d⟩ k => ⟨ys, r, d.at' k⟩⟩

section
variable {X : Cx} {pins : List (Addr × Obj)} {σ : L2.St} {H : Hp} {s : Shared} {a : Addr} {xs : List Ent} {A : Around} {E : Value → Shared → Prop}
theorem Dic.raw (I : Inv X pins σ H s) (D : Dic X.K X.w H a xs) : ∃ ys, XR xs ys ∧ RawD X.w s.heap a ys ∧ KeysM s.heap ys := by
  obtain ⟨⟨ys, r, d⟩, _⟩ : ObjOk X.prog X.w H s.heap a (DicO X.w a xs) := D.rd.ok I.hok
  refine ⟨ys, r, d, ⟨fun y hy => ?_, by rw [← r.keys]; exact D.nd⟩⟩
  obtain ⟨j, hj⟩ := List.mem_iff_getElem?.mp hy
  obtain ⟨x, hx, e1, e2, _⟩ := paired_at' r j y hj
  obtain ⟨h1, h2⟩ := D.key x (List.mem_of_getElem? hx)
  rw [← e1]
  exact ⟨Dat.is I _ _ _ h1 e2, h2⟩
theorem Dic.typeIs (I : Inv X pins σ H s) (D : Dic X.K X.w H a xs) : s.TypeIs (.ref a) "dict" := let ⟨_, _, d, _⟩ := D.raw I; d.typeIs
theorem Dic.noDict (I : Inv X pins σ H s) (D : Dic X.K X.w H a xs) : ∀ b, Value.ref a = .ref b → ∃ ob, s.heap.get? b = some ob ∧ ob.dict = none := fun b q => by
  cases q
  obtain ⟨_, _, ⟨o, _, _, ho, hc, _⟩, _⟩ := D.raw I
  exact ⟨o, ho, hc.2.1⟩
/-- the dict's object is replaced -/
theorem Inv.dset {zs : List Ent} {ys : List (Dm × Value × Value)} {h' : Heap} {t' : Nat} (I : Inv X pins σ H s) (ha : H a = some (DicO X.w a xs)) (hs : Heap.SameBut a s.heap h') (r : XR zs ys) (d : RawD X.w h' a ys) :
    Inv X pins σ (upd H a (DicO X.w a zs)) { s with heap := h', toks := t' } := by
  refine I.write (x := a) (e := a) (by rw [ha]; exact True.intro) (.inl rfl) (fun b u hb q => (hs.2 b hb).trans q) ?_ (dicO_ok r d)
  obtain ⟨o, _, _, ho, _⟩ := d
  exact ⟨o, ho⟩

variable {y v : V} {u ru : Value} {k : Dm}
/-- what the dict holds at k -/
def valX (xs : List Ent) (k : Dm) : Option V := (look xs k).map (·.2)
theorem XR.val {ys : List (Dm × Value × Value)} (r : XR xs ys) (k : Dm) : RelO (valX xs k) ((look ys k).map (·.2)) := by
  unfold valX
  rcases r.lk k with ⟨h1, h2⟩ | ⟨p, q, h1, h2, _, h3⟩
  · rw [h1, h2]
    exact True.intro
  · rw [h1, h2]
    exact h3
theorem x_contains {Q : Bool → Shared → Prop} (hu : A.units + 9 < cLine) (I : Inv X pins σ H s) (D : Dic X.K X.w H a xs) (hy : Dat X.K H k y) (hd : k.depth ≤ 8) (ry : RelV y u)
    (h : ∀ s', Inv X pins σ H s' → Q (valX xs k).isSome s') : wpAny (model X.prog X.w) A (contains (.ref a) u) Q E s := by
  obtain ⟨ys, r, d, km⟩ := D.raw I
  have hk := Dat.is I k y u hy ry
  have e : (valX xs k).isSome = ((look ys k).map (·.2)).isSome := (r.val k).isSome_eq
  have h' := h { s with toks := s.toks + k.draws } (I.tok _)
  rw [e] at h'
  refine wpAny_contains_slot d.typeIs PySem.F.slot_dict_contains ?_
  refine call_meetsIn PySem.F.slot_dict_contains d.typeIs PySem.F.entry_dict_contains (PySem.F.args_dict_contains_2 _ _) (S := fun A' R s' => A' = A ∧ s' = s ∧ R (.ok (.ret (.bool ((look ys k).map (·.2)).isSome))) { s with toks := s.toks + k.draws })
    (.of_wp fun A' R s' hS => ?_) ⟨rfl, rfl, wpAny_truthy_bool h'⟩
  obtain ⟨rfl, rfl, hq⟩ := hS
  show wpAny _ _ (dictGet a u >>= _) _ _ _
  refine wpAny_bind (get_mix (by simp only [Around.in1_units]; omega) hk hd d km ?_)
  cases hf : (look ys k).map (·.2) with
  | some p =>
    rw [hf] at hq
    show wpAny _ _ (ret (.bool true)) _ _ _
    exact wpAny_pure ⟨_, rfl, hq⟩
  | none =>
    rw [hf] at hq
    show wpAny _ _ (Builtin.Dict.pendingKey? a u >>= _) _ _ _
    exact wpAny_bind (wpAny_pendingKey_other D.sys (wpAny_pure ⟨_, rfl, hq⟩))

theorem x_in {Q : Value → Shared → Prop} (hu : A.units + 9 < cLine) (I : Inv X pins σ H s) (D : Dic X.K X.w H a xs) (hy : Dat X.K H k y) (hd : k.depth ≤ 8) (ry : RelV y u)
    (h : ∀ s', Inv X pins σ H s' → Q (.bool (valX xs k).isSome) s') : wpAny (model X.prog X.w) A (compareOp .In u (.ref a)) Q E s := by
  show wpAny _ _ (do return .bool (← contains (.ref a) u)) Q E s
  exact wpAny_bind (x_contains hu I D hy hd ry fun s' I' => wpAny_pure (h s' I'))
theorem x_notIn {Q : Value → Shared → Prop} (hu : A.units + 9 < cLine) (I : Inv X pins σ H s) (D : Dic X.K X.w H a xs) (hy : Dat X.K H k y) (hd : k.depth ≤ 8) (ry : RelV y u)
    (h : ∀ s', Inv X pins σ H s' → Q (.bool (!(valX xs k).isSome)) s') : wpAny (model X.prog X.w) A (compareOp .NotIn u (.ref a)) Q E s := by
  show wpAny _ _ (do return .bool (!(← contains (.ref a) u))) Q E s
  exact wpAny_bind (x_contains hu I D hy hd ry fun s' I' => wpAny_pure (h s' I'))
theorem x_getItem {Q : Value → Shared → Prop} (hu : A.units + 9 < cLine) (I : Inv X pins σ H s) (D : Dic X.K X.w H a xs) (hy : Dat X.K H k y) (hd : k.depth ≤ 8) (ry : RelV y u) (hv : valX xs k = some v)
    (h : ∀ w' s', Inv X pins σ H s' → RelV v w' → Q w' s') : wpAny (model X.prog X.w) A (getItem (.ref a) u) Q E s := by
  obtain ⟨ys, r, d, km⟩ := D.raw I
  have hk := Dat.is I k y u hy ry
  have rel := r.val k
  rw [hv] at rel
  cases e : (look ys k).map (·.2) with
  | none => rw [e] at rel; exact rel.elim
  | some w' =>
    rw [e] at rel
    unfold getItem
    try with_reducible refine wpAny_holding ?_
    refine wpAny_bind (wpAny_sequenceKey d.typeIs (by decide) ?_)
    refine wpAny_bind (wpAny_callSpecial?_slot (name := Str.ofString "__getitem__") d.typeIs PySem.F.slot_dict_getitem
      (wpAny_call_entry PySem.F.slot_dict_getitem d.typeIs PySem.F.entry_dict_getitem ?_ (PySem.F.args_dict_getitem_2 _ _)))
    show wpAny _ _ (dictGet a u >>= _) _ _ s
    refine wpAny_bind (get_mix (by simp only [Around.in1_units]; omega) hk hd d km ?_)
    rw [e]
    exact wpAny_pure ⟨w', rfl, wpAny_pure (h w' _ (I.tok _) rel)⟩
theorem x_setItem {Q : Unit → Shared → Prop} (hu : A.units + 9 < cLine) (I : Inv X pins σ H s) (D : Dic X.K X.w H a xs) (ha : H a = some (DicO X.w a xs)) (hy : Dat X.K H k y) (hd : k.depth ≤ 8) (ry : RelV y u) (rv : RelV v ru)
    (h : ∀ s', Inv X pins σ (upd H a (DicO X.w a (putX xs k y v))) s' → Q () s') : wpAny (model X.prog X.w) A (setItem (.ref a) u ru) Q E s := by
  obtain ⟨ys, r, d, km⟩ := D.raw I
  have hk := Dat.is I k y u hy ry
  unfold setItem
  try with_reducible refine wpAny_holding ?_
  refine wpAny_bind (wpAny_sequenceKey d.typeIs (by decide) ?_)
  refine wpAny_bind (wpAny_callSpecial?_slot (name := Str.ofString "__setitem__") d.typeIs PySem.F.slot_dict_setitem
    (wpAny_call_entry PySem.F.slot_dict_setitem d.typeIs PySem.F.entry_dict_setitem ?_ (PySem.F.args_dict_setitem_3 _ _ _)))
  show wpAny _ _ (Builtin.Dict.notOrdered "__setitem__" ⟨[.ref a, u, ru], []⟩ >>= _) _ _ s
  refine wpAny_bind (wpAny_notOrdered_dict d.typeIs ?_)
  show wpAny _ _ (dictSet a u ru >>= _) _ _ s
  exact wpAny_bind (set_mix (by simp only [Around.in1_units]; omega) hk hd d km (by rw [← r.length]; exact D.sz) fun h' d' hs => wpAny_pure ⟨.none, rfl, wpAny_pure (h _ (Inv.dset I ha hs (r.put ry rv) d'))⟩)
theorem x_delItem {Q : Unit → Shared → Prop} (hu : A.units + 9 < cLine) (I : Inv X pins σ H s) (D : Dic X.K X.w H a xs) (ha : H a = some (DicO X.w a xs)) (hy : Dat X.K H k y) (hd : k.depth ≤ 8) (ry : RelV y u) (hv : (valX xs k).isSome = true)
    (h : ∀ s', Inv X pins σ (upd H a (DicO X.w a (delX xs k))) s' → Q () s') : wpAny (model X.prog X.w) A (delItem (.ref a) u) Q E s := by
  obtain ⟨ys, r, d, km⟩ := D.raw I
  have hk := Dat.is I k y u hy ry
  have rel := r.val k
  rw [rel.isSome_eq] at hv
  cases e : look ys k with
  | none => rw [e] at hv; cases hv
  | some p =>
    refine wpAny_delItem_slot d.typeIs (by decide) PySem.F.slot_dict_delitem (call_meetsIn PySem.F.slot_dict_delitem d.typeIs PySem.F.entry_dict_delitem (PySem.F.args_dict_delitem_2 _ _)
      (S := fun A' R s' => A' = A ∧ s' = s ∧ ∀ s'', Inv X pins σ (upd H a (DicO X.w a (delX xs k))) s'' → R (.ok (.ret .none)) s'') (.of_wp fun A' R s' hS => ?_) ⟨rfl, rfl, fun s'' I'' => h s'' I''⟩)
    obtain ⟨rfl, rfl, hq⟩ := hS
    unfold Builtin.«dict.__delitem__»
    refine wpAny_bind ?_
    unfold Builtin.Dict.dictSlotArgs
    refine wpAny_bind (wpAny_notOrdered_dict d.typeIs ?_)
    show wpAny _ _ (pure (Value.ref a, u)) _ _ _
    refine wpAny_pure ?_
    show wpAny _ _ (Builtin.Dict.takeOut a u >>= _) _ _ _
    refine wpAny_bind (out_mix (by simp only [Around.in1_units]; omega) hk hd d km (by rw [← r.length]; exact D.sz) e fun en h' _ d' hs => ?_)
    exact wpAny_bind (wpAny_letGo (wpAny_pure ⟨.none, rfl, hq _ (Inv.dset I ha hs r.del d')⟩))
/-- d.pop(k), there -/
theorem x_pop {Q : Value → Shared → Prop} (hu : A.units + 9 < cLine) (I : Inv X pins σ H s) (D : Dic X.K X.w H a xs) (ha : H a = some (DicO X.w a xs)) (hy : Dat X.K H k y) (hd : k.depth ≤ 8) (ry : RelV y u) (hv : valX xs k = some v)
    (h : ∀ w' s', RelV v w' → Inv X pins σ (upd H a (DicO X.w a (delX xs k))) s' → Q w' s') : wpAny (model X.prog X.w) A (call (.builtin "dict.pop") [.ref a, u]) Q E s := by
  obtain ⟨ys, r, d, km⟩ := D.raw I
  have hk := Dat.is I k y u hy ry
  have rel := r.val k
  rw [hv] at rel
  cases e : look ys k with
  | none => rw [e] at rel; exact (show False from rel).elim
  | some p =>
    rw [e] at rel
    have rel : RelV v p.2 := rel
    refine call_meetsIn PySem.F.slot_dict_pop d.typeIs PySem.F.entry_dict_pop (PySem.F.args_dict_pop_2 _ _)
      (S := fun A' R s' => A' = A ∧ s' = s ∧ ∀ s'', Inv X pins σ (upd H a (DicO X.w a (delX xs k))) s'' → R (.ok (.ret p.2)) s'') (.of_wp fun A' R s' hS => ?_) ⟨rfl, rfl, fun s'' I'' => h _ s'' rel I''⟩
    obtain ⟨rfl, rfl, hq⟩ := hS
    obtain ⟨o, es, ep, ho, hc, hdat, he⟩ := id d
    unfold Builtin.«dict.pop»
    refine wpAny_bind ?_
    unfold Builtin.Dict.keyAndDefault
    refine wpAny_bind (wpAny_notOrdered_dict d.typeIs ?_)
    show wpAny _ _ (pure (a, u, none)) _ _ _
    refine wpAny_pure ?_
    have hne : es.isEmpty = false := by
      cases q : es.isEmpty with
      | false => rfl
      | true =>
        have h0 : es.toList = [] := by
          obtain ⟨l⟩ := es
          simpa using q
        rw [he] at h0
        rw [List.map_eq_nil_iff.mp h0] at e
        cases e
    cases hkp : (keyPart u).isSome with
    | true =>
      simp only [hkp, if_true]
      refine wpAny_bind (wpAny_pure ?_)
      rw [if_neg Bool.false_ne_true]
      refine wpAny_bind (out_mix (by simp only [Around.in1_units]; omega) hk hd d km (by rw [← r.length]; exact D.sz) e fun en h' hen d' hs => ?_)
      show wpAny _ _ (letGo [en.key] [en.val] >>= fun _ => ret en.val) _ _ _
      exact wpAny_bind (wpAny_letGo (wpAny_pure ⟨en.val, rfl, by rw [hen]; exact hq _ (Inv.dset I ha hs r.del d')⟩))
    | false =>
      simp only [hkp, Bool.false_eq_true, if_false, Option.isSome_none]
      refine wpAny_bind (wpAny_dictEntries ho hdat (wpAny_bind (wpAny_pure ?_)))
      rw [hne, if_neg Bool.false_ne_true]
      refine wpAny_bind (out_mix (by simp only [Around.in1_units]; omega) hk hd d km (by rw [← r.length]; exact D.sz) e fun en h' hen d' hs => ?_)
      show wpAny _ _ (letGo [en.key] [en.val] >>= fun _ => ret en.val) _ _ _
      exact wpAny_bind (wpAny_letGo (wpAny_pure ⟨en.val, rfl, by rw [hen]; exact hq _ (Inv.dset I ha hs r.del d')⟩))
theorem x_get1 {Q : Value → Shared → Prop} (hu : A.units + 9 < cLine) (I : Inv X pins σ H s) (D : Dic X.K X.w H a xs) (hy : Dat X.K H k y) (hd : k.depth ≤ 8) (ry : RelV y u)
    (h : ∀ w' s', Inv X pins σ H s' → RelV ((valX xs k).getD .non) w' → Q w' s') : wpAny (model X.prog X.w) A (call (.builtin "dict.get") [.ref a, u]) Q E s := by
  obtain ⟨ys, r, d, km⟩ := D.raw I
  have hk := Dat.is I k y u hy ry
  refine call_meetsIn PySem.F.slot_dict_get d.typeIs PySem.F.entry_dict_get (PySem.F.args_dict_get_2 _ _)
    (S := fun A' R s' => A' = A ∧ s' = s ∧ ∀ w' s'', Inv X pins σ H s'' → RelV ((valX xs k).getD .non) w' → R (.ok (.ret w')) s'') (.of_wp fun A' R s' hS => ?_) ⟨rfl, rfl, fun w' s'' I'' rw' => h w' s'' I'' rw'⟩
  obtain ⟨rfl, rfl, hq⟩ := hS
  show wpAny _ _ (dictGet a u >>= _) _ _ _
  refine wpAny_bind (get_mix (by simp only [Around.in1_units]; omega) hk hd d km ?_)
  have rel := r.val k
  cases hf : (look ys k).map (·.2) with
  | some p =>
    rw [hf] at rel
    exact wpAny_pure ⟨_, rfl, hq _ _ (I.tok _) (by
      cases e : valX xs k with
      | none => rw [e] at rel; exact rel.elim
      | some z => rw [e] at rel; exact rel)⟩
  | none =>
    rw [hf] at rel
    show wpAny _ _ (Builtin.Dict.missed a u >>= _) _ _ _
    exact wpAny_bind (wpAny_missed_other D.sys (wpAny_pure ⟨.none, rfl, hq _ _ (I.tok _) (by
      cases e : valX xs k with
      | none => rfl
      | some z => rw [e] at rel; exact rel.elim)⟩))
theorem x_get2 {Q : Value → Shared → Prop} (hu : A.units + 9 < cLine) (I : Inv X pins σ H s) (D : Dic X.K X.w H a xs) (hy : Dat X.K H k y) (hd : k.depth ≤ 8) (ry : RelV y u) (rv : RelV v ru)
    (h : ∀ w' s', Inv X pins σ H s' → RelV ((valX xs k).getD v) w' → Q w' s') : wpAny (model X.prog X.w) A (call (.builtin "dict.get") [.ref a, u, ru]) Q E s := by
  obtain ⟨ys, r, d, km⟩ := D.raw I
  have hk := Dat.is I k y u hy ry
  refine call_meetsIn PySem.F.slot_dict_get d.typeIs PySem.F.entry_dict_get (PySem.F.args_dict_get_3 _ _ _)
    (S := fun A' R s' => A' = A ∧ s' = s ∧ ∀ w' s'', Inv X pins σ H s'' → RelV ((valX xs k).getD v) w' → R (.ok (.ret w')) s'') (.of_wp fun A' R s' hS => ?_) ⟨rfl, rfl, fun w' s'' I'' rw' => h w' s'' I'' rw'⟩
  obtain ⟨rfl, rfl, hq⟩ := hS
  show wpAny _ _ (dictGet a u >>= _) _ _ _
  refine wpAny_bind (get_mix (by simp only [Around.in1_units]; omega) hk hd d km ?_)
  have rel := r.val k
  cases hf : (look ys k).map (·.2) with
  | some p =>
    rw [hf] at rel
    exact wpAny_pure ⟨_, rfl, hq _ _ (I.tok _) (by
      cases e : valX xs k with
      | none => rw [e] at rel; exact rel.elim
      | some z => rw [e] at rel; exact rel)⟩
  | none =>
    rw [hf] at rel
    show wpAny _ _ (Builtin.Dict.missed a u >>= _) _ _ _
    exact wpAny_bind (wpAny_missed_other D.sys (wpAny_pure ⟨ru, rfl, hq _ _ (I.tok _) (by
      cases e : valX xs k with
      | none => exact rv
      | some z => rw [e] at rel; exact rel.elim)⟩))
theorem x_sdf {Q : Value → Shared → Prop} (hu : A.units + 9 < cLine) (I : Inv X pins σ H s) (D : Dic X.K X.w H a xs) (ha : H a = some (DicO X.w a xs)) (hy : Dat X.K H k y) (hd : k.depth ≤ 8) (ry : RelV y u) (rv : RelV v ru)
    (h1 : ∀ z w' s', valX xs k = some z → Inv X pins σ H s' → RelV z w' → Q w' s') (h2 : valX xs k = none → ∀ s', Inv X pins σ (upd H a (DicO X.w a (xs ++ [(k, y, v)]))) s' → Q ru s') :
    wpAny (model X.prog X.w) A (call (.builtin "dict.setdefault") [.ref a, u, ru]) Q E s := by
  obtain ⟨ys, r, d, km⟩ := D.raw I
  have hk := Dat.is I k y u hy ry
  refine call_meetsIn PySem.F.slot_dict_setdefault d.typeIs PySem.F.entry_dict_setdefault (PySem.F.args_dict_setdefault_3 _ _ _)
    (S := fun A' R s' => A' = A ∧ s' = s ∧ ∀ w' s'', Q w' s'' → R (.ok (.ret w')) s'') (.of_wp fun A' R s' hS => ?_) ⟨rfl, rfl, fun w' s'' q => q⟩
  obtain ⟨rfl, rfl, hq⟩ := hS
  unfold Builtin.«dict.setdefault»
  refine wpAny_bind ?_
  unfold Builtin.Dict.keyAndDefault
  refine wpAny_bind (wpAny_notOrdered_dict d.typeIs ?_)
  show wpAny _ _ (pure (a, u, some ru)) _ _ _
  refine wpAny_pure ?_
  show wpAny _ _ (if (a == sysModules) = true then _ else (dictSetDefault a u ru >>= _)) _ _ _
  rw [if_neg (by rw [D.sys]; exact Bool.false_ne_true)]
  have rel := r.val k
  refine wpAny_bind (sdf_mix (by simp only [Around.in1_units]; omega) hk hd d km (by rw [← r.length]; exact D.sz) (fun p hp => wpAny_pure ⟨p.2, rfl, hq _ _ ?_⟩) fun hn h' d' hs => wpAny_pure ⟨ru, rfl, hq _ _ ?_⟩)
  · rw [hp] at rel
    cases e : valX xs k with
    | none => rw [e] at rel; exact (show False from rel).elim
    | some z =>
      rw [e] at rel
      exact h1 z p.2 _ e (I.tok _) rel
  · rw [hn] at rel
    have e : valX xs k = none := by
      cases e : valX xs k with
      | none => rfl
      | some z => rw [e] at rel; exact (show False from rel).elim
    refine h2 e _ (Inv.dset I ha hs ?_ d')
    have hl : look xs k = none := Option.map_eq_none_iff.mp e
    have := r.put (k := k) ry rv
    rw [putX_new hl, putX_new hn] at this
    exact this
theorem x_len {Q : Value → Shared → Prop} (I : Inv X pins σ H s) (D : Dic X.K X.w H a xs) (h : ∀ t s', Inv X pins σ H s' → Q (.int xs.length t) s') : wpAny (model X.prog X.w) A (call (.builtin "len") [.ref a]) Q E s := by
  obtain ⟨ys, r, ⟨o, es, ep, ho, hc, hd, he⟩, km⟩ := D.raw I
  have e1 : es.size = xs.length := by rw [← Array.length_toList, he, List.length_map, r.length]
  have hz := D.sz
  rw [sizeLine_eq] at hz
  refine PyProof.Rows.call_len_slot (n := xs.length) ⟨o, ho, hc.1⟩ PySem.F.slot_dict_len (fun Q' hq => ?_) (by omega) (by omega) (h _ _ (I.tok _))
  refine call_len_raw D.sys (es := es) (ep := ep) ⟨o, ho, hc, hd⟩ ?_
  rw [e1]
  exact hq
end
end TG

/-! The frame (what a step keeps), dicts of data, rules of statements and expressions. -/
namespace TG
open PySem PySem.Spec L2 TGr LamX
open PyProof.Rows hiding St

/-! ### the frame -/
abbrev Tb := List (Addr × Str)
def Fix (o : HO) : Prop := (∃ xs, o = .tup xs) ∨ ∃ b u, o = .frz b u
structure Go (T : Tb) (S : List Addr) (H H' : Hp) : Prop where
  keep : ∀ b o, H b = some o → (b ∉ S ∨ Fix o) → (∀ ps, o ≠ .tbl ps) → H' b = some o
  tabs : Tabs T H → Tabs T H'
section
variable {T : Tb} {S S' : List Addr} {H H1 H2 H' : Hp}
theorem Go.refl : Go T S H H := ⟨fun _ _ h _ _ => h, fun t => t⟩
theorem Go.trans (g : Go T S H H1) (g' : Go T S H1 H2) : Go T S H H2 := ⟨fun b o h c n => g'.keep b o (g.keep b o h c n) c n, fun t => g'.tabs (g.tabs t)⟩
theorem Go.mono (g : Go T S H H') (h : ∀ a ∈ S, a ∈ S') : Go T S' H H' := ⟨fun b o e c n => g.keep b o e (c.imp (fun q z => q (h _ z)) id) n, g.tabs⟩
theorem Go.up (g : Go T [] H H') : Go T S H H' := g.mono fun _ z => nomatch z
/-- what was new at the start is not among what had to be kept -/
theorem Go.drop {p : Addr} (g : Go T (p :: S) H H') (h : H p = none) : Go T S H H' :=
  ⟨fun b o e c n => g.keep b o e (c.imp (fun q z => (List.mem_cons.mp z).elim (fun z => by rw [z, h] at e; cases e) q) id) n, g.tabs⟩
theorem Go.new {p : Addr} {o : HO} (h : H p = none) : Go T S H (upd H p o) :=
  ⟨fun b u e _ _ => by rw [upd_ne (ne_of_none e h)]; exact e, fun t => t.ext fun b u e => by rw [upd_ne (ne_of_none e h)]; exact e⟩
theorem Go.set {a : Addr} {o o' : HO} (h : H a = some o) (ha : a ∈ S) (hf : ¬ Fix o) (ht : ∀ ps, o ≠ .tbl ps) (hc : ∀ q, o ≠ CodeO a q) : Go T S H (upd H a o') := by
  have ne : ∀ b u, H b = some u → u ≠ o → b ≠ a := fun b u e d z => by rw [z, h] at e; exact d (Option.some.inj e).symm
  refine ⟨fun b u e c n => ?_, fun t p hp => ?_⟩
  · rw [upd_ne]
    · exact e
    · rintro rfl
      rw [h] at e
      cases e
      exact c.elim (fun q => q ha) hf
  · obtain ⟨ps, h1, h2, h3⟩ := t p hp
    refine ⟨ps, by rw [upd_ne (ne _ _ h1 fun z => ht ps z.symm)]; exact h1, h2, fun pos cv hv => ?_⟩
    obtain ⟨c, e1, e2⟩ := h3 pos cv hv
    refine ⟨c, e1, ?_⟩
    rw [upd_ne]
    · exact e2
    · rintro rfl
      rw [h] at e2
      exact hc _ (Option.some.inj e2)
theorem Go.ext (e : ExtN H H') (t : Tabs T H → Tabs T H') : Go T S H H' := ⟨fun b o h _ n => e b o h n, t⟩
theorem Go.same (e : Same H H') : Go T S H H' := ⟨fun b o h _ _ => e b o h, fun t => t.ext e⟩
theorem Go.tup (g : Go T S H H') {a : Addr} {xs : List V} (h : H a = some (.tup xs)) : H' a = some (.tup xs) := g.keep _ _ h (.inr (.inl ⟨_, rfl⟩)) fun _ z => nomatch z
theorem Go.frz (g : Go T S H H') {a : Addr} {o : Obj} {u : HO} (h : H a = some (.frz o u)) : H' a = some (.frz o u) := g.keep _ _ h (.inr (.inr ⟨_, _, rfl⟩)) fun _ z => nomatch z
theorem Go.free (g : Go T S H H') {a : Addr} (h : H' a = none) (n : a ∉ S) (ht : ∀ ps, H a ≠ some (.tbl ps)) : H a = none := by
  cases e : H a with
  | none => rfl
  | some o =>
    rw [g.keep a o e (.inl n) fun ps z => ht ps (by rw [e, z])] at h
    cases h
variable {K : PySem.W.Frag}
theorem Go.sqT (g : Go T S H H') {a : Addr} {xs : List V} (h : SqT K H a xs) : SqT K H' a xs := by
  rcases h with (h | ⟨o, h⟩) | h
  · exact .inl (.inl (g.tup h))
  · exact .inl (.inr ⟨o, g.frz h⟩)
  · exact .inr h
theorem Go.sqL (g : Go T S H H') {a : Addr} {xs : List V} (h : SqL K H a xs) (n : a ∉ S) : SqL K H' a xs := by
  rcases h with (h | ⟨o, h⟩) | h
  · exact .inl (.inl (g.keep _ _ h (.inl n) fun _ z => nomatch z))
  · exact .inl (.inr ⟨o, g.frz h⟩)
  · exact .inr h
theorem Go.dat (g : Go T S H H') {d : Dm} {x : V} (h : Dat K H d x) : Dat K H' d x := Dat.up (fun _ _ q => g.sqT q) d x h
theorem Go.datA (g : Go T S H H') {d : List Dm} {x : List V} (h : DatA K H d x) : DatA K H' d x := DatA.up (fun _ _ q => g.sqT q) d x h
theorem Go.ins (g : Go T S H H') {a C dx : Addr} {fs : List (Str × V)} (h : H a = some (.ins C dx fs)) (n : a ∉ S) : H' a = some (.ins C dx fs) := g.keep _ _ h (.inl n) fun _ z => nomatch z
theorem Go.lst (g : Go T S H H') {a : Addr} {xs : List V} (h : H a = some (.lst xs)) (n : a ∉ S) : H' a = some (.lst xs) := g.keep _ _ h (.inl n) fun _ z => nomatch z
theorem Go.dK (g : Go T S H H') {a : Addr} {xs : List (Key × V)} (h : H a = some (.dK xs)) (n : a ∉ S) : H' a = some (.dK xs) := g.keep _ _ h (.inl n) fun _ z => nomatch z
theorem Go.rd (g : Go T S H H') {a : Addr} {u : HO} (h : Rd H a u) (n : a ∉ S) (nt : ∀ ps, u ≠ .tbl ps) : Rd H' a u := by
  rcases h with h | ⟨o, h⟩
  · exact .inl (g.keep _ _ h (.inl n) nt)
  · exact .inr ⟨o, g.frz h⟩
end
/-! writes -/
theorem dicO_tbl {w : World} {a : Addr} {xs : List Ent} (ps : Array Value) : DicO w a xs ≠ .tbl ps := fun z => by unfold DicO at z; cases z
theorem dicO_fix {w : World} {a : Addr} {xs : List Ent} : ¬ Fix (DicO w a xs) := by
  rintro (⟨_, z⟩ | ⟨_, _, z⟩) <;> (unfold DicO at z; cases z)
theorem dicO_code {w : World} {a : Addr} {xs : List Ent} (q : Str) : DicO w a xs ≠ CodeO a q := fun z => by
  unfold DicO CodeO at z
  have e := HO.ext.inj z
  have hg : (⟨(Array.replicate (a + 1) { cls := .none, data := .fields #[.none, .str q 0] }), {}⟩ : Heap).get? a = some { cls := .none, data := .fields #[.none, .str q 0] } := by
    unfold Heap.get?
    simp
  have h1 := congrFun e ⟨(Array.replicate (a + 1) { cls := .none, data := .fields #[.none, .str q 0] }), {}⟩
  have h2 : ∃ (oc : Obj) (vs : Array Value) (t : Tok), (⟨(Array.replicate (a + 1) { cls := .none, data := .fields #[.none, .str q 0] }), {}⟩ : Heap).get? a = some oc ∧ oc.data = .fields vs ∧ vs[1]? = some (.str q t) := ⟨_, _, 0, hg, rfl, rfl⟩
  rw [← h1] at h2
  obtain ⟨ys, _, o, es, ep, ho, _, hd, _⟩ := h2
  rw [hg] at ho
  cases ho
  cases hd
section
variable {T : Tb} {S : List Addr} {H : Hp} {a : Addr} {o' : HO}
theorem Go.setD {w : World} {xs : List Ent} (h : H a = some (DicO w a xs)) (ha : a ∈ S := by simp) : Go T S H (upd H a o') := .set h ha dicO_fix dicO_tbl dicO_code
theorem Go.setL {xs : List V} (h : H a = some (.lst xs)) (ha : a ∈ S := by simp) : Go T S H (upd H a o') :=
  .set h ha (by rintro (⟨_, z⟩ | ⟨_, _, z⟩) <;> cases z) (fun _ z => nomatch z) fun _ z => by unfold CodeO at z; cases z
theorem Go.setK {xs : List (Key × V)} (h : H a = some (.dK xs)) (ha : a ∈ S := by simp) : Go T S H (upd H a o') :=
  .set h ha (by rintro (⟨_, z⟩ | ⟨_, _, z⟩) <;> cases z) (fun _ z => nomatch z) fun _ z => by unfold CodeO at z; cases z
theorem Go.setI {C dx : Addr} {fs : List (Str × V)} (h : H a = some (.ins C dx fs)) (ha : a ∈ S := by simp) : Go T S H (upd H a o') :=
  .set h ha (by rintro (⟨_, z⟩ | ⟨_, _, z⟩) <;> cases z) (fun _ z => nomatch z) fun _ z => by unfold CodeO at z; cases z
end

/-! ### dicts in the frame -/
section
variable {T : Tb} {S : List Addr} {K : PySem.W.Frag} {w : World} {H H' : Hp} {a : Addr} {xs : List Ent}
theorem Dic.go (D : Dic K w H a xs) (g : Go T S H H') (n : a ∉ S) : Dic K w H' a xs :=
  ⟨g.rd D.rd n dicO_tbl, fun x hx => ⟨g.dat (D.key x hx).1, (D.key x hx).2⟩, D.nd, D.sz, D.sys⟩
theorem Dic.put (D : Dic K w H a xs) (ha : H a = some (DicO w a xs)) {k : Dm} {y v : V} (hy : Dat K H k y) (hd : k.depth ≤ 8) (hz : xs.length < sizeLine) : Dic K w (upd H a (DicO w a (putX xs k y v))) a (putX xs k y v) := by
  have g : Go ([] : Tb) [a] H (upd H a (DicO w a (putX xs k y v))) := .setD ha
  refine ⟨.inl upd_same, fun x hx => ?_, nodup_putX D.nd k y v, Nat.le_trans (putX_len _ _ _ _) hz, D.sys⟩
  rcases mem_putX hx with ⟨z, hz, e1, e2⟩ | ⟨e1, e2⟩
  · have := D.key z hz
    rw [e1, e2] at this
    exact ⟨g.dat this.1, this.2⟩
  · rw [e1, e2]
    exact ⟨g.dat hy, hd⟩
theorem Dic.del (D : Dic K w H a xs) (ha : H a = some (DicO w a xs)) (k : Dm) : Dic K w (upd H a (DicO w a (delX xs k))) a (delX xs k) := by
  have g : Go ([] : Tb) [a] H (upd H a (DicO w a (delX xs k))) := .setD ha
  exact ⟨.inl upd_same, fun x hx => ⟨g.dat (D.key x (mem_delX hx)).1, (D.key x (mem_delX hx)).2⟩, nodup_delX D.nd k, Nat.le_trans (delX_len _ _) D.sz, D.sys⟩
end
end TG

/-! Dicts of data: rules. -/
namespace TG
open PySem PySem.Spec L2 TGr LamX
open PyProof.Rows hiding St

/-! ### dicts whose values are data -/
abbrev EnD (K : PySem.W.Frag) (H : Hp) : List Ent → List (Dm × Dm) → Prop := Paired fun x e => x.1 = e.1 ∧ Dat K H e.2 x.2.2
def putD (es : List (Dm × Dm)) (k d : Dm) : List (Dm × Dm) := if (look es k).isSome then es.map (fun x => if x.1 = k then (x.1, d) else x) else es ++ [(k, d)]
theorem EnD.lk {K : PySem.W.Frag} {H : Hp} : ∀ {xs : List Ent} {es : List (Dm × Dm)}, EnD K H xs es → ∀ k, (look xs k = none ∧ look es k = none) ∨ ∃ p d, look xs k = some p ∧ look es k = some d ∧ Dat K H d p.2
  | _, _, .nil, k => .inl ⟨rfl, rfl⟩
  | x :: xs, y :: ys, .cons r t, k => by
    by_cases h : x.1 = k
    · rw [look_pos h, look_pos (r.1.symm.trans h)]
      exact .inr ⟨_, _, rfl, rfl, r.2⟩
    · rw [look_neg h, look_neg fun q => h (r.1.trans q)]
      exact EnD.lk t k
theorem EnD.up {K : PySem.W.Frag} {H H' : Hp} (h : ∀ d x, Dat K H d x → Dat K H' d x) : ∀ {xs : List Ent} {es : List (Dm × Dm)}, EnD K H xs es → EnD K H' xs es
  | _, _, .nil => .nil
  | _, _, .cons r t => .cons ⟨r.1, h _ _ r.2⟩ (EnD.up h t)
theorem EnD.keys {K : PySem.W.Frag} {H : Hp} : ∀ {xs : List Ent} {es : List (Dm × Dm)}, EnD K H xs es → xs.map (·.1) = es.map (·.1)
  | _, _, .nil => rfl
  | _, _, .cons r t => by rw [List.map_cons, List.map_cons, r.1, EnD.keys t]
theorem EnD.put {K : PySem.W.Frag} {H : Hp} {k d : Dm} {y v : V} (rv : Dat K H d v) {xs : List Ent} {es : List (Dm × Dm)} (r : EnD K H xs es) : EnD K H (putX xs k y v) (putD es k d) := by
  have rep : ∀ {xs : List Ent} {es : List (Dm × Dm)}, EnD K H xs es → EnD K H (xs.map fun x => if x.1 = k then (x.1, x.2.1, v) else x) (es.map fun x => if x.1 = k then (x.1, d) else x) := by
    intro xs es r
    induction r with
    | nil => exact .nil
    | @cons x y _ _ h t ih =>
      refine .cons ?_ ih
      dsimp only
      by_cases e : x.1 = k
      · rw [if_pos e, if_pos (h.1.symm.trans e)]
        exact ⟨h.1, rv⟩
      · rw [if_neg e, if_neg fun q => e (h.1.trans q)]
        exact h
  have app : ∀ {xs : List Ent} {es : List (Dm × Dm)}, EnD K H xs es → EnD K H (xs ++ [(k, y, v)]) (es ++ [(k, d)]) := by
    intro xs es r
    induction r with
    | nil => exact .cons ⟨rfl, rv⟩ .nil
    | cons h t ih => exact .cons h ih
  unfold putX putD
  rcases r.lk k with ⟨h1, h2⟩ | ⟨p, q, h1, h2, _⟩
  · rw [h1, h2, if_neg (by decide), if_neg (by decide)]
    exact app r
  · rw [h1, h2]
    simp only [Option.isSome_some, if_true]
    exact rep r
theorem EnD.del {K : PySem.W.Frag} {H : Hp} {k : Dm} : ∀ {xs : List Ent} {es : List (Dm × Dm)}, EnD K H xs es → EnD K H (delX xs k) (delX es k)
  | _, _, .nil => .nil
  | x :: xs, y :: ys, .cons h t => by
    have ih := EnD.del (k := k) t
    unfold delX at ih ⊢
    rw [List.filter_cons, List.filter_cons]
    by_cases e : x.1 = k
    · have e' : y.1 = k := h.1.symm.trans e
      rw [if_neg (by simp [e]), if_neg (by simp [e'])]
      exact ih
    · have e' : ¬ y.1 = k := fun q => e (h.1.trans q)
      rw [if_pos (by simp [e]), if_pos (by simp [e'])]
      exact .cons h ih
theorem look_mapD (d k j : Dm) : ∀ es : List (Dm × Dm), look (es.map (fun x => if x.1 = k then (x.1, d) else x)) j = (look es j).map fun p => if j = k then d else p
  | [] => rfl
  | x :: es => by
    rw [List.map_cons]
    by_cases h : x.1 = k
    · rw [if_pos h]
      by_cases hj : x.1 = j
      · rw [look_pos (x := (x.1, d)) hj, look_pos hj, Option.map_some, if_pos (hj.symm.trans h)]
      · rw [look_neg (x := (x.1, d)) hj, look_neg hj]
        exact look_mapD d k j es
    · rw [if_neg h]
      by_cases hj : x.1 = j
      · rw [look_pos hj, look_pos hj, Option.map_some, if_neg fun q => h (hj.trans q)]
      · rw [look_neg hj, look_neg hj]
        exact look_mapD d k j es
theorem look_putD (es : List (Dm × Dm)) (k j d : Dm) : look (putD es k d) j = if j = k then some d else look es j := by
  unfold putD
  cases h : look es k with
  | none =>
    rw [if_neg (by decide), look_snoc]
    by_cases hj : j = k
    · rw [if_pos hj, if_pos hj, hj, h]
      rfl
    · rw [if_neg hj, if_neg hj]
      cases look es j <;> rfl
  | some p =>
    simp only [Option.isSome_some, if_true]
    rw [look_mapD]
    by_cases hj : j = k
    · rw [if_pos hj, hj, h]
      simp
    · rw [if_neg hj]
      cases look es j <;> simp [hj]
theorem putD_keys (es : List (Dm × Dm)) (k d : Dm) : (putD es k d).map (·.1) = if (look es k).isSome then es.map (·.1) else es.map (·.1) ++ [k] := by
  unfold putD
  split
  · rw [List.map_map]
    refine List.map_congr_left fun x _ => ?_
    dsimp only [Function.comp]
    split <;> rfl
  · simp
theorem putD_len (es : List (Dm × Dm)) (k d : Dm) : (putD es k d).length ≤ es.length + 1 := by
  unfold putD
  split <;> simp
structure DicD (K : PySem.W.Frag) (w : World) (H : Hp) (a : Addr) (es : List (Dm × Dm)) : Prop where
  ex : ∃ xs, Dic K w H a xs ∧ EnD K H xs es
structure DicW (K : PySem.W.Frag) (w : World) (H : Hp) (a : Addr) (es : List (Dm × Dm)) : Prop where
  ex : ∃ xs, H a = some (DicO w a xs) ∧ Dic K w H a xs ∧ EnD K H xs es
section
variable {T : Tb} {S : List Addr} {K : PySem.W.Frag} {w : World} {H H' : Hp} {a : Addr} {es : List (Dm × Dm)} {k d : Dm}
theorem DicW.toD (D : DicW K w H a es) : DicD K w H a es := let ⟨xs, _, h, e⟩ := D.ex; ⟨xs, h, e⟩
theorem DicD.go (D : DicD K w H a es) (g : Go T S H H') (n : a ∉ S) : DicD K w H' a es := let ⟨xs, h, e⟩ := D.ex; ⟨xs, h.go g n, e.up fun _ _ => g.dat⟩
theorem DicW.go (D : DicW K w H a es) (g : Go T S H H') (n : a ∉ S) : DicW K w H' a es := let ⟨xs, q, h, e⟩ := D.ex; ⟨xs, g.keep _ _ q (.inl n) dicO_tbl, h.go g n, e.up fun _ _ => g.dat⟩
theorem DicD.nd (D : DicD K w H a es) : (es.map (·.1)).Nodup := let ⟨xs, h, e⟩ := D.ex; by rw [← e.keys]; exact h.nd
theorem DicW.nd (D : DicW K w H a es) : (es.map (·.1)).Nodup := D.toD.nd
theorem EnD.length {K : PySem.W.Frag} {H : Hp} {xs : List Ent} {es : List (Dm × Dm)} (e : EnD K H xs es) : xs.length = es.length := Paired.length e
theorem DicD.sz (D : DicD K w H a es) : es.length ≤ sizeLine := let ⟨xs, h, e⟩ := D.ex; by rw [← e.length]; exact h.sz
theorem DicW.put (D : DicW K w H a es) {y v : V} (hy : Dat K H k y) (hd : k.depth ≤ 8) (hv : Dat K H d v) (hz : es.length < sizeLine) :
    ∃ xs, H a = some (DicO w a xs) ∧ Dic K w H a xs ∧ Go T [a] H (upd H a (DicO w a (putX xs k y v))) ∧ DicW K w (upd H a (DicO w a (putX xs k y v))) a (putD es k d) := by
  obtain ⟨xs, q, h, e⟩ := D.ex
  have g : Go T [a] H (upd H a (DicO w a (putX xs k y v))) := .setD q
  exact ⟨xs, q, h, g, ⟨_, upd_same, h.put q hy hd (by rw [e.length]; exact hz), (e.put hv).up fun _ _ => g.dat⟩⟩
theorem DicW.del (D : DicW K w H a es) (k : Dm) :
    ∃ xs, H a = some (DicO w a xs) ∧ Dic K w H a xs ∧ EnD K H xs es ∧ Go T [a] H (upd H a (DicO w a (delX xs k))) ∧ DicW K w (upd H a (DicO w a (delX xs k))) a (delX es k) := by
  obtain ⟨xs, q, h, e⟩ := D.ex
  have g : Go T [a] H (upd H a (DicO w a (delX xs k))) := .setD q
  exact ⟨xs, q, h, e, g, ⟨_, upd_same, h.del q k, e.del.up fun _ _ => g.dat⟩⟩
theorem EnD.val {xs : List Ent} (e : EnD K H xs es) (h : look es k = some d) : ∃ v, valX xs k = some v ∧ Dat K H d v := by
  rcases e.lk k with ⟨_, h2⟩ | ⟨p, q, h1, h2, h3⟩
  · rw [h2] at h
    cases h
  · rw [h2] at h
    cases h
    exact ⟨p.2, by unfold valX; rw [h1]; rfl, h3⟩
theorem EnD.val0 {xs : List Ent} (e : EnD K H xs es) (h : look es k = none) : valX xs k = none := by
  rcases e.lk k with ⟨h1, _⟩ | ⟨p, q, _, h2, _⟩
  · unfold valX
    rw [h1]
    rfl
  · rw [h2] at h
    cases h
theorem EnD.isSome {xs : List Ent} (e : EnD K H xs es) : (valX xs k).isSome = (look es k).isSome := by
  unfold valX
  rcases e.lk k with ⟨h1, h2⟩ | ⟨p, q, h1, h2, _⟩ <;> rw [h1, h2] <;> rfl
/-- a dict is none of the new things -/
theorem DicD.ne {p : Addr} (D : DicD K w H a es) (h : H p = none) : a ≠ p := fun z => by
  obtain ⟨xs, D, _⟩ := D.ex
  rcases D.rd with q | ⟨_, q⟩ <;> (rw [z, h] at q; cases q)
theorem DicW.ne {p : Addr} (D : DicW K w H a es) (h : H p = none) : a ≠ p := D.toD.ne h
theorem Dic.ne {xs : List Ent} {p : Addr} (D : Dic K w H a xs) (h : H p = none) : a ≠ p := fun z => by
  rcases D.rd with q | ⟨_, q⟩ <;> (rw [z, h] at q; cases q)
end

theorem paired_of {α β : Type} {F : α → β → Prop} : ∀ {l₁ : List α} {l₂ : List β}, l₁.length = l₂.length → (∀ (i : Nat) a b, l₁[i]? = some a → l₂[i]? = some b → F a b) → Paired F l₁ l₂
  | [], [], _, _ => .nil
  | [], _ :: _, h, _ => by simp at h
  | _ :: _, [], h, _ => by simp at h
  | a :: l, b :: m, h, f => .cons (f 0 a b rfl rfl) (paired_of (by simpa using h) fun i x y e e' => f (i + 1) x y (by simpa using e) (by simpa using e'))
/-! ### rules by value -/
section
variable {X : Cx}
theorem dic_ix {value slice : Expr} {pins : List (Addr × Obj)} {s : Shared} {v u : Value} {Q : Value → Shared → Prop} {E : Value → Shared → Prop} (hT : s.TypeIs v "dict") (hs : subscripted slice false v u = operate [v, u] (getItem v u))
    (h : wpAny (model X.prog X.w) X.A (getItem v u) Q E s) : wpAny (model X.prog X.w) X.A (subscriptTail value slice v u) Q E s := by
  unfold subscriptTail
  refine wpAny_bind ?_
  rw [getitemInPython_of_ne hT.not_modules]
  refine wpAny_bind (wpAny_specialOf hT PySem.F.slot_dict_getitem.lookup ?_)
  have fin : wpAny (model X.prog X.w) X.A (subscripted slice false v u) (fun r s₃ => wpAny (model X.prog X.w) X.A (letTemporaryGo value v r >>= fun _ => pure r) Q E s₃) E s := by
    rw [hs]
    exact wpAny_operating (wpAny_mono h (fun r s₃ h₃ => wpAny_bind (wpAny_letTemporaryGo (wpAny_pure h₃))) fun _ _ x => x)
  first
    | exact wpAny_pure (wpAny_bind fin)
    | exact wpAny_bind (wpAny_pure (wpAny_bind fin))
    | exact wpAny_bind fin
/-- d[k] -/
def rIxX (K : PySem.W.Frag) (w : World) : R2 := fun x y H Q => ∃ a xs k v, x = .ref a ∧ Dic K w H a xs ∧ Dat K H k y ∧ k.depth ≤ 8 ∧ valX xs k = some v ∧ Q v H
def rIxD (K : PySem.W.Frag) (w : World) : R2 := fun x y H Q => ∃ a es k d, x = .ref a ∧ DicD K w H a es ∧ Dat K H k y ∧ k.depth ≤ 8 ∧ look es k = some d ∧ ∀ v, Dat K H d v → Q v H
theorem ix_X (hu : X.A.units + 9 < cLine) : IxR X (rIxX X.K X.w) := by
  intro value slice pins s σ H x y v u Q I rx ry h hs
  obtain ⟨a, xs, k, z, rfl, D, hk, hd, hv, q⟩ := h
  obtain rfl : v = Value.ref a := rx
  exact dic_ix (pins := pins) (D.typeIs I) hs (x_getItem hu I D hk hd ry hv fun w' s' I' r' => ⟨z, H, I', r', q⟩)
theorem ix_D (hu : X.A.units + 9 < cLine) : IxR X (rIxD X.K X.w) := by
  intro value slice pins s σ H x y v u Q I rx ry h hs
  obtain ⟨a, es, k, d, rfl, ⟨xs, D, e⟩, hk, hd, hv, q⟩ := h
  obtain ⟨z, hz, hz2⟩ := e.val hv
  exact ix_X hu value slice pins s σ H (.ref a) y v u Q I rx ry ⟨a, xs, k, z, rfl, D, hk, hd, hz, q z hz2⟩ hs
/-- k in d -/
def rInX (K : PySem.W.Frag) (w : World) : R2 := fun y x H Q => ∃ a xs k, x = .ref a ∧ Dic K w H a xs ∧ Dat K H k y ∧ k.depth ≤ 8 ∧ Q (.bl (valX xs k).isSome) H
def rNotInX (K : PySem.W.Frag) (w : World) : R2 := fun y x H Q => ∃ a xs k, x = .ref a ∧ Dic K w H a xs ∧ Dat K H k y ∧ k.depth ≤ 8 ∧ Q (.bl (!(valX xs k).isSome)) H
def rInD (K : PySem.W.Frag) (w : World) : R2 := fun y x H Q => ∃ a es k, x = .ref a ∧ DicD K w H a es ∧ Dat K H k y ∧ k.depth ≤ 8 ∧ Q (.bl (look es k).isSome) H
def rNotInD (K : PySem.W.Frag) (w : World) : R2 := fun y x H Q => ∃ a es k, x = .ref a ∧ DicD K w H a es ∧ Dat K H k y ∧ k.depth ≤ 8 ∧ Q (.bl (!(look es k).isSome)) H
theorem op_inX (hu : X.A.units + 9 < cLine) : OpR X (compareOp .In) (rInX X.K X.w) := by
  intro pins s σ H y x u v Q I ry rx h
  obtain ⟨a, xs, k, rfl, D, hk, hd, q⟩ := h
  obtain rfl : v = Value.ref a := rx
  exact x_in hu I D hk hd ry fun s' I' => ⟨.bl _, H, I', rfl, q⟩
theorem op_notInX (hu : X.A.units + 9 < cLine) : OpR X (compareOp .NotIn) (rNotInX X.K X.w) := by
  intro pins s σ H y x u v Q I ry rx h
  obtain ⟨a, xs, k, rfl, D, hk, hd, q⟩ := h
  obtain rfl : v = Value.ref a := rx
  exact x_notIn hu I D hk hd ry fun s' I' => ⟨.bl _, H, I', rfl, q⟩
theorem op_inD (hu : X.A.units + 9 < cLine) : OpR X (compareOp .In) (rInD X.K X.w) := by
  intro pins s σ H y x u v Q I ry rx h
  obtain ⟨a, es, k, rfl, ⟨xs, D, e⟩, hk, hd, q⟩ := h
  refine op_inX hu pins s σ H y _ u v Q I ry rx ⟨a, xs, k, rfl, D, hk, hd, ?_⟩
  rw [e.isSome]
  exact q
theorem op_notInD (hu : X.A.units + 9 < cLine) : OpR X (compareOp .NotIn) (rNotInD X.K X.w) := by
  intro pins s σ H y x u v Q I ry rx h
  obtain ⟨a, es, k, rfl, ⟨xs, D, e⟩, hk, hd, q⟩ := h
  refine op_notInX hu pins s σ H y _ u v Q I ry rx ⟨a, xs, k, rfl, D, hk, hd, ?_⟩
  rw [e.isSome]
  exact q
/-- d[k] = v -/
def rPutX (K : PySem.W.Frag) (w : World) : TSet := fun x y v H Q => ∃ a xs k, x = .ref a ∧ H a = some (DicO w a xs) ∧ Dic K w H a xs ∧ Dat K H k y ∧ k.depth ≤ 8 ∧ Q (upd H a (DicO w a (putX xs k y v)))
def rPutD (K : PySem.W.Frag) (w : World) (T : Tb) : TSet := fun x y v H Q => ∃ a es k d, x = .ref a ∧ DicW K w H a es ∧ Dat K H k y ∧ k.depth ≤ 8 ∧ Dat K H d v ∧ es.length < sizeLine ∧ ∀ H', Go T [a] H H' → DicW K w H' a (putD es k d) → Q H'
theorem put_X (hu : X.A.units + 9 < cLine) : PSet X (rPutX X.K X.w) := by
  intro pins s σ H x y v ov iv u Q I rx ry rv h
  obtain ⟨a, xs, k, rfl, ha, D, hk, hd, q⟩ := h
  obtain rfl : ov = Value.ref a := rx
  exact x_setItem hu I D ha hk hd ry rv fun s' I' => ⟨_, I', q⟩
theorem put_D (T : Tb) (hu : X.A.units + 9 < cLine) : PSet X (rPutD X.K X.w T) := by
  intro pins s σ H x y v ov iv u Q I rx ry rv h
  obtain ⟨a, es, k, d, rfl, D, hk, hd, hv, hz, q⟩ := h
  obtain ⟨xs, ha, Dx, g, D'⟩ := D.put (T := T) hk hd hv hz
  exact put_X hu pins s σ H (.ref a) y v ov iv u Q I rx ry rv ⟨a, xs, k, rfl, ha, Dx, hk, hd, q _ g D'⟩
/-- del d[k] -/
def sDelD (K : PySem.W.Frag) (w : World) (T : Tb) (td ty : TE) : TS := fun N σ H => td σ H fun x H1 => ty σ H1 fun y H2 => ∃ a es k, x = .ref a ∧ DicW K w H2 a es ∧ Dat K H2 k y ∧ k.depth ≤ 8 ∧ (look es k).isSome = true ∧
  ∀ H', Go T [a] H2 H' → DicW K w H' a (delX es k) → N.nx σ H'
theorem ps_delD {o i : Expr} {tpos pos : Pos} {td ty : TE} (T : Tb) (hu : X.A.units + 9 < cLine) (ho : PE X o td) (hi : PE X i ty) : PS X (.Delete [.Subscript o i tpos] pos) (sDelD X.K X.w T td ty) := by
  refine ⟨fun pins s σ H N I h => ?_⟩
  refine wpAny_Delete (wpAny_deleteEach_cons (wpAny_delete_Subscript (thn (ho.run pins s σ H _ I h) fun u s1 ⟨x, H1, I1, rx, q1⟩ => thn (hi.run pins s1 σ H1 _ I1 q1) fun iv s2 ⟨y, H2, I2, ry, a, es, k, ex, D, hk, hd, l, q2⟩ => ?_)))
  subst ex
  obtain rfl : u = Value.ref a := rx
  obtain ⟨xs, ha, Dx, e, g, D'⟩ := D.del (T := T) k
  exact x_delItem hu I2 Dx ha hk hd ry (by rw [e.isSome]; exact l) fun s3 I3 => wpAny_deleteEach_nil ⟨σ, _, I3, q2 _ g D'⟩
/-- {} -/
def tXNew (w : World) : TE := fun _ H Q => ∀ p, H p = none → (p == sysModules) = false → Q (.ref p) (upd H p (DicO w p []))
theorem rawD_new {w : World} (h : Heap) : RawD w (h.push { cls := .type "dict", data := .dict #[] }) h.objs.size [] := ⟨_, #[], 0, Heap.get?_push_size _ rfl, ⟨rfl, rfl, rfl⟩, rfl, rfl⟩
theorem pe_xnew {pos : Pos} : PE X (.Dict [] [] pos) (tXNew X.w) := ⟨fun pins s σ H Q I h =>
  wpAny_Dict_empty ⟨.ref s.heap.objs.size, _, I.laid (a := s.heap.objs.size) (o := DicO X.w s.heap.objs.size []) (t' := s.toks) (fun _ _ q => Heap.get?_push_of_some _ q) (Nat.le_refl _) (dicO_ok .nil (rawD_new s.heap)), rfl,
    h _ (I.hok.fresh (Nat.le_refl _)) (beq_eq_false_iff_ne.mpr (Ne.symm (Nat.ne_of_lt I.big)))⟩⟩
theorem dic_new {K : PySem.W.Frag} {w : World} {H : Hp} {p : Addr} (hs : (p == sysModules) = false) : Dic K w (upd H p (DicO w p [])) p [] := ⟨.inl upd_same, fun _ h => (nomatch h), List.nodup_nil, Nat.zero_le _, hs⟩
theorem dicW_new {K : PySem.W.Frag} {w : World} {H : Hp} {p : Addr} (hs : (p == sysModules) = false) : DicW K w (upd H p (DicO w p [])) p [] := ⟨[], upd_same, dic_new hs, .nil⟩
/-- {}, a dict of data -/
def tDNew (K : PySem.W.Frag) (w : World) (T : Tb) : TE := fun _ H Q => ∀ p H', H p = none → Go T [] H H' → DicW K w H' p [] → Q (.ref p) H'
theorem pe_dnew (T : Tb) {pos : Pos} : PE X (.Dict [] [] pos) (tDNew X.K X.w T) := ⟨fun pins s σ H Q I h => pe_xnew.run pins s σ H Q I fun p hp hs => h p _ hp (.new hp) (dicW_new hs)⟩

/-! methods -/
def tDM (K : PySem.W.Frag) (w : World) (r : V → List V → Hp → VK → Prop) (to : TE) (t : TA) : TE := fun σ H Q => to σ H fun x H1 => (∃ a xs, x = .ref a ∧ Dic K w H1 a xs) ∧ t σ H1 fun vs H2 => r x vs H2 Q
theorem pe_dm {m : Str} {id : String} {o e : Expr} {es : List Expr} {apos cpos : Pos} {to : TE} {t : TA} {r : V → List V → Hp → VK → Prop} (slot : Slot "dict" m id) (hty : typeOf (.builtin id) = pure (.type "method_descriptor")) (hm : MtR X id r) (ho : PE X o to) (ha : PA X (e :: es) t)
    (hbase : attributeBase o m X.env (eval o X.env) = eval o X.env := by rfl)
    (hfew : ((backTo cpos (starEach (e :: es) X.env)).all (fun x => !x.1) && (backToKw cpos (keywordEach [] X.env)).all (fun x => x.1.isSome)
      && decide ((e :: es).length + ([] : List Keyword).length + (if ([] : List Keyword).isEmpty then 0 else 1) < 30)) = true := by rfl)
    (hline : (apos.endLine == cpos.line) = true := by rfl) (hs : starEach (e :: es) X.env = (false, eval e X.env) :: starEach es X.env := by rfl) (hplain : (backTo cpos (starEach es X.env)).any (·.1) = false := by rfl) :
    PE X (.Call (.Attribute o m apos) (e :: es) [] cpos) (tDM X.K X.w r to t) := by
  refine ⟨fun pins s σ H Q I h => ?_⟩
  refine wpAny_Call_method hbase hfew hline PySem.F.plainAttrs_dict slot hty (thn (ho.run pins s σ H _ I h) fun v s1 ⟨x, H1, I1, r1, ⟨a, xs, ex, D⟩, q1⟩ => ?_)
  subst ex
  obtain rfl : v = Value.ref a := r1
  refine ⟨D.typeIs I1, D.noDict I1, ?_⟩
  have hA := ha.run cpos pins s1 σ H1 _ I1 q1
  rw [hs] at hA ⊢
  refine Calls.callWith_builtin (by show (false || (backTo cpos (starEach es X.env)).any (·.1)) = false; rw [hplain] <;> rfl) (Calls.evalArgs_plain ?_)
  exact thn hA fun us s2 ⟨vs, H2, I2, r2, q2⟩ => hm pins s2 σ H2 (.ref a) vs _ us Q I2 rfl r2 q2
theorem vals1 {y : V} {us : List Value} (r : Vals [y] us) : ∃ u, us = [u] ∧ RelV y u := by
  cases r with
  | cons r t => cases t; exact ⟨_, rfl, r⟩
theorem vals2 {y z : V} {us : List Value} (r : Vals [y, z] us) : ∃ u w, us = [u, w] ∧ RelV y u ∧ RelV z w := by
  cases r with
  | cons r t =>
    cases t with
    | cons r' t => cases t; exact ⟨_, _, rfl, r, r'⟩
/-- d.get(k) -/
def rGetX (K : PySem.W.Frag) (w : World) : V → List V → Hp → VK → Prop := fun x vs H Q => ∃ a xs k y, x = .ref a ∧ vs = [y] ∧ Dic K w H a xs ∧ Dat K H k y ∧ k.depth ≤ 8 ∧ Q ((valX xs k).getD .non) H
def OptD (K : PySem.W.Frag) (H : Hp) (o : Option Dm) (z v : V) : Prop := match o with
  | some d => Dat K H d v
  | none => v = z
def rGetD (K : PySem.W.Frag) (w : World) : V → List V → Hp → VK → Prop := fun x vs H Q => ∃ a es k y, x = .ref a ∧ vs = [y] ∧ DicD K w H a es ∧ Dat K H k y ∧ k.depth ≤ 8 ∧ ∀ v, OptD K H (look es k) .non v → Q v H
def rGet2X (K : PySem.W.Frag) (w : World) : V → List V → Hp → VK → Prop := fun x vs H Q => ∃ a xs k y z, x = .ref a ∧ vs = [y, z] ∧ Dic K w H a xs ∧ Dat K H k y ∧ k.depth ≤ 8 ∧ Q ((valX xs k).getD z) H
def rGet2D (K : PySem.W.Frag) (w : World) : V → List V → Hp → VK → Prop := fun x vs H Q => ∃ a es k y z, x = .ref a ∧ vs = [y, z] ∧ DicD K w H a es ∧ Dat K H k y ∧ k.depth ≤ 8 ∧ ∀ v, OptD K H (look es k) z v → Q v H
theorem EnD.optD {K : PySem.W.Frag} {H : Hp} {xs : List Ent} {es : List (Dm × Dm)} (e : EnD K H xs es) (k : Dm) (z : V) : OptD K H (look es k) z ((valX xs k).getD z) := by
  cases h : look es k with
  | none => rw [e.val0 h]; exact rfl
  | some d =>
    obtain ⟨v, h1, h2⟩ := e.val h
    rw [h1]
    exact h2
theorem mt_getX (hu : X.A.units + 9 < cLine) : MtR X "dict.get" (rGetX X.K X.w) := by
  intro pins s σ H x vs v us Q I rx rs h
  obtain ⟨a, xs, k, y, rfl, rfl, D, hk, hd, q⟩ := h
  obtain ⟨u, rfl, ry⟩ := vals1 rs
  obtain rfl : v = Value.ref a := rx
  exact x_get1 hu I D hk hd ry fun w' s' I' r' => ⟨_, H, I', r', q⟩
theorem mt_getD (hu : X.A.units + 9 < cLine) : MtR X "dict.get" (rGetD X.K X.w) := by
  intro pins s σ H x vs v us Q I rx rs h
  obtain ⟨a, es, k, y, rfl, rfl, ⟨xs, D, e⟩, hk, hd, q⟩ := h
  exact mt_getX hu pins s σ H _ _ v us Q I rx rs ⟨a, xs, k, y, rfl, rfl, D, hk, hd, q _ (e.optD k .non)⟩
theorem mt_get2X (hu : X.A.units + 9 < cLine) : MtR X "dict.get" (rGet2X X.K X.w) := by
  intro pins s σ H x vs v us Q I rx rs h
  obtain ⟨a, xs, k, y, z, rfl, rfl, D, hk, hd, q⟩ := h
  obtain ⟨u, w, rfl, ry, rz⟩ := vals2 rs
  obtain rfl : v = Value.ref a := rx
  exact x_get2 hu I D hk hd ry rz fun w' s' I' r' => ⟨_, H, I', r', q⟩
theorem mt_get2D (hu : X.A.units + 9 < cLine) : MtR X "dict.get" (rGet2D X.K X.w) := by
  intro pins s σ H x vs v us Q I rx rs h
  obtain ⟨a, es, k, y, z, rfl, rfl, ⟨xs, D, e⟩, hk, hd, q⟩ := h
  exact mt_get2X hu pins s σ H _ _ v us Q I rx rs ⟨a, xs, k, y, z, rfl, rfl, D, hk, hd, q _ (e.optD k z)⟩
/-- d.pop(k), there -/
def rPopD (K : PySem.W.Frag) (w : World) (T : Tb) : V → List V → Hp → VK → Prop := fun x vs H Q => ∃ a es k y d, x = .ref a ∧ vs = [y] ∧ DicW K w H a es ∧ Dat K H k y ∧ k.depth ≤ 8 ∧ look es k = some d ∧ ∀ v H', Go T [a] H H' → DicW K w H' a (delX es k) → Dat K H' d v → Q v H'
theorem mt_popD (T : Tb) (hu : X.A.units + 9 < cLine) : MtR X "dict.pop" (rPopD X.K X.w T) := by
  intro pins s σ H x vs v us Q I rx rs h
  obtain ⟨a, es, k, y, d, rfl, rfl, D, hk, hd, hl, q⟩ := h
  obtain ⟨u, rfl, ry⟩ := vals1 rs
  obtain rfl : v = Value.ref a := rx
  obtain ⟨xs, ha, Dx, e, g, D'⟩ := D.del (T := T) k
  obtain ⟨z, hz, hz2⟩ := e.val hl
  exact x_pop hu I Dx ha hk hd ry hz fun w' s' r' I' => ⟨z, _, I', r', q z _ g D' (g.dat hz2)⟩
/-- d.setdefault(k, x) -/
def rSdfX (K : PySem.W.Frag) (w : World) : V → List V → Hp → VK → Prop := fun x vs H Q => ∃ a xs k y z, x = .ref a ∧ vs = [y, z] ∧ H a = some (DicO w a xs) ∧ Dic K w H a xs ∧ Dat K H k y ∧ k.depth ≤ 8 ∧
  (∀ v, valX xs k = some v → Q v H) ∧ (valX xs k = none → Q z (upd H a (DicO w a (putX xs k y z))))
theorem mt_sdfX (hu : X.A.units + 9 < cLine) : MtR X "dict.setdefault" (rSdfX X.K X.w) := by
  intro pins s σ H x vs v us Q I rx rs h
  obtain ⟨a, xs, k, y, z, rfl, rfl, ha, D, hk, hd, q1, q2⟩ := h
  obtain ⟨u, w, rfl, ry, rz⟩ := vals2 rs
  obtain rfl : v = Value.ref a := rx
  refine x_sdf hu I D ha hk hd ry rz (fun z' w' s' hz I' r' => ⟨z', H, I', r', q1 z' hz⟩) fun hn s' I' => ?_
  have e := putX_new (kv := y) (v := z) (Option.map_eq_none_iff.mp (show (look xs k).map (·.2) = none from hn))
  rw [← e] at I'
  exact ⟨z, _, I', rz, q2 hn⟩
/-- len(d) -/
def rLenX (K : PySem.W.Frag) (w : World) : List V → Hp → VK → Prop := fun vs H Q => ∃ a xs, vs = [.ref a] ∧ Dic K w H a xs ∧ Q (.int xs.length) H
def rLenD (K : PySem.W.Frag) (w : World) : List V → Hp → VK → Prop := fun vs H Q => ∃ a es, vs = [.ref a] ∧ DicD K w H a es ∧ Q (.int es.length) H
theorem call_lenX : CallR X (.builtin "len") (rLenX X.K X.w) := by
  intro pins s σ H vs us Q I rs h
  obtain ⟨a, xs, rfl, D, q⟩ := h
  obtain ⟨u, rfl, ru⟩ := vals1 rs
  obtain rfl : u = Value.ref a := ru
  exact x_len I D fun t s' I' => ⟨.int xs.length, H, I', ⟨t, rfl⟩, q⟩
theorem call_lenDD : CallR X (.builtin "len") (rLenD X.K X.w) := by
  intro pins s σ H vs us Q I rs h
  obtain ⟨a, es, rfl, ⟨xs, D, e⟩, q⟩ := h
  refine call_lenX pins s σ H _ us Q I rs ⟨a, xs, rfl, D, ?_⟩
  rw [e.length]
  exact q
/-- list(d) -/
theorem EnD.datas {K : PySem.W.Frag} {H : Hp} : ∀ {xs : List Ent}, (∀ x ∈ xs, Dat K H x.1 x.2.1) → DatA K H (xs.map (·.1)) (xs.map (·.2.1))
  | [], _ => .nil
  | x :: xs, h => .cons (h x (List.mem_cons_self ..)) (EnD.datas fun y hy => h y (List.mem_cons_of_mem _ hy))
def rListX (K : PySem.W.Frag) (w : World) (T : Tb) : List V → Hp → VK → Prop := fun vs H Q => ∃ a xs, vs = [.ref a] ∧ Dic K w H a xs ∧ ∀ p H', H p = none → Go T [] H H' → H' p = some (.lst (xs.map (·.2.1))) → DatA K H' (xs.map (·.1)) (xs.map (·.2.1)) → Q (.ref p) H'
theorem call_listX (T : Tb) (hh : X.A.handled = none) : CallR X (.type "list") (rListX X.K X.w T) := by
  intro pins s σ H vs us Q I rs h
  obtain ⟨a, xs, rfl, D, q⟩ := h
  obtain ⟨u, rfl, ru⟩ := vals1 rs
  obtain rfl : u = Value.ref a := ru
  obtain ⟨ys, r, ⟨o, es, ep, ho, hc, hdat, he⟩, km⟩ := D.raw I
  have hl : es.size = xs.length := by rw [← Array.length_toList, he, List.length_map, r.length]
  have hz := D.sz
  refine PySem.W.kdl_call (KdlSrc.rawDict (es := es) (ep := ep) D.sys) hh ⟨o, ho, hc, hdat⟩ (by rw [hl]; exact hz) fun h' tk acc' c' hk hS hit => ?_
  have hp : H s.heap.objs.size = none := I.hok.fresh (Nat.le_refl _)
  have hv : Vals (xs.map (·.2.1)) acc'.toList := by
    refine paired_of ?_ fun i x u hx hu => ?_
    · have h1 : acc'.size = es.size := hit.1
      have h2 : acc'.toList.length = acc'.size := Array.length_toList
      rw [List.length_map, h2, h1, hl]
    · rw [List.getElem?_map] at hx
      obtain ⟨e, he1, he2⟩ := Option.map_eq_some_iff.mp hx
      rw [Array.getElem?_toList] at hu
      obtain ⟨hi, rfl⟩ := hit.2 i u hu
      obtain ⟨y, hy, _, ry, _⟩ := paired_at r i e he1
      have h3 : es.toList[i]? = some (entM X.w y) := by rw [he, List.getElem?_map, hy]; rfl
      have h4 : es[i] = entM X.w y := by
        rw [Array.getElem?_toList, Array.getElem?_eq_getElem hi] at h3
        exact Option.some.inj h3
      rw [h4, ← he2]
      exact ry
  have new : ObjOk X.prog X.w (upd H s.heap.objs.size (.lst (xs.map (·.2.1)))) h' s.heap.objs.size (.lst (xs.map (·.2.1))) :=
    ⟨by rw [List.length_map]; exact hz, acc'.toList, c', hv, by rw [Array.toArray_toList]; exact hS⟩
  have g : Go T [] H (upd H s.heap.objs.size (.lst (xs.map (·.2.1)))) := .new hp
  exact ⟨.ref s.heap.objs.size, _, I.laid (a := s.heap.objs.size) (t' := tk) hk (Nat.le_refl _) new, rfl, q _ _ hp g upd_same (g.datA (EnD.datas fun x hx => (D.key x hx).1))⟩
/-- list(d), a dict of data: its keys -/
def rListD (K : PySem.W.Frag) (w : World) (T : Tb) : List V → Hp → VK → Prop := fun vs H Q => ∃ a es, vs = [.ref a] ∧ DicD K w H a es ∧ ∀ p H' xs, H p = none → Go T [] H H' → H' p = some (.lst xs) → DatA K H' (es.map (·.1)) xs → Q (.ref p) H'
theorem call_listDD (T : Tb) (hh : X.A.handled = none) : CallR X (.type "list") (rListD X.K X.w T) := by
  intro pins s σ H vs us Q I rs h
  obtain ⟨a, es, rfl, ⟨xs, D, e⟩, q⟩ := h
  refine call_listX T hh pins s σ H _ us Q I rs ⟨a, xs, rfl, D, fun p H' hp g hl hd => q p H' _ hp g hl ?_⟩
  rw [← e.keys]
  exact hd
end
end TG

/-! Walks over a locked dict of data, over enumerate of a tuple; dict comprehensions. -/
namespace TG
open PySem PySem.Spec L2 TGr LamX
open PyProof.Rows hiding St

/-! ### the keys of a locked dict -/
def Itx (w : World) (d : Addr) (o : Obj) (xs : List Ent) : It :=
  ⟨fun i H => H d = some (.frz o (DicO w d xs)) ∧ i < xs.length, fun i H x H' => H' = H ∧ ∃ e, xs[i]? = some e ∧ x = e.2.1, fun i H => H d = some (.frz o (DicO w d xs)) ∧ xs.length ≤ i⟩
theorem walk_keysX {w : World} {d : Addr} {o : Obj} {xs : List Ent} : Walk (Itx w d o xs) xs.length (fun H => H d = some (.frz o (DicO w d xs))) (YAt (xs.map (·.2.1))) :=
  ⟨fun _ _ hi q => ⟨q, hi⟩, fun _ q => ⟨q, Nat.le_refl _⟩, fun i H x H' _ _ ⟨e, y, h1, h2⟩ => ⟨e, by rw [List.getElem?_map, h1, h2]; rfl⟩⟩
section
variable {X : Cx} {pins : List (Addr × Obj)} {σ : L2.St} {H : Hp} {s : Shared} {d : Addr} {o : Obj} {xs : List Ent}
theorem Inv.frzX (I : Inv X pins σ H s) (h : H d = some (.frz o (DicO X.w d xs))) :
    s.heap.get? d = some o ∧ o.ExactDict ∧ ∃ (es : Array DictEntry) (ep : Nat), o.data = .dict es ep ∧ es.size = xs.length ∧ ∀ (i : Nat) (e : Ent), xs[i]? = some e → ∃ en : DictEntry, es[i]? = some en ∧ RelV e.2.1 en.key := by
  obtain ⟨hd, ⟨ys, r, o', es, ep, ho, hx, hdt, he⟩, _⟩ := I.hok d _ h
  rw [hd] at ho
  cases ho
  refine ⟨hd, hx, es, ep, hdt, by rw [← Array.length_toList, he, List.length_map, r.length], fun i e hi => ?_⟩
  obtain ⟨y, hy, _, ry, _⟩ := paired_at r i e hi
  refine ⟨entM X.w y, ?_, ry⟩
  rw [← Array.getElem?_toList, he, List.getElem?_map, hy]
  rfl
end
theorem turn_keysX {P : Program} {w : World} {K : PySem.W.Frag} {tg : Expr} {d : Addr} {o : Obj} {es : Array DictEntry} {ep : Nat} {xs : List Ent} (it : Addr) (hod : o.data = .dict es ep) :
    Turn P w K tg (Itx w d o xs) [it] it (fun i h => h.IsKeyIter it d i xs.length ep) where
  mem := by simp
  obj := fun i h st b hb => by
    have e : b = it := by simpa using hb
    subst e
    obtain ⟨oi, e, c, dd⟩ := st
    exact ⟨oi, e, fun v z => by rw [dd] at z; cases z⟩
  keep := fun i h h' st k => st.at fun oi e => k it (by simp) oi e
  item := by
    intro X hP hw hK hc i pins s σ H E I hf st hg
    subst hP hw hK
    obtain ⟨hd, hi⟩ := hg
    obtain ⟨f0, f1, f2, f3, f4, f5⟩ := hf it (by simp)
    obtain ⟨hgd, hx, es', ep', hdt, hsz, ent⟩ := Inv.frzX I hd
    obtain ⟨rfl, rfl⟩ := dict_ep hod hdt
    obtain ⟨e, he⟩ : ∃ p, xs[i]? = some p := ⟨xs[i], List.getElem?_eq_getElem hi⟩
    obtain ⟨en, hen, hkey⟩ := ent i e he
    refine next_key_item st hgd hdt hsz hen fun h' st' sb => ?_
    have I1 : Inv X pins σ H { s with heap := h' } := I.turned (t' := s.toks) (fun b ob hb e => (sb.2 b hb).trans e) f0 f1 f3 f4 f5
    obtain ⟨oi, e', c, dd⟩ := id st'
    exact ⟨en.key, rfl, go_of (s := { s with heap := h' }) e' c dd (by decide) ⟨e.2.1, H, I1, hkey, ⟨rfl, e, he, rfl⟩, st', fun b hb => (hf b hb).1⟩⟩
  done := by
    intro X hP hw hK hc i pins s σ H E I hf st hg
    subst hP hw hK
    obtain ⟨hd, hi⟩ := hg
    obtain ⟨f0, f1, f2, f3, f4, f5⟩ := hf it (by simp)
    obtain ⟨hgd, hx, es', ep', hdt, hsz, ent⟩ := Inv.frzX I hd
    obtain ⟨rfl, rfl⟩ := dict_ep hod hdt
    exact next_key_end (I.ok.hd hc) st hgd hdt hsz hi fun h' eb => ⟨rfl, I.turned (t' := s.toks) (fun b ob hb e => eb b ob hb e) f0 f1 f3 f4 f5⟩
  self := fun A i s Q E st h => by
    refine wpAny_pyIter_slot st.typeIs F.slot_dict_keyiterator_iter (wpAny_call_entry F.slot_dict_keyiterator_iter st.typeIs F.entry_dict_keyiterator_iter ?_ (F.args_dict_keyiterator_iter_1 _))
    show wpAny _ _ (ret (.ref it)) _ _ s
    exact wpAny_pure ⟨_, rfl, "dict_keyiterator", _, st.typeIs, F.slot_dict_keyiterator_next.lookup, h⟩
/-- for k in d, d locked -/
def iKeysX (w : World) (td : TE) : TI := fun σ H R => td σ H fun x H1 => ∃ d o xs, x = .ref d ∧ H1 d = some (.frz o (DicO w d xs)) ∧ (d == sysModules) = false ∧ R (Itx w d o xs) H1
theorem pi_keysX {X : Cx} {tg e : Expr} {td : TE} (he : PE X e td) : PI X tg e (iKeysX X.w td) := by
  refine ⟨fun pins s σ H R I h => ?_⟩
  refine thn (he.run pins s σ H _ I h) fun u s1 ⟨x, H1, I1, rx, d, o, xs, ex, hd, hs, q⟩ => ?_
  subst ex
  obtain rfl : u = Value.ref d := rx
  obtain ⟨hgd, hx, es, ep, hdt, hsz, ent⟩ := Inv.frzX I1 hd
  refine iter_keys hs hgd hx hdt (pi_one (tk := s1.toks) I1 _ (turn_keysX _ hdt) ⟨_, Heap.get?_push_size _ rfl, rfl, ?_⟩ q)
  rw [hsz] <;> rfl

/-! ### enumerate(tuple) -/
theorem meets_enumT (l : Addr) (items : Array Value) :
    Meets (Builtin.«enumerate.__new__» ⟨[.type "enumerate", .ref l], []⟩) (fun _ R s => s.heap.IsTuple l items ∧
      R (.ok (.ret (.ref (s.heap.push { cls := .type "tuple_iterator", data := .fields #[.ref l, .int 0 0] }).objs.size)))
        { s with heap := (s.heap.push { cls := .type "tuple_iterator", data := .fields #[.ref l, .int 0 0] }).push { cls := .type "enumerate", data := .fields #[.none, .bool false, .ref s.heap.objs.size, rawInt 0, .none, .none] } }) :=
  .of_wp fun prog w A R s h => by
    obtain ⟨hp, g, d, tk, os⟩ := s; obtain ⟨hL, h⟩ := h
    have hsub := sub_enumerate
    have q1 : ∀ {A' : Around} {E : Value → Shared → Prop} {Q : Value → Shared → Prop}, Q (.ref hp.objs.size) ⟨hp.push { cls := .type "tuple_iterator", data := .fields #[.ref l, .int 0 0] }, g, d, tk, os⟩ → wpAny (model prog w) A' (pyIter (.ref l)) Q E ⟨hp, g, d, tk, os⟩ :=
      fun q => wpAny_pyIter_tuple hL q
    wp_walk using q1
    refine wpAny_stack_any fun st => wpAny_pure ?_
    split
    · rename_i c _ _ _ _ _
      cases (c == Value.type "enumerate")
      · wp_walk using q1
        exact ⟨_, rfl, h⟩
      · wp_walk using q1
        exact ⟨_, rfl, h⟩
    · wp_walk using q1
      exact ⟨_, rfl, h⟩
section
variable {prog : Program} {w : World} {A : Around} {E : Value → Shared → Prop} {s : Shared}
theorem call_enumT {l : Addr} {items : Array Value} {Q : Value → Shared → Prop} (hL : s.heap.IsTuple l items)
    (h : ∀ h', IsEnum h' (s.heap.objs.size + 1) s.heap.objs.size 0 .none → h'.IsTupleIter s.heap.objs.size l 0 → h'.objs.size = s.heap.objs.size + 2 →
      (∀ b o, s.heap.get? b = some o → h'.get? b = some o) → Q (.ref (s.heap.objs.size + 1)) { s with heap := h' }) :
    wpAny (model prog w) A (call (.type "enumerate") [.ref l]) Q E s := by
  refine callType_new F.called_enumerate (by decide) (F.typeCall_enumerate_1 _) (F.newCall_enumerate_1 _) (fun obj => F.args_object_init_2 obj _) F.entry_enumerate_new
    (meets_enumT l items) ⟨hL, ?_⟩
  have hz : (s.heap.push { cls := .type "tuple_iterator", data := .fields #[.ref l, .int 0 0] }).objs.size = s.heap.objs.size + 1 := Heap.size_push ..
  show _ ∧ _
  rw [hz]
  have he : IsEnum ((s.heap.push { cls := .type "tuple_iterator", data := .fields #[.ref l, .int 0 0] }).push
      { cls := .type "enumerate", data := .fields #[.none, .bool false, .ref s.heap.objs.size, rawInt 0, .none, .none] }) (s.heap.objs.size + 1) s.heap.objs.size 0 .none := by
    have := Heap.get?_push_size (s.heap.push { cls := .type "tuple_iterator", data := .fields #[.ref l, .int 0 0] })
      (o := { cls := .type "enumerate", data := .fields #[.none, .bool false, .ref s.heap.objs.size, rawInt 0, .none, .none] }) rfl
    rw [hz] at this; exact this
  refine ⟨⟨_, he, rfl⟩, h _ he ⟨_, Heap.get?_push_of_some _ (Heap.get?_push_size _ rfl), rfl, rfl⟩ (by rw [Heap.size_push, hz]) fun b o x => Heap.get?_push_of_some _ (Heap.get?_push_of_some _ x)⟩
end
/-- the tuple at a, each item in a new pair -/
def Itet (K : PySem.W.Frag) (a : Addr) : It :=
  ⟨fun i H => ∃ (xs : List V) (x : V), SqT K H a xs ∧ xs[i]? = some x, fun i H v H' => ∃ T x, v = .ref T ∧ H T = none ∧ H' = upd H T (.tup [.int (i : Nat), x]) ∧ ∀ xs, SqT K H a xs → xs[i]? = some x, fun i H => ∃ xs : List V, SqT K H a xs ∧ xs.length = i⟩
theorem walk_enumT {K : PySem.W.Frag} {a : Addr} {xs : List V} : Walk (Itet K a) xs.length (fun H => SqT K H a xs) (YPair (fun i => some (.int (i : Nat))) (fun i => xs[i]?)) := by
  refine ⟨fun i _ hi q => ⟨xs, xs[i], q, by simp [hi]⟩, fun _ q => ⟨xs, q, rfl⟩, fun i H v H' _ q y => ?_⟩
  obtain ⟨T, x, h1, h2, h3, h4⟩ := y
  exact ⟨T, .int (i : Nat), x, h1, h2, h3, rfl, h4 xs q⟩
theorem turn_enumT {P : Program} {w : World} {K : PySem.W.Frag} {elts : List Expr} {kk : Nat} {tpos : Pos} (a e it : Addr) (hai : a ≠ it) (hae : a ≠ e) :
    Turn P w K (.Tuple elts kk tpos) (Itet K a) [e, it] e (fun i h => (∃ old, IsEnum h e it ((i : Nat) : Int) old) ∧ h.IsTupleIter it a i ∧ e ≠ it) where
  mem := by simp
  obj := fun i h st b hb => by
    obtain ⟨⟨old, he⟩, ⟨o, ho, hc, hd⟩, _⟩ := st
    have e' : b = e ∨ b = it := by simpa using hb
    rcases e' with z | z
    · rw [z]; exact ⟨_, he, fun v q => nomatch q⟩
    · rw [z]; exact ⟨o, ho, fun v q => by rw [hd] at q; cases q⟩
  keep := fun i h h' st k => let ⟨⟨old, he⟩, hi, hne⟩ := st; ⟨⟨old, k e (by simp) _ he⟩, hi.at fun o q => k it (by simp) o q, hne⟩
  item := by
    intro X hP hw hK hc i pins s σ H E I hf st hg
    subst hP hw hK
    obtain ⟨⟨old, he⟩, hit, hne⟩ := st
    obtain ⟨xs, x, hq, hx⟩ := hg
    obtain ⟨its, rv, p, hz⟩ := I.tuple hq
    obtain ⟨u, hu, ru⟩ := rv.get hx
    have pT : s.heap.IsTuple a its.toArray := p
    have hel : e < s.heap.objs.size := Heap.lt_size he
    have hil : it < s.heap.objs.size := by obtain ⟨_, q, _⟩ := hit; exact Heap.lt_size q
    have hlt : i < its.toArray.size := by
      have := (List.getElem?_eq_some_iff.mp hu).1
      simpa using this
    refine wpAny_pyNext_enum_itemD (Draws.tuple (A := X.A.in1) (I.ok.hd hc) it a hai its.toArray) he ⟨hit, pT⟩ hlt hne (by simp [hne, Ne.symm hae]) fun x' h' tk hx' ho hst hT hsz hk => ?_
    have ex : x' = u := by
      have h2 : its.toArray[i]? = some u := by simpa using hu
      rw [h2] at hx'
      exact (Option.some.inj hx').symm
    subst ex
    refine ⟨_, rfl, wpAny_letOwnedTupleGo_enum (s := { s with heap := h', toks := tk + 1 }) ho fun h'' he' sb => ?_⟩
    have hT2 : h''.get? s.heap.objs.size = some { cls := .type "tuple", data := .seq #[.int i tk, x'] } := (sb.2 _ (Nat.ne_of_gt hel)).trans hT
    have new : ObjOk X.prog X.w (upd H s.heap.objs.size (.tup [.int (i : Nat), x])) h'' s.heap.objs.size (.tup [.int (i : Nat), x]) :=
      ⟨by show 2 ≤ sizeLine; decide, [.int i tk, x'], .cons ⟨_, rfl⟩ (.cons ru .nil), ⟨_, hT2, rfl, _, rfl⟩⟩
    have I1 : Inv X pins σ (upd H s.heap.objs.size (.tup [.int (i : Nat), x])) { s with heap := h'', toks := tk + 1 } :=
      I.turnedNew (ch := [e, it]) (fun b ob hb q => (sb.2 b (fun z => hb (by simp [z]))).trans (hk b ob (fun z => hb (by simp [z])) (fun z => hb (by simp [z])) q)) hf (Nat.le_refl _) new
    refine ⟨.ref s.heap.objs.size, _, I1, rfl, ⟨_, x, rfl, I.hok.fresh (Nat.le_refl _), rfl, fun ys hy => by rw [I.tuple_inj hy hq]; exact hx⟩, ⟨⟨x', ?_⟩, hst.1.at fun o q => (sb.2 it (Ne.symm hne)).trans q, hne⟩, fun b hb => ?_⟩
    · have e1 : ((i + 1 : Nat) : Int) = (i : Int) + 1 := by omega
      rw [e1]; exact he'
    · have hb' : b < s.heap.objs.size := by
        have e' : b = e ∨ b = it := by simpa using hb
        rcases e' with z | z
        · rw [z]; exact hel
        · rw [z]; exact hil
      rw [upd_ne (Nat.ne_of_lt hb')]
      exact (hf b hb).1
  done := by
    intro X hP hw hK hc i pins s σ H E I hf st hg
    subst hP hw hK
    obtain ⟨⟨old, he⟩, hit, hne⟩ := st
    obtain ⟨xs, hq, hx⟩ := hg
    obtain ⟨its, rv, p, hz⟩ := I.tuple hq
    have pT : s.heap.IsTuple a its.toArray := p
    obtain ⟨f0, f1, f2, f3, f4, f5⟩ := hf it (by simp)
    have hl := rv.length
    have e1 : i = its.toArray.size := by simp; omega
    rw [e1] at hit he
    exact wpAny_pyNext_enum_endD (Draws.tuple (A := X.A.in1) (I.ok.hd hc) it a hai its.toArray) he ⟨hit, pT⟩ fun h' eb => ⟨rfl, I.turned (t' := s.toks) (fun b o hb q => eb b o hb q) f0 f1 f3 f4 f5⟩
  self := fun A i s Q E st h => let ⟨⟨_, he⟩, _⟩ := st; wpAny_pyIter_enum he h
def iEnumT (K : PySem.W.Frag) (ta : TA) : TI := fun σ H R => ta σ H fun vs H1 => ∃ a xs, vs = [.ref a] ∧ SqT K H1 a xs ∧ R (Itet K a) H1
theorem pi_enumT {X : Cx} {e : Expr} {ta : TA} {p pos tpos : Pos} {elts : List Expr} {kk : Nat} (hg : Gl X "enumerate") (hm : X.mg "enumerate" = none) (ha : PA X [e] ta) (hs : starEach [e] X.env = [(false, eval e X.env)] := by rfl) :
    PI X (.Tuple elts kk tpos) (.Call (.Name "enumerate" p) [e] [] pos) (iEnumT X.K ta) := by
  refine ⟨fun pins s σ H R I h => ?_⟩
  refine Call_ (ld_blt I hg hm boot_enumerate (PyProof.Rows.callWith_type1 (thn (ha.run pos pins s σ H _ I h) fun us s1 ⟨vs, H1, I1, r1, q1⟩ => ?_) hs rfl))
  obtain ⟨a, xs, ex, hq, q⟩ := q1
  subst ex
  cases r1 with
  | cons r rr =>
    cases rr
    cases r
    obtain ⟨its, rv, p', hz⟩ := I1.tuple hq
    have pT : s1.heap.IsTuple a its.toArray := p'
    have hlt : a < s1.heap.objs.size := by obtain ⟨_, z, _⟩ := pT; exact Heap.lt_size z
    refine call_enumT pT fun h' he hit hsz hk => wpAny_pyIter_enum he ?_
    have I2 : Inv X pins σ H1 { s1 with heap := h' } := I1.kept (t' := s1.toks) hk
    refine ⟨s1.heap.objs.size + 1, [s1.heap.objs.size + 1, s1.heap.objs.size], _, _, H1, rfl, I2, turn_enumT a (s1.heap.objs.size + 1) s1.heap.objs.size (Nat.ne_of_lt hlt) (Nat.ne_of_lt (Nat.lt_succ_of_lt hlt)), ⟨⟨.none, he⟩, hit, Nat.succ_ne_self _⟩, fun b hb => ?_, q⟩
    have e' : b = s1.heap.objs.size + 1 ∨ b = s1.heap.objs.size := by simpa using hb
    have hle : s1.heap.objs.size ≤ b := by
      rcases e' with z | z
      · rw [z]; exact Nat.le_add_right _ _
      · rw [z]; exact Nat.le_refl _
    exact I1.fpOk hle (I1.hok.fresh hle)
end TG

/-! Comprehensions that collect into a new object: one proof for dicts and sets. -/
namespace TG
open PySem PySem.Spec L2 TGr LamX
open PyProof.Rows hiding St

/-- how a turn's adding is told of the model -/
abbrev AddW := Env → Addr → (Shared → Prop) → (Value → Shared → Prop) → Shared → Prop
/-- what the model does for the comprehension c: its turns, its start -/
structure ColOk (P : Program) (w : World) (A : Around) (c tg iter : Expr) (ifs : List Expr) (add : AddW) : Prop where
  one : clausesOf c = [⟨tg, iter, ifs, 0⟩]
  turns : ∀ {R : Result → Shared → Prop} {it : Value} {D : Addr} {env : Env} (I : Nat → Shared → Prop),
    (∀ n s, I n s → wpAny (model P w) A (pyNext it) (fun r s₁ => match r with
      | none => R (.ok .next) s₁
      | some v => wpAny (model P w) A (letOwnedTupleGo tg it v) (fun _ s₁' => wpAny (model P w) A (assign tg env v) (fun _ s₂ =>
          wpAny (model P w) A (forIn ifs true fun c r => if r = true then do let ok ← isTrue c env (eval c env); pure (ForInStep.yield ok) else pure (ForInStep.yield r)) (fun ok s₃ =>
            if ok = true then add env D (fun s' => ∃ m, m < n ∧ I m s') (notedBy (model P w) A env fun e s' => R (.error e) s') s₃
            else ∃ m, m < n ∧ I m s₃) (notedBy (model P w) A env fun e s' => R (.error e) s') s₂) (notedBy (model P w) A env fun e s' => R (.error e) s') s₁') (notedBy (model P w) A env fun e s' => R (.error e) s') s₁) (notedBy (model P w) A env fun e s' => R (.error e) s') s) →
    ∀ n s, I n s → codeAny (model P w) A (.compLoop c 0 it (.ref D) env) R s
  start : ∀ {R : Result → Shared → Prop} {it acc : Value} {env : Env} {s : Shared}, codeAny (model P w) A (.compLoop c 0 it acc env) R s →
    wpAny (model P w) A (pyIter it) (fun it' s' => codeAny (model P w) A (.compLoop c 0 it' acc env) R s') (notedBy (model P w) A env fun x s' => R (.error x) s') s →
    codeAny (model P w) A (.compStart c 0 it acc env) R s
section
variable {X : Cx}
/-- the reading: O what stands at the new object's address D, ta the adding -/
def tCol (O : Addr → HO) (wi : TI) (g : TG) (tt : TT) (ta : Addr → L2.St → Hp → (Hp → Prop) → Prop) (vs : List Nat) : TE := fun σ H Q => wi σ H fun J H1 => ∀ D, H1 D = none → (D == sysModules) = false →
  ∃ W : Nat → Nat → Hp → Prop, (∃ m, W 0 m (upd H1 D (O D))) ∧ ∀ i m H, W i m H → (J.stop i H ∧ Q (.ref D) H) ∨
    (J.go i H ∧ ∃ Nx : Hp → Prop, (∀ H', Nx H' → ∃ m', m' < m ∧ W (i + 1) m' H') ∧ ∀ x H', J.yld i H x H' → g x (wipe σ vs) H' fun σ2 H2 => wipe σ2 vs = wipe σ vs ∧ tt σ2 H2 fun b H3 => if b = true then ta D σ2 H3 Nx else Nx H3)
/-- the adding, judged within the block -/
def ColAdd (Y : Cx) (add : AddW) (ta : Addr → L2.St → Hp → (Hp → Prop) → Prop) : Prop :=
  ∀ (D : Addr) (pins : List (Addr × Obj)) (s : Shared) (σ : L2.St) (H : Hp) (N : Hp → Prop), Inv Y pins σ H s → ta D σ H N → add Y.env D (fun s' => ∃ H', Inv Y pins σ H' s' ∧ N H') (fun _ _ => False) s
theorem col_core {pins : List (Addr × Obj)} {s : Shared} {σ : L2.St} {H : Hp} {Q : VK} {c tg iter : Expr} {ifs : List Expr} {scope : Scope} {own : List (Str × Nat)} {pos' : Pos} {wi : TI} {g : TG} {tt : TT} {add : AddW} {ta : Addr → L2.St → Hp → (Hp → Prop) → Prop} {new : Sem Value} {o0 : Obj} {O : Addr → HO}
    {use : Option (Value → Sem Unit)} {Qf : Value → Shared → Prop} (C : ColOk X.prog X.w X.A c tg iter ifs add) (mono : ∀ {env D} {N N' : Shared → Prop} {F F' : Value → Shared → Prop} {s}, (∀ s, N s → N' s) → (∀ e s, F e s → F' e s) → add env D N F s → add env D N' F' s)
    (hnew : ∀ {A : Around} {E : Value → Shared → Prop} {s : Shared} {Q : Value → Shared → Prop}, Q (.ref s.heap.objs.size) { s with heap := s.heap.push o0 } → wpAny (model X.prog X.w) A new Q E s)
    (hO : ∀ (H : Hp) (h : Heap), sysModules < h.objs.size → ObjOk X.prog X.w H (h.push o0) h.objs.size (O h.objs.size))
    (hc : X.calm = true) (hN : X.N.Nodup) (I : Inv X pins σ H s) (hi : PI X tg iter wi) (ok : BlkOk X.N X.env.scope scope own)
    (hg : ∀ (s : Shared) (H : Hp) (C : Addr) (cl : List (Str × Addr)) (fp : List Addr), PG (X.blk s H scope (compEnvC scope cl C X.env) fp) tg g)
    (ht : ∀ (s : Shared) (H : Hp) (C : Addr) (cl : List (Str × Addr)) (fp : List Addr), PTs (X.blk s H scope (compEnvC scope cl C X.env) fp) ifs tt)
    (ha : ∀ (s : Shared) (H : Hp) (C : Addr) (cl : List (Str × Addr)) (fp : List Addr), ColAdd (X.blk s H scope (compEnvC scope cl C X.env) fp) add ta) (hs : ∀ x, foldedSetIterable iter X.env x = pure x)
    (h : tCol O wi g tt ta (own.map (·.2)) σ H Q)
    (fin : ∀ D C s' m H', Inv X pins σ H' s' → Q (.ref D) H' → s'.heap.Ns C m → FpOk X pins H' C → compPost (model X.prog X.w) X.A X.xe use Qf (.ref D) C (.ok .next) s') :
    wpAny (model X.prog X.w) X.A (comprehension c scope X.env pos' new false (eval iter X.env) use) Qf X.xe s := by
  have hfree : ∀ y ∈ scope.names, y.2 = .free → ∃ c, X.env.cells.lookup y.1 = some c := fun y hy e => (ok.free y hy e).elim (fun k => I.ok.has _ (.inl k)) fun k => I.ok.has _ (.inr k)
  refine wpAny_comprehension_free (use := use) C.one hs (closure_ok hfree) ok.kind (fun y hy e => by rw [ok.uniq y hy, e]) (thn (hi.run pins s σ H _ I h) fun xv s1 hx => thn hx fun itv s2 h2 => ?_)
  obtain ⟨it, fp, tn, J, H2, rfl, I2, T, tn2, fp2, q⟩ := h2
  refine hnew (newEnv_comp ?_)
  -- D: the new object
  obtain ⟨D, eD⟩ : ∃ D, s2.heap.objs.size = D := ⟨_, rfl⟩
  have nD : H2 D = none := I2.hok.fresh (Nat.le_of_eq eD)
  obtain ⟨W, ⟨m0, w0⟩, turn⟩ := q D nD (beq_eq_false_iff_ne.mpr (by rw [← eD]; exact Ne.symm (Nat.ne_of_lt I2.big)))
  rw [eD]
  obtain ⟨s3, es3⟩ : ∃ s3 : Shared, ({ s2 with heap := s2.heap.push o0 } : Shared) = s3 := ⟨_, rfl⟩
  obtain ⟨H3, eH3⟩ : ∃ H3, upd H2 D (O D) = H3 := ⟨_, rfl⟩
  have hp3 : s3.heap = s2.heap.push o0 := by rw [← es3]
  have I3 : Inv X pins σ H3 s3 := by
    rw [← es3, ← eH3]
    refine I2.laid (t' := s2.toks) (fun b o e => Heap.get?_push_of_some _ e) (Nat.le_of_eq eD) ?_
    rw [← eD]
    exact hO _ s2.heap I2.big
  have old : ∀ b ∈ fp, b < s2.heap.objs.size := fun b hb => let ⟨_, e, _⟩ := T.obj _ _ tn2 b hb; Heap.lt_size e
  have fp3 : ∀ b ∈ fp, FpOk X pins H3 b ∧ b < s3.heap.objs.size := fun b hb => by
    have lt := old b hb
    refine ⟨⟨?_, (fp2 b hb).2⟩, by rw [hp3, Heap.size_push]; exact Nat.lt_succ_of_lt lt⟩
    rw [← eH3, upd_ne (by rw [← eD]; exact Nat.ne_of_lt lt)]
    exact (fp2 b hb).1
  have I4 := block_start I3 ok hN fp3
  have bg := hg s3 H3 s3.heap.objs.size (cellsFrom (s3.heap.objs.size + 1) scope.names (cloFrom X.env.cells scope.names [])) fp
  have bt := ht s3 H3 s3.heap.objs.size (cellsFrom (s3.heap.objs.size + 1) scope.names (cloFrom X.env.cells scope.names [])) fp
  have ba := ha s3 H3 s3.heap.objs.size (cellsFrom (s3.heap.objs.size + 1) scope.names (cloFrom X.env.cells scope.names [])) fp
  rw [es3]
  obtain ⟨ce, ece⟩ : ∃ ce, compEnvC scope (cellsFrom (s3.heap.objs.size + 1) scope.names (cloFrom X.env.cells scope.names [])) s3.heap.objs.size X.env = ce := ⟨_, rfl⟩
  have cL : ce.locals = s3.heap.objs.size := by subst ece; rfl
  show codeAny _ _ (.compStart c 0 (.ref it) (.ref D) (compEnvC scope (cellsFrom (s3.heap.objs.size + 1) scope.names (cloFrom X.env.cells scope.names [])) s3.heap.objs.size X.env)) (compPost (model X.prog X.w) X.A X.xe use Qf (.ref D) s3.heap.objs.size) { s3 with heap := pushCells (s3.heap.push { cls := .type "dict", data := .dict #[] }) scope.names }
  rw [ece] at I4 bg bt ba ⊢
  have tn4 : tn 0 (pushCells (s3.heap.push { cls := .type "dict", data := .dict #[] }) scope.names) := T.keep _ _ _ tn2 fun b _ o e => pushCells_keeps _ _ _ _ (Heap.get?_push_of_some _ (by rw [hp3]; exact Heap.get?_push_of_some _ e))
  have stat : ∀ {σ' : L2.St} {H' : Hp} {s' : Shared}, Inv (X.blk s3 H3 scope ce fp) [] σ' H' s' → (∀ b ∈ fp, H' b = none) → ∀ b ∈ fp, FpOk (X.blk s3 H3 scope ce fp) [] H' b := fun I' hn b hb =>
    ⟨hn b hb, (I'.ok.exf b hb).1, I'.ok.exfs b hb, .inl hb, fun x c e => (I'.ok.exf b hb).2 x c e, fun p hp => absurd (show p ∈ ([] : List (Addr × Obj)) ++ [] from hp) (by simp)⟩
  have loop : ∀ n s', (∃ i H', Inv (X.blk s3 H3 scope ce fp) [] (wipe σ (own.map (·.2))) H' s' ∧ tn i s'.heap ∧ (∀ b ∈ fp, H' b = none) ∧ W i n H') →
      codeAny (model X.prog X.w) X.A (.compLoop c 0 (.ref it) (.ref D) ce) (compPost (model X.prog X.w) X.A X.xe use Qf (.ref D) s3.heap.objs.size) s' := by
    refine C.turns (fun n s' => ∃ i H', Inv (X.blk s3 H3 scope ce fp) [] (wipe σ (own.map (·.2))) H' s' ∧ tn i s'.heap ∧ (∀ b ∈ fp, H' b = none) ∧ W i n H') ?_
    rintro n s5 ⟨i, H5, I5, tn5, n5, w5⟩
    rcases turn i n H5 w5 with ⟨stop, qq⟩ | ⟨go, Nx, hNx, step⟩
    · refine thnF (T.done (X.blk s3 H3 scope ce fp) rfl rfl rfl hc i [] s5 _ H5 (fun _ _ => False) I5 (stat I5 n5) tn5 stop) fun r s6 ⟨hr, I6⟩ => ?_
      subst hr
      have I7 : Inv X pins σ H5 s6 := I3.call' (ch := fp) I6.os I6.base I6.hok I6.bare fun b hb => ⟨(fp3 b hb).1.2.2.2.1, (fp3 b hb).1.2.1, (fp3 b hb).1.2.2.2.2.1, (fp3 b hb).1.2.2.2.2.2⟩
      have nC : H5 ce.locals = none := I6.free
      obtain ⟨m, hn, _⟩ := I6.loc
      have hn : s6.heap.Ns ce.locals m := hn
      rw [cL] at hn nC
      exact fin D s3.heap.objs.size s6 m H5 I7 qq hn (I3.fpOk (Nat.le_refl _) nC)
    · refine thnF (T.item (X.blk s3 H3 scope ce fp) rfl rfl rfl hc i [] s5 _ H5 (fun _ _ => False) I5 (stat I5 n5) tn5 go) fun r s6 ⟨u, hr, h6⟩ => ?_
      subst hr
      refine thnF h6 fun _ s7 ⟨x, H7, I7, r7, y7, tn7, n7⟩ => ?_
      refine thnF (bg.run _ s7 _ H7 x u _ (I7.pinned (stat I7 n7) (T.obj _ _ tn7)) r7 (step x H7 y7)) fun _ s8 ⟨σ8, H8, I8, hw8, q8⟩ => ?_
      refine thnF (bt.run _ s8 σ8 H8 _ I8 q8) fun b s9 ⟨H9, I9, q9⟩ => ?_
      -- behind the turn
      have again : ∀ s', (∃ H', Inv (X.blk s3 H3 scope ce fp) ([] ++ pinsAt fp s7.heap) σ8 H' s' ∧ Nx H') → ∃ m, m < n ∧ ∃ i H', Inv (X.blk s3 H3 scope ce fp) [] (wipe σ (own.map (·.2))) H' s' ∧ tn i s'.heap ∧ (∀ b ∈ fp, H' b = none) ∧ W i m H' := by
        rintro s' ⟨H', I', nx⟩
        obtain ⟨m', hm, w'⟩ := hNx H' nx
        have pin : ∀ b ∈ fp, ∀ o, s7.heap.get? b = some o → s'.heap.get? b = some o ∧ H' b = none := fun b hb o e =>
          ⟨(I'.pin (b, o) (List.mem_append_right _ (List.mem_append_right _ (mem_pinsAt hb e)))).1, (I'.pin (b, o) (List.mem_append_right _ (List.mem_append_right _ (mem_pinsAt hb e)))).2.1⟩
        refine ⟨m', hm, i + 1, H', (I'.unpinned (pins := [])).weak (by rw [← hw8, wipe_length]) (fun j v e => (wipe_some (by rw [hw8]; exact e)).1), T.keep _ _ _ tn7 fun b hb o e => (pin b hb o e).1, fun b hb => ?_, w'⟩
        obtain ⟨o, e, _⟩ := T.obj _ _ tn7 b hb
        exact (pin b hb o e).2
      cases b with
      | false =>
        simp only [Bool.false_eq_true, if_false] at q9 ⊢
        exact again _ ⟨H9, I9, q9⟩
      | true =>
        simp only [if_true] at q9 ⊢
        exact mono again (fun _ _ z => z.elim) (ba D _ s9 σ8 H9 Nx I9 q9)
  have w0' : W 0 m0 H3 := by rw [← eH3]; exact w0
  have first : codeAny (model X.prog X.w) X.A (.compLoop c 0 (.ref it) (.ref D) ce) (compPost (model X.prog X.w) X.A X.xe use Qf (.ref D) s3.heap.objs.size) { s3 with heap := pushCells (s3.heap.push { cls := .type "dict", data := .dict #[] }) scope.names } :=
    loop m0 _ ⟨0, H3, I4, tn4, fun b hb => (fp3 b hb).1.1, w0'⟩
  exact C.start first (T.self X.A 0 _ _ _ tn4 first)
/-- the reading, by a walk -/
theorem col_it {J : It} {n : Nat} {G : Hp → Prop} {Y : Nat → Hp → V → Hp → Prop} (w : Walk J n G Y) {O : Addr → HO} {g : TG} {tt : TT} {ta : Addr → L2.St → Hp → (Hp → Prop) → Prop} {vs : List Nat} {σ : L2.St} {H1 : Hp} {D : Addr} {Qd : Hp → Prop} (Pv : Nat → Hp → Prop) (h0 : Pv 0 (upd H1 D (O D))) (hG : ∀ i H, i ≤ n → Pv i H → G H)
    (hs : ∀ i x H H', i < n → Pv i H → Y i H x H' → g x (wipe σ vs) H' fun σ2 H2 => wipe σ2 vs = wipe σ vs ∧ tt σ2 H2 fun b H3 => if b = true then ta D σ2 H3 (Pv (i + 1)) else Pv (i + 1) H3) (hd : ∀ H, Pv n H → Qd H) :
    ∃ W : Nat → Nat → Hp → Prop, (∃ m, W 0 m (upd H1 D (O D))) ∧ ∀ i m H, W i m H → (J.stop i H ∧ Qd H) ∨
      (J.go i H ∧ ∃ Nx : Hp → Prop, (∀ H', Nx H' → ∃ m', m' < m ∧ W (i + 1) m' H') ∧ ∀ x H', J.yld i H x H' → g x (wipe σ vs) H' fun σ2 H2 => wipe σ2 vs = wipe σ vs ∧ tt σ2 H2 fun b H3 => if b = true then ta D σ2 H3 Nx else Nx H3) := by
  refine ⟨fun i m H => m + i = n ∧ Pv i H, ⟨n, rfl, h0⟩, ?_⟩
  rintro i m H ⟨e, p⟩
  have q := hG i H (by omega) p
  by_cases lt : i < n
  · exact .inr ⟨w.goes i H lt q, Pv (i + 1), fun H' p' => ⟨m - 1, by omega, by omega, p'⟩, fun x H' y => hs i x H H' lt p (w.yields i H x H' lt q y)⟩
  · have z : i = n := by omega
    subst z
    exact .inl ⟨w.stops H q, hd H p⟩

/-! ### {k: v for ..} -/
def addDic (P : Program) (w : World) (A : Around) (kx vx : Expr) : AddW := fun env D N F s => wpAny (model P w) A (eval kx env) (fun kv s₄ => wpAny (model P w) A (eval vx env) (fun vv s₅ => wpAny (model P w) A (dictSet D kv vv) (fun _ s₆ => N s₆) F s₅) F s₄) F s
/-- the dict's new entry -/
def taDic (K : PySem.W.Frag) (w : World) (T : Tb) (tk tv : TE) : Addr → L2.St → Hp → (Hp → Prop) → Prop := fun D σ H N => tk σ H fun y H4 => tv σ H4 fun z H5 => ∃ es k d, DicW K w H5 D es ∧ Dat K H5 k y ∧ k.depth ≤ 8 ∧ Dat K H5 d z ∧ es.length < sizeLine ∧ ∀ H', Go T [D] H5 H' → DicW K w H' D (putD es k d) → N H'
theorem dicW_dictSet (T : Tb) {pins : List (Addr × Obj)} {σ : L2.St} {H : Hp} {s : Shared} {E : Value → Shared → Prop} {D : Addr} {es : List (Dm × Dm)} {k d : Dm} {y v : V} {u r : Value} {Q : Unit → Shared → Prop} (hu : X.A.units + 8 < cLine) (I : Inv X pins σ H s) (W : DicW X.K X.w H D es)
    (hk : Dat X.K H k y) (hd : k.depth ≤ 8) (hv : Dat X.K H d v) (hz : es.length < sizeLine) (ry : RelV y u) (rv : RelV v r) (h : ∀ s' H', Inv X pins σ H' s' → Go T [D] H H' → DicW X.K X.w H' D (putD es k d) → Q () s') : wpAny (model X.prog X.w) X.A (dictSet D u r) Q E s := by
  obtain ⟨xs, ha, Dx, g, D'⟩ := W.put (T := T) hk hd hv hz
  obtain ⟨ys, rr, dd, km⟩ := Dx.raw I
  exact set_mix hu (Dat.is I k y u hk ry) hd dd km (by rw [← rr.length]; exact Dx.sz) fun h' d' hs => h _ _ (Inv.dset I ha hs (rr.put ry rv) d') g D'
theorem pe_dcD (T : Tb) {kx vx tg iter : Expr} {ifs : List Expr} {scope : Scope} {own : List (Str × Nat)} {pos : Pos} {wi : TI} {g : TG} {tt : TT} {tk tv : TE} (hu : X.A.units + 9 < cLine) (hc : X.calm = true) (hN : X.N.Nodup) (hi : PI X tg iter wi) (ok : BlkOk X.N X.env.scope scope own)
    (hg : ∀ (s : Shared) (H : Hp) (C : Addr) (cl : List (Str × Addr)) (fp : List Addr), PG (X.blk s H scope (compEnvC scope cl C X.env) fp) tg g) (ht : ∀ (s : Shared) (H : Hp) (C : Addr) (cl : List (Str × Addr)) (fp : List Addr), PTs (X.blk s H scope (compEnvC scope cl C X.env) fp) ifs tt)
    (hk : ∀ (s : Shared) (H : Hp) (C : Addr) (cl : List (Str × Addr)) (fp : List Addr), PE (X.blk s H scope (compEnvC scope cl C X.env) fp) kx tk)
    (he : ∀ (s : Shared) (H : Hp) (C : Addr) (cl : List (Str × Addr)) (fp : List Addr), PE (X.blk s H scope (compEnvC scope cl C X.env) fp) vx tv) (hs : ∀ x, foldedSetIterable iter X.env x = pure x := by intro _; rfl) :
    PE X (.DictComp kx vx [⟨tg, iter, ifs, 0⟩] scope pos) (tCol (fun D => DicO X.w D []) wi g tt (taDic X.K X.w T tk tv) (own.map (·.2))) := by
  refine ⟨fun pins s σ H Q I h => ?_⟩
  rw [arm_eval_DictComp]
  refine col_core (o0 := { cls := .type "dict", data := .dict #[] }) (add := addDic X.prog X.w X.A kx vx) ⟨rfl, fun {R it D env} I turn n s hn => compLoop_anyD I turn n hn, fun h0 h => codeAny_compStart_dict h0 h⟩ (fun hN hF z => ?_) (fun hQ => wpAny_newObj_type hQ) (fun H h hb => dicO_ok .nil (rawD_new h)) hc hN I hi ok hg ht
    (fun s H C cl fp => ?_) hs h fun D C s' m H' I' q hn f => ⟨m, hn, fun h'' sb => ?_⟩
  · exact wpAny_mono z (fun kv s4 z => wpAny_mono z (fun vv s5 z => wpAny_mono z (fun _ s6 z => hN _ z) hF) hF) hF
  · intro D pins s σ H N I h
    refine wpAny_mono ((hk _ _ _ _ _).run _ _ _ _ _ I h) (fun kv s4 ⟨y, H4, I4, ry, q4⟩ => wpAny_mono ((he _ _ _ _ _).run _ _ _ _ _ I4 q4) (fun vv s5 ⟨z, H5, I5, rz, es, k, d, W, hk', hd, hv, hz, q5⟩ => ?_) fun _ _ z => z) fun _ _ z => z
    exact dicW_dictSet (X := X.blk _ _ _ _ _) T (Nat.lt_of_succ_lt hu) I5 W hk' hd hv hz ry rz fun s' H' I' g W' => ⟨H', I', q5 H' g W'⟩
  · obtain ⟨f0, f1, f2, f3, f4, f5⟩ := f
    exact ⟨.ref D, H', I'.turned (t' := s'.toks) (fun b o hb e => (sb.2 b hb).trans e) f0 f1 f3 f4 f5, rfl, q⟩
end
end TG

/-! Lists and tuples of data: rules. -/
namespace TG
open PySem PySem.Spec L2 TGr LamX
open PyProof.Rows hiding St

section
variable {X : Cx}
theorem CallR.imp {f : Value} {r r' : List V → Hp → VK → Prop} (c : CallR X f r) (h : ∀ vs H Q, r' vs H Q → r vs H Q) : CallR X f r' := fun pins s σ H vs us Q I rv q => c pins s σ H vs us Q I rv (h _ _ _ q)
theorem MtR.imp {id : String} {r r' : V → List V → Hp → VK → Prop} (c : MtR X id r) (h : ∀ x vs H Q, r' x vs H Q → r x vs H Q) : MtR X id r' := fun pins s σ H x vs v us Q I rx rv q => c pins s σ H x vs v us Q I rx rv (h _ _ _ _ q)
theorem OpR.imp {f : Value → Value → Sem Value} {r r' : R2} (c : OpR X f r) (h : ∀ x y H Q, r' x y H Q → r x y H Q) : OpR X f r' := fun pins s σ H x y v u Q I rx ry q => c pins s σ H x y v u Q I rx ry (h _ _ _ _ q)
theorem IxR.imp {r r' : R2} (c : IxR X r) (h : ∀ x y H Q, r' x y H Q → r x y H Q) : IxR X r' := fun a b pins s σ H x y v u Q I rx ry q hs => c a b pins s σ H x y v u Q I rx ry (h _ _ _ _ q) hs
theorem SlR.imp {r r' : V → Option Int → Option Int → Hp → VK → Prop} (c : L2.SlR X r) (h : ∀ x l u H Q, r' x l u H Q → r x l u H Q) : L2.SlR X r' := fun pins s σ H x v vl vu lo hi sl Q I rx hs pl pu q => c pins s σ H x v vl vu lo hi sl Q I rx hs pl pu (h _ _ _ _ _ q)
theorem PSet.imp {t t' : TSet} (c : PSet X t) (h : ∀ x y v H Q, t' x y v H Q → t x y v H Q) : PSet X t' := fun pins s σ H o i v ov iv u Q I ro ri rv q => c pins s σ H o i v ov iv u Q I ro ri rv (h _ _ _ _ _ q)
end
/-! ### lists of data -/
/-- at a stands a list of the data ds, to be written -/
structure LstW (K : PySem.W.Frag) (H : Hp) (a : Addr) (ds : List Dm) : Prop where
  ex : ∃ xs, H a = some (.lst xs) ∧ DatA K H ds xs
section
variable {T : Tb} {S : List Addr} {K : PySem.W.Frag} {H H' : Hp} {a : Addr} {ds es : List Dm} {d : Dm} {x : V}
theorem LstW.ls (L : LstW K H a ds) : LsD K H ds (.ref a) := let ⟨xs, h, d⟩ := L.ex; ⟨a, xs, rfl, .inl (.inl h), d⟩
theorem LstW.go (L : LstW K H a ds) (g : Go T S H H') (n : a ∉ S) : LstW K H' a ds := let ⟨xs, h, d⟩ := L.ex; ⟨xs, g.lst h n, g.datA d⟩
theorem LstW.ne {p : Addr} (L : LstW K H a ds) (h : H p = none) : a ≠ p := let ⟨xs, q, _⟩ := L.ex; ne_of_none q h
theorem LsD.go (L : LsD K H ds (.ref a)) (g : Go T S H H') (n : a ∉ S) : LsD K H' ds (.ref a) := by
  obtain ⟨b, xs, e, h, d⟩ := L
  cases e
  exact ⟨a, xs, rfl, g.sqL h n, g.datA d⟩
theorem LsD.ref (L : LsD K H ds x) : ∃ a, x = .ref a := let ⟨a, _, e, _⟩ := L; ⟨a, e⟩
theorem DatA.refl_len {xs : List V} (h : DatA K H ds xs) : xs.length = ds.length := h.length.symm
theorem atI_D {xs : List V} {i : Int} (h : DatA K H ds xs) (e : atI ds i = some d) : ∃ v, atI xs i = some v ∧ Dat K H d v := by
  unfold atI at e ⊢
  rw [← h.length]
  cases q : ixN ds.length i with
  | none => rw [q] at e; cases e
  | some j =>
    rw [q] at e
    obtain ⟨v, h1, h2⟩ := h.get' (show ds[j]? = some d from e)
    exact ⟨v, h1, h2⟩
/-- a list or a tuple of data -/
def SqD (K : PySem.W.Frag) (H : Hp) (ds : List Dm) (x : V) : Prop := LsD K H ds x ∨ Dat K H (.tup ds) x
theorem SqD.ex (h : SqD K H ds x) : ∃ a xs, x = .ref a ∧ (SqL K H a xs ∨ SqT K H a xs) ∧ DatA K H ds xs := by
  rcases h with ⟨a, xs, e, q, d⟩ | h
  · exact ⟨a, xs, e, .inl q, d⟩
  · obtain ⟨a, xs, e, q, d⟩ := h.tupI
    exact ⟨a, xs, e, .inr q, d⟩
end
def cutL (xs : List Dm) (lo hi : Option Int) : List Dm := (xs.drop (HT.sIx xs.length 0 lo)).take (HT.sIx xs.length xs.length hi - HT.sIx xs.length 0 lo)
section
variable {X : Cx}
/-- xs[i] -/
def rIxL' (K : PySem.W.Frag) : R2 := fun x y H Q => ∃ ds i d, SqD K H ds x ∧ y = .int i ∧ atI ds i = some d ∧ ∀ v, Dat K H d v → Q v H
theorem ix_DL : IxR X (rIxL' X.K) := by
  refine IxR.imp (ix_list.or ix_tup) fun x y H Q ⟨ds, i, d, h, ey, e, q⟩ => ?_
  obtain ⟨a, xs, rfl, hs, hd⟩ := h.ex
  obtain ⟨v, h1, h2⟩ := atI_D hd e
  rcases hs with hs | hs
  · exact .inl ⟨a, xs, i, v, rfl, ey, hs, h1, q v h2⟩
  · exact .inr ⟨a, xs, i, v, rfl, ey, hs, h1, q v h2⟩
/-- xs.append(e) -/
def rAppD (K : PySem.W.Frag) (T : Tb) : V → List V → Hp → VK → Prop := fun x vs H Q => ∃ a ds d y, x = .ref a ∧ vs = [y] ∧ LstW K H a ds ∧ Dat K H d y ∧ ds.length < sizeLine ∧ ∀ H', Go T [a] H H' → LstW K H' a (ds ++ [d]) → Q .non H'
theorem mt_appD (T : Tb) : MtR X "list.append" (rAppD X.K T) := by
  refine MtR.imp mt_append fun x vs H Q ⟨a, ds, d, y, ex, ev, L, hd, hz, q⟩ => ?_
  obtain ⟨xs, h, hx⟩ := L.ex
  have g : Go T [a] H (upd H a (.lst (xs ++ [y]))) := .setL h
  exact ⟨a, xs, y, ex, ev, h, by rw [← hx.length]; exact hz, q _ g ⟨_, upd_same, g.datA (hx.append (.one hd))⟩⟩
/-- len -/
def rLenL (K : PySem.W.Frag) : List V → Hp → VK → Prop := fun vs H Q => ∃ ds x, vs = [x] ∧ SqD K H ds x ∧ Q (.int ds.length) H
theorem call_lenL : CallR X (.builtin "len") (rLenL X.K) := by
  refine CallR.imp call_len_seq fun vs H Q ⟨ds, x, ev, h, q⟩ => ?_
  obtain ⟨a, xs, rfl, hs, hd⟩ := h.ex
  exact ⟨a, xs, ev, hs, by rw [← hd.length]; exact q⟩
/-- list(x) -/
def rListL (K : PySem.W.Frag) (T : Tb) : List V → Hp → VK → Prop := fun vs H Q => ∃ ds x, vs = [x] ∧ SqD K H ds x ∧ ∀ p H', H p = none → Go T [] H H' → LstW K H' p ds → Q (.ref p) H'
theorem call_listL (T : Tb) : CallR X (.type "list") (rListL X.K T) := by
  refine CallR.imp call_list_of fun vs H Q ⟨ds, x, ev, h, q⟩ => ?_
  obtain ⟨a, xs, rfl, hs, hd⟩ := h.ex
  refine ⟨a, xs, ev, hs, fun l hl => ?_⟩
  have g : Go T [] H (upd H l (.lst xs)) := .new hl
  exact q l _ hl g ⟨xs, upd_same, g.datA hd⟩
/-- tuple(x) -/
def rTupL (K : PySem.W.Frag) (T : Tb) : List V → Hp → VK → Prop := fun vs H Q => ∃ ds x, vs = [x] ∧ SqD K H ds x ∧ ∀ v H', Go T [] H H' → Dat K H' (.tup ds) v → Q v H'
theorem call_tupL (T : Tb) : CallR X (.type "tuple") (rTupL X.K T) := by
  refine CallR.imp call_tuple_of fun vs H Q ⟨ds, x, ev, h, q⟩ => ?_
  rcases h with ⟨a, xs, rfl, hs, hd⟩ | h
  · refine ⟨a, xs, ev, .inl ⟨hs, fun l hl => ?_⟩⟩
    have g : Go T [] H (upd H l (.tup xs)) := .new hl
    exact q _ _ g (.tup (.inl (.inl upd_same)) (g.datA hd))
  · obtain ⟨a, xs, rfl, hs, hd⟩ := h.tupI
    exact ⟨a, xs, ev, .inr ⟨hs, q _ _ .refl h⟩⟩
/-- xs[lo:hi] -/
def rSlD (K : PySem.W.Frag) (T : Tb) : V → Option Int → Option Int → Hp → VK → Prop := fun x lo hi H Q => ∃ ds, LsD K H ds x ∧ ∀ p H', H p = none → Go T [] H H' → LstW K H' p (cutL ds lo hi) → Q (.ref p) H'
theorem sl_D (T : Tb) : L2.SlR X (rSlD X.K T) := by
  refine SlR.imp sl_list fun x lo hi H Q ⟨ds, ⟨a, xs, ex, hs, hd⟩, q⟩ => ⟨a, xs, ex, hs, fun p hp => ?_⟩
  have g : Go T [] H (upd H p (.lst (cutV xs lo hi))) := .new hp
  refine q p _ hp g ⟨_, upd_same, g.datA ?_⟩
  unfold cutL cutV
  rw [hd.length]
  exact (hd.drop _).take _
/-- xs + ys -/
def rCatD (K : PySem.W.Frag) (T : Tb) : R2 := fun x y H Q => ∃ a b ds es, x = .ref a ∧ y = .ref b ∧ LstW K H a ds ∧ LstW K H b es ∧ ds.length + es.length ≤ sizeLine ∧ ∀ p H', H p = none → Go T [] H H' → LstW K H' p (ds ++ es) → Q (.ref p) H'
theorem op_catD (T : Tb) : OpR X (binaryOp .Add) (rCatD X.K T) := by
  refine OpR.imp op_cat fun x y H Q ⟨a, b, ds, es, ex, ey, L1, L2, hz, q⟩ => ?_
  obtain ⟨xs, h1, d1⟩ := L1.ex
  obtain ⟨ys, h2, d2⟩ := L2.ex
  refine ⟨a, b, xs, ys, ex, ey, h1, h2, by rw [← d1.length, ← d2.length]; exact hz, fun p hp => ?_⟩
  have g : Go T [] H (upd H p (.lst (xs ++ ys))) := .new hp
  exact q p _ hp g ⟨_, upd_same, g.datA (d1.append d2)⟩
/-- xs * n, xs of one item -/
theorem datA_rep {K : PySem.W.Frag} {H : Hp} {d : Dm} {x : V} (h : Dat K H d x) : ∀ n, DatA K H (List.replicate n d) (List.replicate n [x]).flatten
  | 0 => .nil
  | n + 1 => by
    rw [List.replicate_succ, List.replicate_succ, List.flatten_cons]
    exact .cons h (datA_rep h n)
def rRepD (K : PySem.W.Frag) (T : Tb) : R2 := fun x y H Q => ∃ a d n, x = .ref a ∧ y = .int (n : Nat) ∧ LstW K H a [d] ∧ n ≤ 1000 ∧ ∀ p H', H p = none → Go T [] H H' → LstW K H' p (List.replicate n d) → Q (.ref p) H'
theorem op_repD (T : Tb) : OpR X (binaryOp .Mult) (rRepD X.K T) := by
  refine OpR.imp op_rep fun x y H Q ⟨a, d, n, ex, ey, L1, hn, q⟩ => ?_
  obtain ⟨xs, h1, d1⟩ := L1.ex
  cases d1 with
  | cons hd hn' =>
    rename_i x0 _
    cases hn'
    refine ⟨a, n, _, ex, ey, h1, by omega, by omega, ?_, fun p hp => ?_⟩
    · rw [List.length_singleton, Int.toNat_natCast, Nat.one_mul]
      exact Nat.le_trans hn (by decide)
    · have g : Go T [] H (upd H p (.lst (List.replicate ((n : Int)).toNat [x0]).flatten)) := .new hp
      exact q p _ hp g ⟨_, upd_same, g.datA (by rw [Int.toNat_natCast]; exact datA_rep hd n)⟩
/-- xs[i] = e -/
def rSetD (K : PySem.W.Frag) (T : Tb) : TSet := fun x y v H Q => ∃ a ds i j d, x = .ref a ∧ y = .int i ∧ LstW K H a ds ∧ ixN ds.length i = some j ∧ Dat K H d v ∧ ∀ H', Go T [a] H H' → LstW K H' a (ds.set j d) → Q H'
theorem set_D (T : Tb) : PSet X (rSetD X.K T) := by
  refine PSet.imp set_list fun x y v H Q ⟨a, ds, i, j, d, ex, ey, L, hj, hd, q⟩ => ?_
  obtain ⟨xs, h, hx⟩ := L.ex
  have g : Go T [a] H (upd H a (.lst (xs.set j v))) := .setL h
  exact ⟨a, xs, i, j, ex, ey, h, by rw [← hx.length]; exact hj, q _ g ⟨_, upd_same, g.datA (hx.set j hd)⟩⟩
/-- (a, b), [a, b] -/
def tTupD (K : PySem.W.Frag) (T : Tb) (t : TA) : TE := fun σ H Q => t σ H fun xs H1 => ∃ ds, DatA K H1 ds xs ∧ ds.length ≤ sizeLine ∧ ∀ p H', H1 p = none → Go T [] H1 H' → Dat K H' (.tup ds) (.ref p) → Q (.ref p) H'
def tLstD (K : PySem.W.Frag) (T : Tb) (t : TA) : TE := fun σ H Q => t σ H fun xs H1 => ∃ ds, DatA K H1 ds xs ∧ ds.length ≤ sizeLine ∧ ∀ p H', H1 p = none → Go T [] H1 H' → LstW K H' p ds → Q (.ref p) H'
theorem PA.mono {es : List Expr} {t t' : TA} (h : PA X es t) (m : ∀ σ H Q, t' σ H Q → t σ H Q) : PA X es t' := ⟨fun pos pins s σ H Q I q => h.run pos pins s σ H Q I (m _ _ _ q)⟩
theorem pe_tupD (T : Tb) {es : List Expr} {t : TA} {pos : Pos} {x1} (h : PA X es t) : PE X (.Tuple es x1 pos) (tTupD X.K T t) := by
  refine ⟨fun pins s σ H Q I hq => ?_⟩
  refine wpAny_Tuple_spliced (thn (h.run pos pins s σ H _ I hq) fun us s1 ⟨xs, H1, I1, r, ds, hd, z, q⟩ => ⟨by rw [← r.length, ← hd.length]; exact z, ?_⟩)
  have hf : H1 s1.heap.objs.size = none := I1.hok.fresh (Nat.le_refl _)
  have g : Go T [] H1 (upd H1 s1.heap.objs.size (.tup xs)) := .new hf
  refine ⟨.ref s1.heap.objs.size, _, I1.laid (t' := s1.toks) (fun b u e => Heap.get?_push_of_some _ e) (Nat.le_refl _) ?_, rfl, q _ _ hf g (.tup (.inl (.inl upd_same)) (g.datA hd))⟩
  exact ⟨by rw [← hd.length]; exact z, us, r, ⟨_, Heap.get?_push_size _ rfl, rfl, _, rfl⟩⟩
theorem pe_lstD (T : Tb) {es : List Expr} {t : TA} {pos : Pos} (h : PA X es t) : PE X (.List es pos) (tLstD X.K T t) := by
  refine ⟨fun pins s σ H Q I hq => ?_⟩
  refine wpAny_List_spliced (thn (h.run pos pins s σ H _ I hq) fun us s1 ⟨xs, H1, I1, r, ds, hd, z, q⟩ => ⟨by rw [← r.length, ← hd.length]; exact z, ?_⟩)
  have hf : H1 s1.heap.objs.size = none := I1.hok.fresh (Nat.le_refl _)
  have g : Go T [] H1 (upd H1 s1.heap.objs.size (.lst xs)) := .new hf
  refine ⟨.ref s1.heap.objs.size, _, I1.laid (t' := s1.toks) (fun b u e => Heap.get?_push_of_some _ e) (Nat.le_refl _) ?_, rfl, q _ _ hf g ⟨_, upd_same, g.datA hd⟩⟩
  exact ⟨by rw [← hd.length]; exact z, us, 0, r, Heap.get?_push_size _ rfl⟩
end
/-! ### walks -/
/-- the i-th of the data -/
def YD (K : PySem.W.Frag) (ds : List Dm) : Nat → Hp → V → Hp → Prop := fun i H x H' => H' = H ∧ ∃ d, ds[i]? = some d ∧ Dat K H d x
section
variable {K : PySem.W.Frag} {w : World} {a : Addr} {ds : List Dm}
theorem walk_L : Walk (Itl K a) ds.length (fun H => LsD K H ds (.ref a)) (YD K ds) := by
  refine ⟨fun i H hi q => ?_, fun H q => ?_, fun i H x H' hi q y => ?_⟩ <;> (obtain ⟨b, xs, e, hs, hd⟩ := q; cases e)
  · obtain ⟨v, h1, _⟩ := hd.get' (List.getElem?_eq_getElem hi)
    exact ⟨xs, v, hs, h1⟩
  · exact ⟨xs, hs, Nat.le_of_eq hd.length.symm⟩
  · obtain ⟨d, h1, h2⟩ := hd.get (y.2 xs hs)
    exact ⟨y.1, d, h1, h2⟩
theorem walk_Tp : Walk (Itt K a) ds.length (fun H => Dat K H (.tup ds) (.ref a)) (YD K ds) := by
  refine ⟨fun i H hi q => ?_, fun H q => ?_, fun i H x H' hi q y => ?_⟩ <;> (obtain ⟨b, xs, e, hs, hd⟩ := q.tupI; cases e)
  · obtain ⟨v, h1, _⟩ := hd.get' (List.getElem?_eq_getElem hi)
    exact ⟨xs, v, hs, h1⟩
  · exact ⟨xs, hs, Nat.le_of_eq hd.length.symm⟩
  · obtain ⟨d, h1, h2⟩ := hd.get (y.2 xs hs)
    exact ⟨y.1, d, h1, h2⟩
theorem walk_keysD {o : Obj} {xs : List Ent} : Walk (Itx w a o xs) xs.length (fun H => H a = some (.frz o (DicO w a xs)) ∧ ∀ x ∈ xs, Dat K H x.1 x.2.1) (YD K (xs.map (·.1))) := by
  refine ⟨fun i H hi q => ⟨q.1, hi⟩, fun H q => ⟨q.1, Nat.le_refl _⟩, fun i H x H' hi q ⟨e, y, h1, h2⟩ => ⟨e, y.1, by rw [List.getElem?_map, h1]; rfl, ?_⟩⟩
  rw [h2]
  exact q.2 y (List.mem_of_getElem? h1)
/-- enumerate: a new pair of the place and the item -/
def YE (K : PySem.W.Frag) (T : Tb) (ds : List Dm) : Nat → Hp → V → Hp → Prop := fun i H v H' => ∃ d, ds[i]? = some d ∧ Go T [] H H' ∧ Dat K H' (.tup [.num i, d]) v
theorem walk_ED (T : Tb) : Walk (Itet K a) ds.length (fun H => Dat K H (.tup ds) (.ref a)) (YE K T ds) := by
  refine ⟨fun i H hi q => ?_, fun H q => ?_, fun i H x H' hi q y => ?_⟩ <;> (obtain ⟨b, xs, e, hs, hd⟩ := q.tupI; cases e)
  · obtain ⟨v, h1, _⟩ := hd.get' (List.getElem?_eq_getElem hi)
    exact ⟨xs, v, hs, h1⟩
  · exact ⟨xs, hs, hd.length.symm⟩
  · obtain ⟨p, z, h1, h2, h3, h4⟩ := y
    obtain ⟨d, h5, h6⟩ := hd.get (h4 xs hs)
    subst h1 h3
    have g : Go T [] H (upd H p (.tup [.int (i : Nat), z])) := .new h2
    exact ⟨d, h5, g, .tup (.inl (.inl upd_same)) (.cons (.num _) (.cons (g.dat h6) .nil))⟩
end
/-- behind a turn: P of the turn, the data so far, the heap -/
def LcS (K : PySem.W.Frag) (D : Addr) (P : Nat → List Dm → Hp → Prop) (i : Nat) (H : Hp) : Prop := ∃ ds, P i ds H ∧ LstW K H D ds
/-- the new item goes to the list -/
def LcN (K : PySem.W.Frag) (D : Addr) (P : Nat → List Dm → Hp → Prop) (i : Nat) : VK := fun y H4 => ∃ acc, H4 D = some (.lst acc) ∧ acc.length < sizeLine ∧ LcS K D P i (upd H4 D (.lst (acc ++ [y])))
theorem lcN {K : PySem.W.Frag} (T : Tb) {D : Addr} {P : Nat → List Dm → Hp → Prop} {i : Nat} {y : V} {H : Hp} {ds : List Dm} {d : Dm} (L : LstW K H D ds) (hv : Dat K H d y) (hz : ds.length < sizeLine) (q : ∀ H5, Go T [D] H H5 → LstW K H5 D (ds ++ [d]) → P i (ds ++ [d]) H5) : LcN K D P i y H := by
  obtain ⟨xs, h, hx⟩ := L.ex
  have g : Go T [D] H (upd H D (.lst (xs ++ [y]))) := .setL h
  have L5 : LstW K (upd H D (.lst (xs ++ [y]))) D (ds ++ [d]) := ⟨_, upd_same, g.datA (hx.append (.one hv))⟩
  exact ⟨xs, h, by rw [← hx.length]; exact hz, _, q _ g L5, L5⟩
/-- a list comprehension that gives data -/
theorem lc_D {K : PySem.W.Frag} (T : Tb) {J : It} {n : Nat} {G : Hp → Prop} {Y : Nat → Hp → V → Hp → Prop} (w : Walk J n G Y) {g : TG} {tt : TT} {te : TE} {vs : List Nat} {σ : L2.St} {H1 : Hp} {D : Addr} {Qd : Hp → Prop} (hD : H1 D = none) (P : Nat → List Dm → Hp → Prop)
    (h0 : ∀ H, Go T [] H1 H → LstW K H D [] → P 0 [] H) (hG : ∀ i ds H, i ≤ n → P i ds H → G H)
    (hs : ∀ i ds x H H', i < n → P i ds H → LstW K H D ds → Y i H x H' → g x (wipe σ vs) H' fun σ2 H2 => wipe σ2 vs = wipe σ vs ∧ tt σ2 H2 fun b H3 => if b = true then te σ2 H3 (LcN K D P (i + 1)) else LcS K D P (i + 1) H3)
    (hd : ∀ ds H, P n ds H → LstW K H D ds → Qd H) :
    ∃ W : Nat → Nat → Hp → Prop, (∃ m, W 0 m (upd H1 D (.lst []))) ∧ ∀ i m H, W i m H →
      (J.stop i H ∧ Qd H) ∨ (J.go i H ∧ ∃ Nx : Hp → Prop, (∀ H', Nx H' → ∃ m', m' < m ∧ W (i + 1) m' H') ∧ ∀ x H', J.yld i H x H' → g x (wipe σ vs) H' fun σ2 H2 => wipe σ2 vs = wipe σ vs ∧ tt σ2 H2 fun b H3 =>
        if b = true then te σ2 H3 fun y H4 => ∃ acc, H4 D = some (.lst acc) ∧ acc.length < sizeLine ∧ Nx (upd H4 D (.lst (acc ++ [y]))) else Nx H3) :=
  lc_it w (fun i H => LcS K D P i H) ⟨[], h0 _ (.new hD) ⟨[], upd_same, .nil⟩, ⟨[], upd_same, .nil⟩⟩ (fun i H hi ⟨ds, p, _⟩ => hG i ds H hi p) (fun i x H H' hi ⟨ds, p, L⟩ y => hs i ds x H H' hi p L y) fun H ⟨ds, p, L⟩ => hd ds H p L
/-- behind a turn of a dict comprehension -/
def DcS (K : PySem.W.Frag) (w : World) (D : Addr) (P : Nat → List (Dm × Dm) → Hp → Prop) (i : Nat) (H : Hp) : Prop := ∃ es, P i es H ∧ DicW K w H D es
/-- a dict comprehension of data -/
theorem dc_D {K : PySem.W.Frag} {w : World} (T : Tb) {J : It} {n : Nat} {G : Hp → Prop} {Y : Nat → Hp → V → Hp → Prop} (wk : Walk J n G Y) {g : TG} {tt : TT} {tk tv : TE} {vs : List Nat} {σ : L2.St} {H1 : Hp} {D : Addr} {Qd : Hp → Prop} (hD : H1 D = none) (hsys : (D == sysModules) = false) (P : Nat → List (Dm × Dm) → Hp → Prop)
    (h0 : ∀ H, Go T [] H1 H → DicW K w H D [] → P 0 [] H) (hG : ∀ i es H, i ≤ n → P i es H → G H)
    (hs : ∀ i es x H H', i < n → P i es H → DicW K w H D es → Y i H x H' → g x (wipe σ vs) H' fun σ2 H2 => wipe σ2 vs = wipe σ vs ∧ tt σ2 H2 fun b H3 => if b = true then taDic K w T tk tv D σ2 H3 (DcS K w D P (i + 1)) else DcS K w D P (i + 1) H3)
    (hd : ∀ es H, P n es H → DicW K w H D es → Qd H) :
    ∃ W : Nat → Nat → Hp → Prop, (∃ m, W 0 m (upd H1 D (DicO w D []))) ∧ ∀ i m H, W i m H → (J.stop i H ∧ Qd H) ∨
      (J.go i H ∧ ∃ Nx : Hp → Prop, (∀ H', Nx H' → ∃ m', m' < m ∧ W (i + 1) m' H') ∧ ∀ x H', J.yld i H x H' → g x (wipe σ vs) H' fun σ2 H2 => wipe σ2 vs = wipe σ vs ∧ tt σ2 H2 fun b H3 => if b = true then taDic K w T tk tv D σ2 H3 Nx else Nx H3) :=
  col_it (O := fun D => DicO w D []) wk (fun i H => DcS K w D P i H) ⟨[], h0 _ (.new hD) (dicW_new hsys), dicW_new hsys⟩ (fun i H hi ⟨es, p, _⟩ => hG i es H hi p) (fun i x H H' hi ⟨es, p, L⟩ y => hs i es x H H' hi p L y) fun H ⟨es, p, L⟩ => hd es H p L
end TG

/-! Sorts: of places; by a lambda (repr of the item; the item's number in a dict that a captured instance holds). -/
namespace TG
open PySem PySem.Spec L2 TGr LamX
open PyProof.Rows hiding St

/-! ### the items and what they stand for -/
def RelD (K : PySem.W.Frag) (H : Hp) (v : Value) (d : Dm) : Prop := ∃ x, RelV x v ∧ Dat K H d x
theorem each_of {K : PySem.W.Frag} {H : Hp} : ∀ {ds : List Dm} {xs : List V} {us : List Value}, DatA K H ds xs → Vals xs us → PySem.W.EachIs (RelD K H) us ds
  | [], _, _, r, q => by cases r; cases q; exact .nil
  | d :: ds, _, _, r, q => by
    cases r with
    | cons h1 h2 =>
      cases q with
      | cons q1 q2 => exact .cons ⟨_, q1, h1⟩ (each_of h2 q2)
theorem of_each {K : PySem.W.Frag} {H : Hp} : ∀ {us : List Value} {ds : List Dm}, PySem.W.EachIs (RelD K H) us ds → ∃ xs, DatA K H ds xs ∧ Vals xs us
  | _, _, .nil => ⟨[], .nil, .nil⟩
  | _, _, .cons ⟨x, h1, h2⟩ t => let ⟨xs, a, b⟩ := of_each t; ⟨x :: xs, .cons h2 a, .cons h1 b⟩
section
variable {X : Cx} {pins : List (Addr × Obj)} {σ : L2.St} {H : Hp} {s : Shared}
theorem each_reads (I : Inv X pins σ H s) : ∀ {us : List Value} {ds : List Dm}, PySem.W.EachIs (RelD X.K H) us ds → PySem.W.EachIs (fun v d => ∃ as, Reads s.heap v d.data as) us ds
  | _, _, .nil => .nil
  | _, _, .cons ⟨x, h1, h2⟩ t => .cons (Dp.reads I _ _ _ (Dat.dp _ _ h2) h1) (each_reads I t)
end
/-! ### sorted(xs), xs a list of places -/
abbrev Pl := Int × Int
def pd (p : Pl) : Dm := .tup [.num p.1, .num p.2]
def plLe (p q : Pl) : Bool := decide (p.1 < q.1 ∨ (p.1 = q.1 ∧ p.2 ≤ q.2))
theorem pd_inj {p q : Pl} (h : pd p = pd q) : p = q := by
  unfold pd at h
  injection h with h
  injection h with h1 h2
  injection h1 with h1
  injection h2 with h2 _
  injection h2 with h2
  exact Prod.ext h1 h2
theorem pd_depth (p : Pl) : (pd p).depth ≤ 8 := by
  show NestedKey.depth (.tup [.num p.1, .num p.2]) ≤ 8
  simp [NestedKey.depth, NestedKey.depthAll]
theorem pd_depth60 (p : Pl) : (pd p).depth ≤ 60 := Nat.le_trans (pd_depth p) (by decide)
theorem pd_data (p : Pl) : (pd p).data = .tuple [.int p.1, .int p.2] := by
  show NestedKey.data (.tup [.num p.1, .num p.2]) = _
  simp [NestedKey.data, NestedKey.datas]
section
variable {X : Cx}
def rSortP (K : PySem.W.Frag) (T : Tb) : List V → Hp → VK → Prop := fun vs H Q => ∃ (ps : List Pl) (x : V), vs = [x] ∧ LsD K H (ps.map pd) x ∧ ∀ p H', H p = none → Go T [] H H' → LstW K H' p ((ps.mergeSort plLe).map pd) → Q (.ref p) H'
theorem each_pl {K : PySem.W.Frag} {H : Hp} : ∀ {us : List Value} {ps : List Pl}, PySem.W.EachIs (RelD K H) us (ps.map pd) → PySem.W.EachIs (fun v p => RelD K H v (pd p)) us ps
  | [], [], _ => .nil
  | _ :: _, _ :: _, .cons h t => .cons h (each_pl t)
theorem each_pl' {K : PySem.W.Frag} {H : Hp} : ∀ {us : List Value} {ps : List Pl}, PySem.W.EachIs (fun v p => RelD K H v (pd p)) us ps → PySem.W.EachIs (RelD K H) us (ps.map pd)
  | _, _, .nil => .nil
  | _, _, .cons h t => .cons h (each_pl' t)
theorem cr_sortP (T : Tb) (hu : X.A.units + 10 < cLine) : CallR X (.builtin "sorted") (rSortP X.K T) := by
  intro pins s σ H vs us Q I rv h
  obtain ⟨ps, x, rfl, ⟨a, xs, rfl, hs, hd⟩, q⟩ := h
  obtain ⟨u, rfl, ru⟩ := vals1 rv
  obtain rfl : u = Value.ref a := ru
  obtain ⟨its, r, pl, hz⟩ := I.list hs
  have e := each_pl (each_of hd r)
  have er : PySem.W.EachIs (fun v p => ∃ as, Reads s.heap v (pd p).data as) its ps := e.mono fun v p ⟨x, h1, h2⟩ => Dp.reads I _ _ _ (Dat.dp _ _ h2) h1
  have hlen : ps.length ≤ sizeLine := by
    have h1 := hd.length
    rw [List.length_map] at h1
    rw [h1]
    exact hz
  have dp : ∀ p : Pl, (pd p).data.depth ≤ 8 := fun p => by rw [data_depth]; exact pd_depth p
  refine PySem.W.sorted_data (enc := fun p : Pl => (pd p).data) pl.isList e er (PySem.W.AllAlike.of fun b b' => by rw [pd_data, pd_data]; rfl) (PySem.W.Sortable.tuples fun b => ⟨_, _, pd_data b⟩) hlen (fun b _ => by have := dp b; omega) fun out hl ho => ?_
  have ele : PySem.W.dataLe false (fun p : Pl => (pd p).data) = plLe := by
    have e1 : (fun p : Pl => (pd p).data) = fun p => .tuple [.int p.1, .int p.2] := funext pd_data
    rw [e1, PySem.W.dataLe_ii]
    rfl
  rw [ele] at ho
  obtain ⟨ys, hy, rv⟩ := of_each (each_pl' ho)
  obtain ⟨ep, he'⟩ := PyProof.Rows.sortedAll_at s.heap its out.toArray
  have hp : H (s.heap.objs.size + 1) = none := I.hok.fresh (Nat.le_succ _)
  have g : Go T [] H (upd H (s.heap.objs.size + 1) (.lst ys)) := .new hp
  have hlen' : ys.length ≤ sizeLine := by
    rw [← hy.length, List.length_map, List.length_mergeSort]
    exact hlen
  exact ⟨.ref _, upd H (s.heap.objs.size + 1) (.lst ys), I.laid (t' := s.toks) (fun _ _ => PyProof.Rows.sortedAll_old) (Nat.le_succ _) ⟨hlen', out, ep, rv, he'⟩, rfl, q _ _ hp g ⟨ys, upd_same, g.datA hy⟩⟩
end
end TG

/-! Sorts by a lambda of one parameter. -/
namespace TG
open PySem PySem.Spec L2 TGr LamX
open PyProof.Rows hiding St

/-- a lambda's scope: one parameter x, captured names, globals -/
structure Lam1 (sc scope : Scope) (x : Str) : Prop where
  kind : scope.kind = .function
  co : scope.isCoroutine = false
  gen : scope.isGenerator = false
  par : scope.names.lookup x = some .local
  cell : ∀ y ∈ scope.names, y.2 ≠ .cell
  free : ∀ y ∈ scope.names, y.2 = .free → sc.names.lookup y.1 = some .cell ∨ sc.names.lookup y.1 = some .free
def lam1B (sc scope : Scope) (x : Str) : Bool :=
  decide (scope.kind = .function) && !scope.isCoroutine && !scope.isGenerator && decide (scope.names.lookup x = some .local) && scope.names.all fun y => !decide (y.2 = .cell) && (!decide (y.2 = .free) || decide (sc.names.lookup y.1 = some .cell) || decide (sc.names.lookup y.1 = some .free))
theorem lam1_by {sc scope : Scope} {x : Str} (h : lam1B sc scope x = true) : Lam1 sc scope x := by
  unfold lam1B at h
  simp only [Bool.and_eq_true, Bool.or_eq_true, Bool.not_eq_true', decide_eq_true_eq, decide_eq_false_iff_not, List.all_eq_true] at h
  obtain ⟨⟨⟨⟨h1, h2⟩, h3⟩, h4⟩, h5⟩ := h
  refine ⟨h1, h2, h3, h4, fun y hy => (h5 y hy).1, fun y hy e => ?_⟩
  rcases (h5 y hy).2 with (z | z) | z
  · exact absurd e z
  · exact .inl z
  · exact .inr z
section
variable {X : Cx}
/-- what the lambda's body does for an item d: it gives k d and keeps all that was there -/
def LamB (X : Cx) (scope : Scope) (body : Expr) (x : Str) (σ : L2.St) (k : Dm → PyData) (ok : Hp → Dm → Prop) : Prop :=
  ∀ (pins : List (Addr × Obj)) (H : Hp) (s : Shared) (A : Around) (v : Value) (d : Dm) (f c' L : Addr) (h₁ : Heap) (tk : Nat) (F : Value → Shared → Prop), Inv X pins σ H s → ok H d → RelD X.K H v d → A.guards = X.A.guards → A.units ≤ X.A.units + 10 →
    (∀ b o, s.heap.get? b = some o → h₁.get? b = some o) → h₁.Ns L (fun y => ([(x, v)] : List (Str × Value)).reverse.lookup y) →
    wpAny (model X.prog X.w) A (eval body (PySem.W.envX (X.env.qual ++ "<lambda>") scope L f (.ref c') (cloFrom X.env.cells scope.names [])))
      (fun u s' => ∃ h' tk', s' = { s with heap := h', toks := tk' } ∧ (∀ b o, s.heap.get? b = some o → h'.get? b = some o) ∧ Reads h' u (k d) []) F { s with heap := h₁, toks := tk }
/-- sorted(e, key=lambda x: body) -/
def tSortL (K : PySem.W.Frag) (T : Tb) (k : Dm → PyData) (ok : L2.St → Hp → Dm → Prop) (te : TE) : TE := fun σ H Q => te σ H fun v H1 => ∃ ds, LsD K H1 ds v ∧ (∀ d ∈ ds, ok σ H1 d) ∧ Tabs T H1 ∧
  ∀ p H', Go T [] H1 H' → LstW K H' p (ds.mergeSort (PySem.W.dataLe false k)) → Q (.ref p) H'
theorem pe_sortL {T : Tb} {c P : Addr} {params : Arguments} {body e : Expr} {scope : Scope} {x : Str} {k : Dm → PyData} {ok : L2.St → Hp → Dm → Prop} {te : TE} {p kpos lpos pos : Pos} (hg : Gl X "sorted") (hm : X.mg "sorted" = none) (he : PE X e te)
    (TB : TabB X.base X.mg c P) (hcode : X.env.code = .ref c) (hmT : (P, X.env.qual ++ "<lambda>") ∈ T) (hu : ∀ p ∈ T, p.1 = P → p.2 = X.env.qual ++ "<lambda>") (hh : X.A.depth < recursionLimit) (hun : X.A.units + 40 < cLine) (L : Lam1 X.env.scope scope x) (hdef : defaultsOf params X.env = ([], []))
    (hbind : ∀ (q : Str) (cl : List (Str × Addr)) (pm cv ctv v : Value), bindArgs (PySem.W.kla_fn "<lambda>" q params body scope cl pm cv ctv) ⟨[v], []⟩ = pure [(x, v)])
    (hk : (∀ d, ∃ i, k d = .int i) ∨ ∀ d, ∃ z, k d = .str z) (hB : ∀ σ, LamB X scope body x σ k (ok σ)) (okG : ∀ {σ H H' d}, ok σ H d → Go T [] H H' → ok σ H' d)
    (hst : starEach [e] X.env = [(false, eval e X.env)] := by rfl)
    (hkw : backToKw pos (keywordEach [⟨some ("key" : Str), .Lambda params body scope lpos, kpos⟩] X.env) = [(some ("key" : Str), do let v ← eval (.Lambda params body scope lpos) X.env; standAt pos; pure v)] := by rfl) :
    PE X (.Call (.Name "sorted" p) [e] [⟨some ("key" : Str), .Lambda params body scope lpos, kpos⟩] pos) (tSortL X.K T k ok te) := by
  refine ⟨fun pins s σ H Q I h => ?_⟩
  refine wpAny_Call_Name_kw (ld_blt I hg hm boot_sorted ?_)
  refine PyProof.Rows.callWith_kw ?_ (by rw [hst]; rfl) (by rw [hst]; rfl) (by rw [hkw]; rfl) (by rw [hkw]; rfl)
  rw [hst, hkw]
  show wpAny _ _ (spliced ((false, eval e X.env) :: backTo pos [])) _ _ s
  refine Calls.spliced_cons (thn (he.run pins s σ H _ I h) fun u s1 ⟨v, H1, I1, ru, ds, hs, hok, hT, q⟩ => Calls.spliced_nil ?_)
  show wpAny _ _ (evalAll [do let v ← eval (.Lambda params body scope lpos) X.env; standAt pos; pure v]) _ _ s1
  have hfree : ∀ y ∈ scope.names, y.2 = .free → ∃ c, X.env.cells.lookup y.1 = some c := fun y hy e => (L.free y hy e).elim (fun k => I1.ok.has _ (.inl k)) fun k => I1.ok.has _ (.inr k)
  refine wpAny_evalAll_cons (wpAny_bind (lam_make2 I1 TB hcode hmT hu hT hdef hfree fun f c' pm ctv H2 s2 I2 eN T2 hf hfn hfr hco => wpAny_bind (wpAny_standAt (wpAny_pure ?_))))
  refine wpAny_evalAll_nil ?_
  have g2 : Go T [] H1 H2 := .ext eN fun _ => T2
  obtain ⟨a, xs, rfl, hs', hd⟩ := hs
  obtain rfl : u = Value.ref a := ru
  show wpAny _ _ (call (.builtin "sorted") [.ref a] [(("key" : Str), .ref f)]) _ _ s2
  obtain ⟨its, r, pl, hz⟩ := I2.list (g2.sqL hs' (by simp))
  have e := each_of (g2.datA hd) r
  have hl : ds.length = xs.length := hd.length
  have hal : PySem.W.AllAlike (ds.map k) := fun z hz z' hz' => by
    obtain ⟨d, _, rfl⟩ := List.mem_map.mp hz
    obtain ⟨d', _, rfl⟩ := List.mem_map.mp hz'
    rcases hk with hk | hk <;> (obtain ⟨i, h1⟩ := hk d; obtain ⟨j, h2⟩ := hk d'; rw [h1, h2]; rfl)
  have hso : PySem.W.Sortable (ds.map k) := PySem.W.Sortable.others (enc := k) (bs := ds) fun d => by
    rcases hk with hk | hk <;> (obtain ⟨i, h1⟩ := hk d; rw [h1]; exact ⟨fun z => PyData.noConfusion z, fun xs z => PyData.noConfusion z⟩)
  have hdp : ∀ d, (k d).depth = 0 := fun d => by
    rcases hk with hk | hk <;> (obtain ⟨i, h1⟩ := hk d; rw [h1]; simp [PyData.depth])
  obtain ⟨⟨oc, vs, t, hoc, hdc, hvc⟩, _, _⟩ := I2.hok c' _ hco
  refine PySem.W.sorted_key_data (R := RelD X.K H2) (b := false) k pl.isList e hal hso (by rw [hl]; exact hz) (fun d _ => by rw [hdp d]; omega) (PyProof.Rows.ksk_s1 _ _) (fun _ => PyProof.Rows.ksk_l1 _ _) (fun x => PyProof.Rows.ksk_t1 f x) (fun v d hR hx h tk hkp => ?_) fun out cc h' tk hkp hn ho hlen hE => ?_
  · -- one call of the lambda
    have I3 : Inv X pins σ H2 { s2 with heap := h, toks := tk } := I2.kept hkp
    refine wpAny_call (codeAny_mono (R := fun r s' => ∃ u, r = .ok (.ret u) ∧ PySem.W.KeyPure (k d) { s2 with heap := h, toks := tk } u s') (PySem.W.kla_callFunE (by show X.A.depth < recursionLimit; exact hh) (hkp _ _ hf) rfl L.co L.gen rfl ⟨c', oc, vs, t, rfl, hkp _ _ hoc, hdc, hvc⟩ ?_) fun r s' hq => ?_)
    · rw [hbind]
      refine wpAny_pure (wpAny_newFunctionEnv L.cell (fun y hy => ?_) (fun h₁ hns hsb => ⟨I3.nolimit.fresh _ hsb, ?_⟩) L.kind)
      · have : y = (x, v) := by simpa using hy
        rw [this]
        exact L.par
      · have up : ∀ b o, h.get? b = some o → h₁.get? b = some o := fun b o e => hsb.extBut b o (Nat.ne_of_lt (Heap.lt_size e)) (Heap.get?_push_of_some _ e)
        refine PySem.W.kla_codeExpr ?_
        refine wpAny_mono (hB σ pins H2 { s2 with heap := h, toks := tk } _ v d f c' h.objs.size h₁ (tk + [(x, v)].length) _ I3 (okG (hok d hx) g2) hR rfl ?_ up hns) (fun u s' ⟨h'', tk'', e1, kp, rd⟩ => ⟨u, rfl, h'', tk'', e1, kp, rd⟩) fun _ _ z => z
        show X.A.units + 1 + 1 + 3 ≤ _
        omega
    · obtain ⟨u, rfl, kp⟩ := hq
      exact kp
  · obtain ⟨ys, hy, rv⟩ := of_each hE
    have hp : H2 (s2.heap.objs.size + 1) = none := I2.hok.fresh (Nat.le_succ _)
    have g : Go T [] H2 (upd H2 (s2.heap.objs.size + 1) (.lst ys)) := .new hp
    have hlen' : ys.length ≤ sizeLine := by
      rw [← hy.length, List.length_mergeSort, hl]
      exact hz
    exact ⟨.ref _, upd H2 (s2.heap.objs.size + 1) (.lst ys), I2.laid (t' := tk) hkp (Nat.le_succ _) ⟨hlen', out, cc, rv, ho⟩, rfl, q _ _ (g2.trans g) ⟨ys, upd_same, g.datA hy⟩⟩
/-! ### the bodies -/
/-- d's text is known to the model -/
def Shw (d : Dm) : Prop := d.data.showable = true ∧ d.data.shown.length ≤ sizeLine ∧ d.depth ≤ 60
theorem noDict : ∀ d : Dm, d.data.hasDict = false
  | .none => by simp [NestedKey.data, PyData.hasDict]
  | .num i => by simp [NestedKey.data, PyData.hasDict]
  | .text x => by simp [NestedKey.data, PyData.hasDict]
  | .tup ds => by
    have h := noDicts ds
    simp only [NestedKey.data, PyData.hasDict]
    exact h
where
  noDicts : ∀ ds : List Dm, PyData.hasDictAll (NestedKey.datas ds) = false
    | [] => by simp [NestedKey.datas, PyData.hasDictAll]
    | d :: ds => by
      have h1 := noDict d
      have h2 := noDicts ds
      simp [NestedKey.datas, PyData.hasDictAll, h1, h2]
theorem lamB_repr {scope : Scope} {x : Str} {σ : L2.St} {p1 p2 p3 : Pos} (hm : X.mg "repr" = none) (hk : scope.kind = .function) (hr : scope.names.lookup ("repr" : Str) = some NameKind.globalImplicit) (hx : scope.names.lookup x = some .local) (hgd : X.A.guards = some []) (hun : X.A.units + 90 < cLine)
    (hd : (x == ("__debug__" : Str)) = false := by decide) : LamB X scope (.Call (.Name "repr" p1) [.Name x p2] [] p3) x σ (fun d => .str d.data.shown) (fun _ d => Shw d) := by
  intro pins H s A v d f c' L h₁ tk F I hok hR hg hA up hns
  obtain ⟨z, rz, hz⟩ := hR
  have I1 : Inv X pins σ H { s with heap := h₁, toks := tk } := I.kept up
  obtain ⟨mb, b1, b2⟩ := I1.mod.blt
  refine wpAny_Call_Name_kw (Calls.Name_function_global hk hr (Calls.loadGlobal_builtin (mg := X.mg) (mb := mb) (I1.mod.glob.keeps I1.bk) hm (b1.keeps I1.bk) ((b2 _ (by decide)).trans boot_repr) ?_) (by decide))
  refine PyProof.Rows.callWith_builtin1 ?_ rfl rfl
  show wpAny _ _ (spliced ((false, eval (.Name x p2) _) :: backTo p3 [])) _ _ _
  refine Calls.spliced_cons (wpAny_Name (wpAny_loadName_local hk hx hns (v := v) (by simp) (Calls.spliced_nil ?_)) hd)
  obtain ⟨h1, h2, h3⟩ := hok
  have fin : ∀ h' t tk', (∀ b o, h₁.get? b = some o → h'.get? b = some o) → ∃ h'' tk'', ({ s with heap := h', toks := tk' } : Shared) = { s with heap := h'', toks := tk'' } ∧ (∀ b o, s.heap.get? b = some o → h''.get? b = some o) ∧ Reads h'' (.str d.data.shown t) (.str d.data.shown) [] :=
    fun h' t tk' kp => ⟨h', tk', rfl, fun b o e => kp b o (up b o e), .str _ _⟩
  cases hz with
  | non =>
    obtain rfl : v = .none := rz
    exact PySem.P.repr_of_none (fin h₁ _ _ fun _ _ e => e)
  | num i =>
    obtain ⟨t, rfl⟩ := rz
    have h1' : i.natAbs.log2 < 1920 := by simpa [NestedKey.data, PyData.showable] using h1
    exact PySem.P.repr_of_int h1' (fin h₁ _ _ fun _ _ e => e)
  | text y _ =>
    obtain ⟨t, rfl⟩ := rz
    exact PySem.P.repr_of_str (fin h₁ _ _ fun _ _ e => e) h2
  | @tup a xs ds hs hd =>
    obtain rfl : v = Value.ref a := rz
    obtain ⟨as, rd⟩ := Dp.reads I1 _ (V.ref a) (.ref a) (Dat.dp _ _ (.tup hs hd)) rfl
    refine repr_of_reads' rd h1 (fun q => ?_) (by rw [hg, hgd]) ?_ (fun _ _ e => e) (fun h' u tk' kp => fin h' u tk' kp) h2
    · rw [noDict] at q
      cases q
    · rw [data_depth]
      omega
/-- d[k], the state said -/
theorem dic_subA {A : Around} {F : Value → Shared → Prop} {pins : List (Addr × Obj)} {σ : L2.St} {H : Hp} {s : Shared} {a : Addr} {xs : List Ent} {y v : V} {u : Value} {k : Dm} {value slice : Expr} {Q : Value → Shared → Prop} (I : Inv X pins σ H s) (D : Dic X.K X.w H a xs) (hy : Dat X.K H k y) (hd : k.depth ≤ 8) (ry : RelV y u) (hv : valX xs k = some v)
    (hs : NoSl slice) (h : ∀ w' t, RelV v w' → Q w' { s with toks := t }) (hu : A.units + 9 < cLine := by omega) : wpAny (model X.prog X.w) A (subscriptTail value slice (.ref a) u) Q F s := by
  have hT := D.typeIs I
  obtain ⟨ys, r, d, km⟩ := D.raw I
  have hk := Dat.is I k y u hy ry
  have rel := r.val k
  rw [hv] at rel
  unfold subscriptTail
  refine wpAny_bind ?_
  rw [getitemInPython_of_ne hT.not_modules]
  refine wpAny_bind (wpAny_specialOf hT PySem.F.slot_dict_getitem.lookup ?_)
  have get : wpAny (model X.prog X.w) A (getItem (.ref a) u) (fun r s₃ => wpAny (model X.prog X.w) A (letTemporaryGo value (.ref a) r >>= fun _ => pure r) Q F s₃) F s := by
    cases e : (look ys k).map (·.2) with
    | none => rw [e] at rel; exact rel.elim
    | some w' =>
      rw [e] at rel
      unfold getItem
      try with_reducible refine wpAny_holding ?_
      refine wpAny_bind (wpAny_sequenceKey d.typeIs (by decide) ?_)
      refine wpAny_bind (wpAny_callSpecial?_slot (name := Str.ofString "__getitem__") d.typeIs PySem.F.slot_dict_getitem
        (wpAny_call_entry PySem.F.slot_dict_getitem d.typeIs PySem.F.entry_dict_getitem ?_ (PySem.F.args_dict_getitem_2 _ _)))
      show wpAny _ _ (dictGet a u >>= _) _ _ s
      refine wpAny_bind (get_mix (by simp only [Around.in1_units]; omega) hk hd d km ?_)
      rw [e]
      exact wpAny_pure ⟨w', rfl, wpAny_pure (wpAny_bind (wpAny_letTemporaryGo (wpAny_pure (h w' _ rel))))⟩
  have fin : wpAny (model X.prog X.w) A (subscripted slice false (.ref a) u) (fun r s₃ => wpAny (model X.prog X.w) A (letTemporaryGo value (.ref a) r >>= fun _ => pure r) Q F s₃) F s := by
    rw [hs _ _]
    exact wpAny_operating get
  first
    | exact wpAny_pure (wpAny_bind fin)
    | exact wpAny_bind (wpAny_pure (wpAny_bind fin))
    | exact wpAny_bind fin
/-- the number of the item in the dict that the captured instance holds -/
def OkRank (K : PySem.W.Frag) (w : World) (i : Nat) (fld : Str) (rk : Dm → Int) : L2.St → Hp → Dm → Prop := fun σ H d => ∃ a C dx fs rd es, σ[i]? = some (some (V.ref a)) ∧ H a = some (.ins C dx fs) ∧ Cls K C ∧ NoAttr K C fld ∧ fs.lookup fld = some (.ref rd) ∧ DicD K w H rd es ∧ look es d = some (.num (rk d)) ∧ d.depth ≤ 8
theorem OkRank.go {K : PySem.W.Frag} {w : World} {i : Nat} {fld : Str} {rk : Dm → Int} {σ : L2.St} {H H' : Hp} {d : Dm} {T : Tb} (h : OkRank K w i fld rk σ H d) (g : Go T [] H H') : OkRank K w i fld rk σ H' d := by
  obtain ⟨a, C, dx, fs, rd, es, h1, h2, h3, h4, h5, h6, h7, h8⟩ := h
  exact ⟨a, C, dx, fs, rd, es, h1, g.ins h2 (by simp), h3, h4, h5, h6.go g (by simp), h7, h8⟩
theorem lamB_rank {scope : Scope} {x y fld : Str} {σ : L2.St} {i : Nat} {rk : Dm → Int} {p1 p2 p3 p4 : Pos} (hk : scope.kind = .function) (hx : scope.names.lookup x = some .local) (hy : scope.names.lookup y = some .free) (hN : X.N[i]? = some y) (hv : Vis X.env.scope y) (hun : X.A.units + 40 < cLine)
    (hloc : X.env.scope.names.lookup y ≠ some .local)
    (hb : ∀ env, attributeBase (.Name y p1) fld env (eval (.Name y p1) env) = eval (.Name y p1) env := by intro _; rfl) (hs : NoSl (.Name x p3) := by intro _ _; rfl)
    (hd : (x == ("__debug__" : Str)) = false := by decide) (hd2 : (y == ("__debug__" : Str)) = false := by decide) (hcd : (y == ("__classdict__" : Str)) = false := by decide) :
    LamB X scope (.Subscript (.Attribute (.Name y p1) fld p2) (.Name x p3) p4) x σ (fun d => .int (rk d)) (OkRank X.K X.w i fld rk σ) := by
  intro pins H s A v d f c' L h₁ tk F I hok hR hg hA up hns
  obtain ⟨a, C, dx, fs, rd, es, e1, e2, c, n, l, D, e3, e4⟩ := hok
  obtain ⟨z, rz, hz⟩ := hR
  have I1 : Inv X pins σ H { s with heap := h₁, toks := tk } := I.kept up
  -- the captured name
  obtain ⟨cy, hcy, hcell⟩ : ∃ cy, X.env.cells.lookup y = some cy ∧ h₁.IsCell cy (some (.ref a)) := by
    obtain ⟨m, hn, hl⟩ := I1.loc
    obtain ⟨u, r, q⟩ := hl i y _ hN e1 hv
    obtain rfl : u = Value.ref a := r
    rcases q with ⟨k, _⟩ | ⟨_, c, e, z⟩
    · exact absurd k hloc
    · exact ⟨c, e, z⟩
  have hcl : (cloFrom X.env.cells scope.names []).lookup y = some cy := by
    obtain ⟨c2, h2⟩ := mem_lookup (cloFrom_has (cells := X.env.cells) (acc := []) (PySem.mem_of_lookup hy))
    rcases cloFrom_mem (PySem.mem_of_lookup h2) with hm | ⟨_, h3⟩
    · cases hm
    · rw [h2, h3, hcy]
      rfl
  refine Subscript_ ?_
  rw [show eval (.Attribute (.Name y p1) fld p2) _ = _ from rfl]
  refine attr_of (hb _) (wpAny_Name (wpAny_loadName_free hk hy hcl hcell ?_ hcd) hd2)
  obtain ⟨mA, O, r, _, _, _⟩ := ins_get I1.hok e2
  obtain ⟨u, hu, ru⟩ := RelO.some_of (v := V.ref rd) (o := mA fld) (by rw [← l]; exact r fld)
  obtain rfl : u = Value.ref rd := ru
  refine L2.get_map I1.kIn O (c.get fld) c.hd n hu rfl ?_
  refine wpAny_Name (wpAny_loadName_local hk hx (m := fun y => ([(x, v)] : List (Str × Value)).reverse.lookup y) (v := v) hns (by simp) ?_) hd
  obtain ⟨xs, Dx, en⟩ := D.ex
  have I2 : Inv X pins σ H { s with heap := h₁, toks := tk + 1 } := I1.tok _
  obtain ⟨w', hw, hw2⟩ := en.val e3
  obtain rfl := hw2.numI
  exact dic_subA I2 Dx hz e4 rz hw hs fun w' t r' => by
    obtain ⟨t', rfl⟩ := r'
    exact ⟨h₁, t, rfl, up, .int _ _⟩
end
end TG

/-! Promises of defs that are told that no repr runs; the end of the row. -/
namespace TG
open PySem PySem.Spec L2 TGr LamX
open PyProof.Rows hiding St

/-- as FnOk, where no repr runs around -/
structure FnG (P : Program) (w : World) (K : PySem.W.Frag) (mg : Str → Option Value) (base : Heap) (k : Nat) (f : Addr) (fd : FuncData) (ps : List Str) (sp : Sp) : Prop where
  len : ∀ vs H Q E, sp vs H Q E → vs.length = ps.length
  run : ∀ (A : Around) (outer : List Env) (s : Shared) (H : Hp) (args : Args) (us : List Value) (vs : List V) (Q : VK) (E : XK), Room k A → A.guards = some [] → Env0 P w K mg base A outer s H → BindsTo s fd args (ps.zip us) → Vals vs us → sp vs H Q E →
    codeAny (model P w) A (.call (.ref f) args) (CR CX0 outer P w H s Q E) s
section
variable {P : Program} {w : World} {K : PySem.W.Frag} {mg : Str → Option Value} {base : Heap}
theorem Fun.okG {x qual : Str} {st : Stmt} {f : Addr} {fd : FuncData} {N ps : List Str} {k : Nat} {sp : Sp} (F : Fun K x qual st f fd) (S : FnScope N ps (defScope st)) (len : ∀ vs H Q E, sp vs H Q E → vs.length = ps.length)
    (hbody : ∀ (cdv : Value) (A : Around) (outer : List Env) (s : Shared) (H : Hp) (vs : List V) (Q : VK) (E : XK), Room k (A.deeper (envOfC qual (defScope st) s.heap.objs.size f cdv)) → A.guards = some [] → sp vs H Q E →
      ∃ t, PSs (cxOf CX0 P w K mg base N qual (defScope st) f cdv A outer s H E).nox (defBody st) t ∧ t { nx := fun _ H' => Q .non H', rt := Q } (start N vs) H) : FnG P w K mg base (k + 1) f fd ps sp := by
  obtain ⟨oc, od, kV, doc, pm, an, cdv, ct, osl, rfl, lk, hcd⟩ := F.ex
  refine ⟨len, fun A outer s H args us vs Q E hr hg e0 hb r hsp => run_ofS lk hcd S hr e0 hb r (len _ _ _ _ hsp) fun hr' => ?_⟩
  obtain ⟨t, h, q⟩ := hbody cdv A outer s H vs Q E hr' hg hsp
  exact ⟨t, h.nox, q⟩
end
section
variable {X : Cx} {k : Nat} {f C : Addr} {fd : FuncData} {ps : List Str} {sp : Sp} {E : XK} {x : Str} {p pos : Pos} {e : Expr} {es : List Expr} {t : TA}
theorem back_ok {pins : List (Addr × Obj)} {σ : L2.St} {H : Hp} {s : Shared} {Q : VK} (I : Inv X pins σ H s) {r : Result} {s' : Shared} (hq : CR CX0 X.stack X.prog X.w H s Q E r s') :
    ∃ u, r = .ok (.ret u) ∧ EP X pins σ Q u s' := by
  cases r with
  | error e => exact hq.elim
  | ok fl =>
    cases fl with
    | ret u => exact ⟨u, rfl, I.after hq⟩
    | next => exact False.elim hq
    | brk => exact False.elim hq
    | cont => exact False.elim hq
theorem pe_callG (F : FnG X.prog X.w X.K X.mg X.base k f fd ps sp) (hr : Room k X.A) (hgd : X.A.guards = some []) (hg : Gl X x) (hm : X.mg x = some (.ref f)) (hk : PySem.W.keepIn X.K (.ref f) = true) (hb : Binds X.K fd ps [])
    (ha : PA X (e :: es) t) (hdb : (x == ("__debug__" : Str)) = false := by decide) (he : starEach (e :: es) X.env = (false, eval e X.env) :: starEach es X.env := by rfl) (hpl : (backTo pos (starEach es X.env)).any (·.1) = false := by rfl) :
    PE X (.Call (.Name x p) (e :: es) [] pos) (tCall sp [] E t) := by
  refine ⟨fun pins s σ H Q I h => ?_⟩
  refine wpAny_Call_Name_kw (ld_glob I hg hm ?_ hdb)
  refine PySem.W.callWith_K (h₀ := X.base) I.ok.mod.kin hk (thn (ha.run pos pins s σ H _ I h) fun us s1 ⟨vs, H1, I1, r, q⟩ => ⟨I1.kIn, ?_⟩) he hpl
  have hl : (us ++ []).length = ps.length := by rw [List.append_nil, ← r.length]; have := F.len _ _ _ _ q; simpa using this
  have q' : sp vs H1 Q E := by simpa using q
  refine wpAny_call (codeAny_mono (F.run X.A X.stack s1 H1 ⟨us, []⟩ us vs Q E hr hgd I1.env0 (by simpa using hb s1 us I1.kIn hl) r q') fun r s' hq => ?_)
  obtain ⟨u, rfl, h⟩ := back_ok I1 hq
  exact h
theorem pe_makeG (M : Mk X.K C f) (F : FnG X.prog X.w X.K X.mg X.base k f fd ps sp) (hr : Room (k + 1) X.A) (hgd : X.A.guards = some []) (hg : Gl X x) (hm : X.mg x = some (.ref C)) (hb : Binds X.K fd ps [])
    (ha : PA X (e :: es) t) (hdb : (x == ("__debug__" : Str)) = false := by decide) (he : starEach (e :: es) X.env = (false, eval e X.env) :: starEach es X.env := by rfl) (hpl : (backTo pos (starEach es X.env)).any (·.1) = false := by rfl) :
    PE X (.Call (.Name x p) (e :: es) [] pos) (tMake C sp [] E t) := by
  refine ⟨fun pins s σ H Q I h => ?_⟩
  refine wpAny_Call_Name_kw (ld_glob I hg hm ?_ hdb)
  refine PySem.W.callWith_K (h₀ := X.base) I.ok.mod.kin M.kp (thn (ha.run pos pins s σ H _ I h) fun us s1 ⟨vs, H1, I1, r, q⟩ => ⟨I1.kIn, ?_⟩) he hpl
  have hq := q (s1.heap.objs.size + 1) s1.heap.objs.size (I1.hok.fresh (Nat.le_succ _)) (I1.hok.fresh (Nat.le_refl _)) (Nat.ne_of_lt (Nat.lt_succ_self _))
  rw [List.append_nil] at hq
  have I2 := Inv.made (C := C) I1
  have r2 : Vals (V.ref (s1.heap.objs.size + 1) :: vs) (Value.ref (s1.heap.objs.size + 1) :: us) := .cons rfl r
  have hl : (Value.ref (s1.heap.objs.size + 1) :: us ++ []).length = ps.length := by
    have e := r2.length
    rw [F.len _ _ _ _ hq] at e
    rw [List.append_nil]
    exact e.symm
  have gd : (X.A.under (.builtin "type.__call__" ⟨.ref C :: us, []⟩)).guards = some [] := by
    have h1 : (Code.builtin "type.__call__" ⟨.ref C :: us, []⟩).isGuard = false := by
      show guardIds.contains "type.__call__" = false
      decide +kernel
    show pushGuards (if (Code.builtin "type.__call__" ⟨.ref C :: us, []⟩).isGuard = true then [Code.builtin "type.__call__" ⟨.ref C :: us, []⟩] else []) X.A.guards = some []
    rw [if_neg (by rw [h1]; exact Bool.false_ne_true)]
    exact hgd
  refine wpAny_call (make_map (f := f) I1.kIn M.makes M.init (beq_iff_eq.mp M.fn) (codeAny_mono (F.run _ X.stack _ _ ⟨Value.ref (s1.heap.objs.size + 1) :: us, []⟩ (Value.ref (s1.heap.objs.size + 1) :: us) _ _ E (hr.make C us []) gd
    (I2.env0.make C us []) (by simpa using hb _ (Value.ref (s1.heap.objs.size + 1) :: us) I2.kIn hl) r2 hq) fun r s' hq' => ?_))
  obtain ⟨u, rfl, v, H', I3, rv, ev, q3⟩ := back_ok I2 hq'
  subst ev
  exact ⟨rv, ⟨V.ref (s1.heap.objs.size + 1), H', I3, rfl, q3⟩⟩
end
/-! ### the end of a law row -/
/-- what is tracked at the law's call: the script (where it isn't the module's own), the tables -/
def lawH (K : PySem.W.Frag) (cs : List (Addr × Addr)) (a : Addr) (o : Obj) (ns : List Int) : Hp := fun b => if b = a then (if (K.lookup a).isSome then none else some (.frz o (.lst (ns.map V.int)))) else if b ∈ cs.map (·.2) then some (.tbl #[]) else none
theorem law_callG {P : Program} {w : World} {K : PySem.W.Frag} {mg mb : Str → Option Value} {k : Nat} {fa a : Addr} {cs : List (Addr × Addr)} {fd : FuncData} {x : Str} {sp : Sp} {s₁ : Shared} {vs : List Value} {ns : List Int}
    (KX : K.In s₁.heap) (hns : s₁.heap.Ns mainGlobals mg) (hb : s₁.heap.Ns builtinsNs mb) (hbb : ∀ x : Str, x ≠ "__name__" → mb x = bootBuiltins x) (hlim : s₁.heap.NoLimit) (hg : s₁.gens = #[])
    (hT : ∀ p ∈ cs, s₁.heap.get? p.2 = some { cls := .none, data := .fields #[] }) (nT : ∀ p ∈ cs, K.lookup p.2 = none) (C : ∀ p ∈ cs, PySem.W.CodeHd s₁.heap p.1 p.2)
    (hbm : ∃ (bm : Addr) (ob : Obj), mg "__builtins__" = some (.ref bm) ∧ bm ≠ builtinsNs ∧ s₁.heap.get? bm = some ob ∧ ob.cls = .type "module" ∧ ob.dict = some builtinsNs ∧ ob.data = .plain)
    (ha : s₁.heap.get? a = some { cls := .type "list", data := .seq vs.toArray }) (hi : IntsAre vs ns) (hl : ns.length ≤ sizeLine) (hr : Room k callerA)
    (F : ∀ base : Heap, K.In base → base.Ns mainGlobals mg → (∀ p ∈ cs, TabB base mg p.1 p.2) → FnG P w K mg base k fa fd [x] sp) (hbind : ∀ (s : Shared) (u : Value), BindsTo s fd ⟨[u], []⟩ [(x, u)])
    (hsp : ∀ H : Hp, (∀ p ∈ cs, H p.2 = some (.tbl #[])) → SqL K H a (ns.map V.int) → sp [.ref a] H (fun v _ => v = .bl true) fun _ _ _ => False) :
    codeAny (model P w) callerA (.call (.ref fa) ⟨[.ref a], []⟩) (fun r s' => r = .ok (.ret (.bool true)) ∧ OldK s₁.heap s'.heap ∧ s'.os = s₁.os ∧ AllBare s'.gens) s₁ := by
  have isT : ∀ b : Addr, b ∈ cs.map (·.2) → s₁.heap.get? b = some { cls := .none, data := .fields #[] } := fun b hb => by
    obtain ⟨p, hp, rfl⟩ := List.mem_map.mp hb
    exact hT p hp
  have memT : ∀ p ∈ cs, p.2 ∈ cs.map (·.2) := fun p hp => List.mem_map.mpr ⟨p, hp, rfl⟩
  have aT : a ∉ cs.map (·.2) := fun z => by
    have q := isT a z
    rw [ha] at q
    have := congrArg Obj.data (Option.some.inj q)
    cases this
  obtain ⟨H, eH⟩ : ∃ H, lawH K cs a { cls := .type "list", data := .seq vs.toArray } ns = H := ⟨_, rfl⟩
  -- what is tracked, by its place
  have atA : H a = if (K.lookup a).isSome then none else some (.frz { cls := .type "list", data := .seq vs.toArray } (.lst (ns.map V.int))) := by rw [← eH]; exact if_pos rfl
  have atT : ∀ b ∈ cs.map (·.2), H b = some (.tbl #[]) := fun b hb => by
    have : b ≠ a := fun z => aT (z ▸ hb)
    rw [← eH]
    unfold lawH
    rw [if_neg this, if_pos hb]
  have els : ∀ b u, H b = some u → (b = a ∧ K.lookup a = none ∧ u = .frz { cls := .type "list", data := .seq vs.toArray } (.lst (ns.map V.int))) ∨ (b ∈ cs.map (·.2) ∧ u = .tbl #[]) := fun b u e => by
    by_cases h1 : b = a
    · subst h1
      rw [atA] at e
      cases hk : K.lookup b with
      | none => rw [hk] at e; cases e; exact .inl ⟨rfl, rfl, rfl⟩
      | some o => rw [hk] at e; cases e
    · by_cases h2 : b ∈ cs.map (·.2)
      · rw [atT b h2] at e
        cases e
        exact .inr ⟨h2, rfl⟩
      · rw [← eH] at e
        unfold lawH at e
        rw [if_neg h1, if_neg h2] at e
        cases e
  have rv := vals_ints hi
  have lenV := hi.length
  have hok : HOk P w H s₁.heap := fun b u e => by
    rcases els b u e with ⟨rfl, _, rfl⟩ | ⟨h2, rfl⟩
    · exact ⟨ha, by rw [List.length_map]; exact hl, vs, _, rv, ha⟩
    · exact isT b h2
  -- what is not of these two kinds is not tracked
  have free : ∀ {b : Addr} {o : Obj}, s₁.heap.get? b = some o → (∀ z n, o.data ≠ .seq z n) → o.data ≠ .fields #[] → H b = none := fun {b o} e h1 h2 => by
    cases q : H b with
    | none => rfl
    | some u =>
      rcases els b u q with ⟨rfl, _, _⟩ | ⟨h3, _⟩
      · rw [ha] at e; cases e; exact (h1 _ _ rfl).elim
      · rw [isT b h3] at e; cases e; exact (h2 rfl).elim
  have nsB : ∀ {b : Addr} {m : Str → Option Value}, s₁.heap.Ns b m → (hidT s₁.heap H).Ns b m := fun ⟨o, es, ep, e, d, r⟩ => ⟨o, es, ep, hidT_get e (free e (fun z n q => by rw [d] at q; cases q) fun q => by rw [d] at q; cases q), d, r⟩
  have inB : K.In (hidT s₁.heap H) := fun b o e => hidT_get (KX b o e) (by
    cases q : H b with
    | none => rfl
    | some u =>
      rcases els b u q with ⟨rfl, h2, _⟩ | ⟨h3, _⟩
      · rw [h2] at e; cases e
      · obtain ⟨p, hp, rfl⟩ := List.mem_map.mp h3
        rw [nT p hp] at e; cases e)
  have notT : ∀ {b : Addr} {o : Obj} {p : Addr × Addr}, p ∈ cs → s₁.heap.get? b = some o → o.data ≠ .fields #[] → b ≠ p.2 := fun hp e hd z => by
    rw [z, hT _ hp] at e
    cases e
    exact hd rfl
  have TB : ∀ p ∈ cs, TabB (hidT s₁.heap H) mg p.1 p.2 := fun p hp => by
    obtain ⟨og, eg, epg, h1, hd1, _⟩ := id hns
    refine ⟨?_, ?_, notT hp h1 fun z => by rw [hd1] at z; cases z⟩
    · obtain ⟨o, us, file, tf, flags, tg, inF, text, tt, e1, r1, r2, r3, rest⟩ := C p hp
      exact ⟨o, us, file, tf, flags, tg, inF, text, tt, hidT_get e1 (free e1 (fun z n q => by rw [r2] at q; cases q) fun q => by rw [r2] at q; cases q; simp at r3), r1, r2, r3, rest⟩
    · obtain ⟨bm, ob, b1, b2, b3, b4, b5, b6⟩ := hbm
      have nG : bm ≠ mainGlobals := fun q => by
        rw [q, h1] at b3
        cases b3
        rw [hd1] at b6
        cases b6
      exact ⟨bm, ob, b1, b2, nG, notT hp b3 (fun z => by rw [b6] at z; cases z), hidT_get b3 (free b3 (fun z n q => by rw [b6] at q; cases q) fun q => by rw [b6] at q; cases q), b4, b5, b6⟩
  have mod : L2.Mod K mg (hidT s₁.heap H) := ⟨inB, nsB hns, ⟨mb, nsB hb, hbb⟩, let ⟨mc, h1, h2⟩ := hlim; ⟨mc, nsB h1, h2⟩⟩
  have e0 : Env0 P w K mg (hidT s₁.heap H) callerA [] s₁ H := ⟨rfl, mod, fun b o e => of_hidT e, Nat.le_of_eq (hidT_size _ _), trivial, fun b hb => (nomatch hb), hok, .of_eq hg⟩
  have hS : SqL K H a (ns.map V.int) := by
    cases hk : K.lookup a with
    | none => exact .inl (.inr ⟨_, by rw [atA, hk]; rfl⟩)
    | some o =>
      have e := KX a o hk
      rw [ha] at e
      cases e
      exact .inr ⟨_, vs.toArray, _, hk, rfl, rfl, rfl, by rw [List.size_toArray, lenV]; exact hl, by simpa using rv⟩
  refine codeAny_mono ((F _ inB (nsB hns) TB).run callerA [] s₁ H ⟨[.ref a], []⟩ [.ref a] [.ref a] _ _ hr rfl e0 (hbind s₁ (.ref a)) (.cons rfl .nil) (hsp H (fun p hp => atT _ (memT p hp)) hS)) fun r s' h => ?_
  cases r with
  | error e => exact h.elim
  | ok fl =>
    cases fl with
    | next => exact False.elim h
    | brk => exact False.elim h
    | cont => exact False.elim h
    | ret u =>
      obtain ⟨v, H', os, bare, un, hok', r', q⟩ := h
      obtain rfl : v = .bl true := q
      obtain rfl : u = Value.bool true := r'
      have key : ∀ b o, b ∉ cs.map (·.2) → s₁.heap.get? b = some o → s'.heap.get? b = some o := fun b o nb e => by
        cases q : H b with
        | none => exact un.keep b o e q (fun z => nomatch z) (by simp)
        | some u =>
          rcases els b u q with ⟨rfl, _, rfl⟩ | ⟨h3, _⟩
          · obtain ⟨e2, _⟩ := hok' _ _ (un.frzs _ _ _ q)
            rw [ha] at e; cases e
            exact e2
          · exact absurd h3 nb
      have grown : ∀ p ∈ cs, ∃ more : Array Value, s'.heap.get? p.2 = some { cls := .none, data := .fields more } := fun p hp => by
        obtain ⟨more, z⟩ := un.tbls p.2 #[] (atT _ (memT p hp))
        exact ⟨_, hok' p.2 _ z⟩
      refine ⟨rfl, ⟨fun b o e => ?_, fun b o e => ?_⟩, os, bare⟩ <;> by_cases hb : b ∈ cs.map (·.2)
      · obtain ⟨p, hp, rfl⟩ := List.mem_map.mp hb
        obtain ⟨more, hm⟩ := grown p hp
        rw [hT p hp] at e
        cases e
        exact .inr (.inl ⟨((C p hp).tab (hT p hp)).isCodeTable, rfl, #[], more, rfl, by rw [Array.empty_append]; exact hm⟩)
      · exact .inl (key b o hb e)
      · obtain ⟨p, hp, rfl⟩ := List.mem_map.mp hb
        obtain ⟨more, hm⟩ := grown p hp
        exact ⟨_, hm⟩
      · exact ⟨o, key b o hb e⟩
/-- what is known of the law's promise at the head's heap h -/
def LawAtG (l : PySem.W.OpenLaw) (w : World) (K : PySem.W.Frag) (k n : Nat) (x : Str) (mg : Str → Option Value) (fa : Addr) (h : Heap) : Prop :=
  ∃ (fd : FuncData) (cs : List (Addr × Addr)) (sp : Sp), (∀ p ∈ cs, h.get? p.2 = some { cls := .none, data := .fields #[] }) ∧ (∀ p ∈ cs, K.lookup p.2 = none) ∧ (∀ p ∈ cs, PySem.W.CodeHd h p.1 p.2) ∧ (∀ (s : Shared) (u : Value), BindsTo s fd ⟨[u], []⟩ [(x, u)]) ∧
    (∀ (H : Hp) (a : Addr) (ns : List Int), ns.length ≤ n → (∀ z ∈ ns, Builtin.Int.intBits z ≤ 1048576) → (∀ p ∈ cs, H p.2 = some (.tbl #[])) → SqL K H a (ns.map V.int) → sp [.ref a] H (fun v _ => v = .bl true) fun _ _ _ => False) ∧
    ∀ base : Heap, K.In base → base.Ns mainGlobals mg → (∀ p ∈ cs, TabB base mg p.1 p.2) → FnG l.prog w K mg base k fa fd [x] sp
theorem walk_ofG {l : PySem.W.OpenLaw} {n k : Nat} {q : Program} {loose : List Str} {XP : (Str → Option Value) → Heap → Prop} {YP : World → Heap → Prop} {d : DefRec} {x : Str}
    (hn : l.most = some n) (hn2 : n ≤ sizeLine) (hdf : d.params.defaults = []) (hr : Room k callerA)
    (F : ∀ (w : World) (mg : Str → Option Value) (fa : Addr) (h : Heap), YP w h → h.Ns mainGlobals mg → mg d.name = some (.ref fa) → ∃ K : PySem.W.Frag, K.In h ∧ LawAtG l w K k n x mg fa h) :
    PySem.W.WalkO q loose XP YP l.row.toRowW d [] (fun f vs => PySem.call f vs) := by
  refine Att.attach_callB hn hdf fun w s₀ s₁ mg mb fa o pm cd doc a vs ns G Y ho hd hcd hmg hobj hints hlen hbits hg => ?_
  obtain ⟨K, KX, fd, cs, sp, hT, nT, C, hb, hsp, hF⟩ := F w mg fa _ Y G.T.g hmg
  exact law_callG KX G.T.g G.T.b G.T.builtins G.T.nolimit hg hT nT C G.T.bmain hobj hints (Nat.le_trans hlen hn2) hr hF hb fun H hH hS => hsp H a ns hlen hbits hH hS
end TG

/-! Sets of places of any number up to 300: what goes in was given (nothing else is told of them). -/
namespace TG
open PySem PySem.Spec L2 TGr LamX
open PyProof.Rows hiding St

/-! ### the round of i -> 5 i + 1, the masks up to 511 -/
def MkR (m : Nat) : Prop := m = 7 ∨ m = 31 ∨ m = 127 ∨ m = 511
def orb (m : Nat) : Nat → Nat → List Nat
  | _, 0 => []
  | i, n + 1 => i :: orb m ((i * 5 + 1) % (m + 1)) n
theorem lcgI_step (m i : Nat) : ∀ k, lcgI m i (k + 1) = lcgI m ((i * 5 + 1) % (m + 1)) k
  | 0 => rfl
  | k + 1 => by
    show (lcgI m i (k + 1) * 5 + 1) % (m + 1) = (lcgI m ((i * 5 + 1) % (m + 1)) k * 5 + 1) % (m + 1)
    rw [lcgI_step m i k]
theorem orb_mem {m : Nat} : ∀ (n i j : Nat), j ∈ orb m i n → ∃ k, k < n ∧ lcgI m i k = j
  | 0, _, _, h => nomatch h
  | n + 1, i, j, h => by
    rcases List.mem_cons.mp h with h | h
    · exact ⟨0, Nat.succ_pos _, h.symm⟩
    · obtain ⟨k, h1, h2⟩ := orb_mem n _ j h
      exact ⟨k + 1, Nat.succ_lt_succ h1, by rw [lcgI_step]; exact h2⟩
theorem lcgI_sum (m i a : Nat) : ∀ k, lcgI m (lcgI m i a) k = lcgI m i (a + k)
  | 0 => rfl
  | k + 1 => by
    show (lcgI m (lcgI m i a) k * 5 + 1) % (m + 1) = (lcgI m i (a + k) * 5 + 1) % (m + 1)
    rw [lcgI_sum m i a k]
theorem orb_full {m : Nat} (hm : MkR m) : (List.range (m + 1)).all (fun j => (orb m 0 (m + 1)).contains j) = true ∧ lcgI m 0 (m + 1) = 0 := by
  rcases hm with rfl | rfl | rfl | rfl <;> exact ⟨by decide +kernel, by decide +kernel⟩
theorem meet0 {m : Nat} (hm : MkR m) {j : Nat} (hj : j ≤ m) : ∃ k, k ≤ m ∧ lcgI m 0 k = j := by
  have h := List.all_eq_true.mp (orb_full hm).1 j (List.mem_range.mpr (Nat.lt_succ_of_le hj))
  obtain ⟨k, h1, h2⟩ := orb_mem _ _ _ (List.contains_iff_mem.mp h)
  exact ⟨k, Nat.le_of_lt_succ h1, h2⟩
theorem meetI {m : Nat} (hm : MkR m) {i j : Nat} (hi : i ≤ m) (hj : j ≤ m) : ∃ k, k ≤ m ∧ lcgI m i k = j := by
  obtain ⟨a, ha, rfl⟩ := meet0 hm hi
  obtain ⟨b, hb, rfl⟩ := meet0 hm hj
  by_cases c : a ≤ b
  · exact ⟨b - a, by omega, by rw [lcgI_sum]; congr 1; omega⟩
  · refine ⟨m + 1 - a + b, by omega, ?_⟩
    have e : a + (m + 1 - a + b) = m + 1 + b := by omega
    rw [lcgI_sum, e, ← lcgI_sum, (orb_full hm).2]
theorem runR {m : Nat} (hm : MkR m) (h : Int) {j : Nat} (hj : j ≤ m) : ∃ n, n ≤ m + 12 ∧ runI m (SetTable.bits h) n = j := by
  obtain ⟨k, hk, e⟩ := meetI hm (runI_le m (SetTable.bits h) 12) hj
  exact ⟨12 + k, by omega, by rw [runI_tail (bits_lt h)]; exact e⟩
theorem wayR {m : Nat} {h : Int} {k : Nat} : way m h k ≤ m := by
  have hi : SetTable.bits h % (m + 1) ≤ m := Nat.le_of_lt_succ (Nat.mod_lt _ (Nat.succ_pos _))
  have r := runEnd_bd hi
  have q := nth_in (m := m) k (runAt m (SetTable.bits h % (m + 1)) (SetTable.bits h)) (by
    show SetTable.bits h % (m + 1) + (SetTable.runEnd m (SetTable.bits h % (m + 1)) - SetTable.bits h % (m + 1)) ≤ m
    omega)
  show (nth m (runAt m (SetTable.bits h % (m + 1)) (SetTable.bits h)) k).j ≤ m
  omega
/-- the first free place of the way -/
theorem firstR {m : Nat} (hm : MkR m) (l : List Nat) (hl : l.length ≤ m) (h : Int) : ∃ K, K < 10 * SetTable.turns m ∧ way m h K ∉ l ∧ ∀ k, k < K → way m h k ∈ l := by
  obtain ⟨j, hj, hn⟩ := st_missing l (m + 1) (Nat.lt_succ_of_le hl)
  obtain ⟨n, hn1, e⟩ := runR hm h (Nat.le_of_lt_succ hj)
  obtain ⟨k, hk, e2⟩ := run_nth m (SetTable.bits h) n
  have ek : way m h k = j := by
    show (nth m (runAt m (SetTable.bits h % (m + 1)) (SetTable.bits h)) k).j = j
    rw [e2]
    exact e
  obtain ⟨K, h1, h2, h3⟩ := st_least (p := fun k => way m h k ∉ l) k (by rw [ek]; exact hn)
  exact ⟨K, by unfold SetTable.turns; omega, h2, fun k' hk' => Classical.byContradiction (h3 k' hk')⟩

/-! ### laying anew -/
/-- who sits: as many as have come, each by a number below theirs -/
structure OwnR (m n : Nat) (owner : Array (Option Nat)) : Prop where
  sz : owner.size = m + 1
  lt : ∀ j k, j ≤ m → oAt owner j = some k → k < n
  ps : ∃ ps : List Nat, ps.length = n ∧ ps.Nodup ∧ (∀ j ∈ ps, j ≤ m) ∧ ∀ j, j ≤ m → (oAt owner j ≠ none ↔ j ∈ ps)
theorem OwnR.init (m : Nat) : OwnR m 0 (Array.replicate (m + 1) none) where
  sz := by simp
  lt := fun j k hj e => by
    rw [oAt_init hj] at e
    cases e
  ps := ⟨[], rfl, List.nodup_nil, fun _ z => (nomatch z), fun j hj => by rw [oAt_init hj]; simp⟩
theorem OwnR.step {m n : Nat} {owner : Array (Option Nat)} (hm : MkR m) (W : OwnR m n owner) (hl : n ≤ m) (h : Int) :
    ∃ j, SetTable.layClean.free m owner (SetTable.turns m) (SetTable.bits h % (m + 1)) (SetTable.bits h) = some j ∧ OwnR m (n + 1) (owner.setIfInBounds j (some n)) := by
  obtain ⟨ps, p1, p2, p3, p4⟩ := W.ps
  obtain ⟨j0, h0, hn0⟩ := st_missing ps (m + 1) (by omega)
  have hj0 : oAt owner j0 = none := Classical.byContradiction fun z => hn0 ((p4 j0 (Nat.le_of_lt_succ h0)).mp z)
  obtain ⟨r, hr, e⟩ := runR hm h (Nat.le_of_lt_succ h0)
  have hw : way m h (off m (SetTable.bits h % (m + 1)) (SetTable.bits h) r) = j0 := by
    show (nth m (runAt m (SetTable.bits h % (m + 1)) (SetTable.bits h)) (off m (SetTable.bits h % (m + 1)) (SetTable.bits h) r)).j = j0
    rw [nth_off, itL_run]
    exact e
  obtain ⟨K, k1, k2, k3⟩ := st_least (p := fun k => oAt owner (way m h k) = none) _ (by rw [hw]; exact hj0)
  have hjm : way m h K ≤ m := wayR
  have hjs : way m h K < owner.size := by rw [W.sz]; exact Nat.lt_succ_of_le hjm
  have hself := oAt_set_self (some n) hjs
  refine ⟨way m h K, free_spec m owner (SetTable.turns m) r _ _ K (by unfold SetTable.turns; omega) k1 (fun k hk => ?_) ?_, by rw [Array.size_setIfInBounds]; exact W.sz, fun j k hj e => ?_, way m h K :: ps, by rw [List.length_cons, p1], ?_, fun j hj => ?_, fun j hj => ?_⟩
  · cases z : oAt owner (nth m (runAt m (SetTable.bits h % (m + 1)) (SetTable.bits h)) k).j with
    | none => exact absurd z (k3 k hk)
    | some _ => rfl
  · rw [show oAt owner (nth m (runAt m (SetTable.bits h % (m + 1)) (SetTable.bits h)) K).j = none from k2] <;> rfl
  · by_cases c : j = way m h K
    · rw [c, hself] at e
      cases e
      exact Nat.lt_succ_self _
    · rw [oAt_set_ne _ c] at e
      exact Nat.lt_succ_of_lt (W.lt j k hj e)
  · exact List.nodup_cons.mpr ⟨fun z => ((p4 _ hjm).mpr z) k2, p2⟩
  · rcases List.mem_cons.mp hj with z | z
    · rw [z]; exact hjm
    · exact p3 j z
  · by_cases c : j = way m h K
    · rw [c, hself]
      exact ⟨fun _ => List.mem_cons_self, fun _ z => nomatch z⟩
    · rw [oAt_set_ne _ c, p4 j hj, List.mem_cons]
      exact ⟨.inr, fun z => z.resolve_left c⟩
theorem foldR {m : Nat} (hm : MkR m) : ∀ (rest : List Int) (n : Nat) (owner : Array (Option Nat)), OwnR m n owner → n + rest.length ≤ m → ∃ owner', rest.foldl (stepF m) (some (owner, n)) = some (owner', n + rest.length) ∧ OwnR m (n + rest.length) owner'
  | [], n, owner, W, _ => ⟨owner, rfl, W⟩
  | h :: rest, n, owner, W, hl => by
    rw [List.length_cons] at hl ⊢
    obtain ⟨j, e, W'⟩ := W.step hm (by omega) h
    obtain ⟨owner', f, W2⟩ := foldR hm rest (n + 1) _ W' (by omega)
    have ea : n + 1 + rest.length = n + (rest.length + 1) := by omega
    rw [ea] at f W2
    exact ⟨owner', by rw [List.foldl_cons, stepF_some e]; exact f, W2⟩
theorem relaidR (t : SetTable) {hs : Array Int} {wanted M : Nat} (hw : SetTable.sizeAbove wanted - 1 = M) (hM : MkR M) (hn : hs.size ≤ M) :
    ∃ t' order, t.relaid hs wanted = some (t', order) ∧ order.size = hs.size ∧ (∀ i ∈ order.toList, i < hs.size) ∧ Ris t'.place.toList ∧ t'.place.size = hs.size ∧ (∀ x ∈ t'.place.toList, x ≤ M) ∧ t'.mask = M ∧ t'.led = t.led ∧ t'.plain = t.plain ∧ t'.dummies = #[] := by
  obtain ⟨owner, f, W⟩ := foldR hM hs.toList 0 (Array.replicate (M + 1) none) (OwnR.init M) (by rw [Array.length_toList]; omega)
  rw [Nat.zero_add] at f W
  have hlt : hs.toList.length = hs.size := rfl
  have e : SetTable.layClean M hs = some owner := by
    rw [layClean_eq, f] <;> rfl
  have hr : t.relaid hs wanted = some (tabOf t M owner, ((liveOf M owner).map (·.2)).toArray) := by
    rw [relaid_eq, hw, e] <;> rfl
  have ris := ris_live (fun j => owner.getD j none) (List.range (M + 1)) (by
    unfold Ris
    first | exact List.pairwise_lt_range | exact List.pairwise_lt_range _)
  have r1 : Ris ((liveOf M owner).map (·.1)) := ris.1
  have nd : ((liveOf M owner).map (·.1)).Nodup := List.Pairwise.imp (fun h => Nat.ne_of_lt h) r1
  have hlen : (liveOf M owner).length = hs.size := by
    obtain ⟨ps, p1, p2, p3, p4⟩ := W.ps
    have a := nat_nodup_len ((liveOf M owner).map (·.1)) ps nd fun x hx => by
      obtain ⟨⟨y, k⟩, hq, rfl⟩ := List.mem_map.mp hx
      obtain ⟨b1, b2⟩ := (mem_live W.sz).1 hq
      exact (p4 y b1).mp (by rw [b2]; exact fun z => nomatch z)
    have b := nat_nodup_len ps ((liveOf M owner).map (·.1)) p2 fun x hx => by
      cases z : oAt owner x with
      | none => exact absurd z ((p4 x (p3 x hx)).mpr hx)
      | some k => exact List.mem_map.mpr ⟨(x, k), (mem_live W.sz).2 ⟨p3 x hx, z⟩, rfl⟩
    rw [List.length_map, p1] at a
    rw [List.length_map, p1] at b
    omega
  refine ⟨tabOf t M owner, ((liveOf M owner).map (·.2)).toArray, hr, ?_, fun i hi => ?_, r1, ?_, fun x hx => ?_, rfl, rfl, rfl, rfl⟩
  · rw [List.size_toArray, List.length_map]
    exact hlen
  · obtain ⟨⟨y, k⟩, hq, rfl⟩ := List.mem_map.mp (show i ∈ (liveOf M owner).map (·.2) from hi)
    obtain ⟨b1, b2⟩ := (mem_live W.sz).1 hq
    exact W.lt y k b1 b2
  · show ((liveOf M owner).map (·.1)).toArray.size = hs.size
    rw [List.size_toArray, List.length_map]
    exact hlen
  · exact Nat.le_of_lt_succ (List.mem_range.mp (ris.2 x hx))
end TG

/-! Adding to such a set; set(xs). -/
namespace TG
open PySem PySem.Spec L2 TGr LamX
open PyProof.Rows hiding St

section
variable {P : Program} {w : World} {A : Around} {E : Value → Shared → Prop} {s : Shared}
/-- the set at a: its entries are the tuples of L -/
structure SetW (P : Program) (w : World) (h : Heap) (a : Addr) (L : List (Addr × List Int)) (es : Array (Int × Value)) (ep : Nat) (t : SetTable) : Prop where
  ob : ∃ o, h.get? a = some o ∧ o.ExactSet ∧ o.data = .set es ep t
  rows : es.toList = rowsOf P w L
  ris : Ris t.place.toList
  dm : t.dummies = #[]
  sz : t.place.size = L.length
  bd : ∀ x ∈ t.place.toList, x ≤ t.mask
  mok : MkR t.mask
  tup : ∀ p ∈ L, IsT P w h p.2 p.1
  plain : t.plain = true
  led : w.params.followText "set-order" = true ∨ t.led = true
  room : L.length * 5 < t.mask * 3
variable {a : Addr} {L : List (Addr × List Int)} {es : Array (Int × Value)} {ep : Nat} {t : SetTable}
theorem rows_size (h : es.toList = rowsOf P w L) : es.size = L.length := by
  have h := congrArg List.length h
  unfold rowsOf at h
  rw [Array.length_toList, List.length_map] at h
  exact h
theorem fitsR (hs : t.place.size = L.length) (hd : t.dummies = #[]) (hr : es.size = L.length) (hl : L.length ≤ t.mask) : t.fits es.size = true := by
  unfold SetTable.fits SetTable.fill
  rw [hd, Bool.and_eq_true, beq_iff_eq, decide_eq_true_eq]
  show t.place.size = es.size ∧ t.place.size + 0 ≤ t.mask
  omega
theorem SetW.fits (R : SetW P w s.heap a L es ep t) : t.fits es.size = true := fitsR R.sz R.dm (rows_size R.rows) (by have := R.room; omega)
theorem entryR (h : es.toList = rowsOf P w L) {i : Nat} {p : Addr × List Int} (hp : L[i]? = some p) : es[i]? = some (thash P w p.2, Value.ref p.1) := by
  rw [← Array.getElem?_toList, h]
  unfold rowsOf
  rw [List.getElem?_map, hp] <;> rfl
theorem mkR_odd {m : Nat} (h : MkR m) : m % 2 = 1 := by
  rcases h with rfl | rfl | rfl | rfl <;> rfl
/-- the search, from the c-th step of the way on -/
theorem searchW (R : SetW P w s.heap a L es ep t) {x : Addr} {k : List Int} (hx : IsT P w s.heap k x) (hu : A.units < cLine) {K : Nat} (hKf : K < 10 * SetTable.turns t.mask)
    (hK : way t.mask (thash P w k) K ∉ t.place.toList) (hKb : ∀ c, c < K → way t.mask (thash P w k) c ∈ t.place.toList) {Q : SetFound → Shared → Prop} (hin : Q (.there none) s) (hout : Q (.free (way t.mask (thash P w k) K) false) s) :
    ∀ (f c : Nat) (stand : Option SetTable.Probe), stand.getD (t.probeStart (thash P w k)) = nth t.mask (runAt t.mask (SetTable.bits (thash P w k) % (t.mask + 1)) (SetTable.bits (thash P w k))) c → c ≤ K → K - c < f →
      wpAny (model P w) A (setSearchFrom a (.ref x) (thash P w k) true f stand) Q E s
  | 0, c, stand, _, _, hf => absurd hf (Nat.not_lt_zero _)
  | f + 1, c, stand, hst, hc, hf => by
    obtain ⟨p0, ep0⟩ : ∃ p0, runAt t.mask (SetTable.bits (thash P w k) % (t.mask + 1)) (SetTable.bits (thash P w k)) = p0 := ⟨_, rfl⟩
    obtain ⟨o, ho, hex, hd⟩ := R.ob
    rw [setSearchFrom_succ]
    refine wpAny_bind (wpAny_setState_of ho hd R.fits ?_)
    dsimp only
    refine wp_if_neg (by unfold SetTable.gaveWay; rw [mkR_odd R.mok]; decide) ?_
    try refine wpAny_bind (wpAny_pure ?_)
    have nod : ∀ (n : Nat) (p : SetTable.Probe), p.dummy = none → (nth t.mask p n).dummy = none := by
      intro n
      induction n with
      | zero => intro p h; exact h
      | succ n ih =>
        intro p h
        refine ih (adv t.mask p) ?_
        unfold adv
        split <;> exact h
    have dn : (nth t.mask p0 c).dummy = none := nod c p0 (by rw [← ep0]; rfl)
    have sh : ∀ q, nth t.mask (nth t.mask p0 c) q = nth t.mask p0 (c + q) := fun q => (nth_add t.mask c _ q).symm
    have wy : ∀ q, (nth t.mask (nth t.mask p0 c) q).j = way t.mask (thash P w k) (c + q) := fun q => by
      rw [sh, ← ep0]
    have spec := go_spec t R.ris R.dm (fun i => (es[i]?.map (·.1)).getD 0) (thash P w k) (10 * SetTable.turns t.mask) (K - c) _ dn (by omega) (fun q hq => by rw [wy]; exact hKb (c + q) (by omega)) (by rw [wy, show c + (K - c) = K by omega]; exact hK)
    rw [ep0] at hst
    rcases spec with ⟨q, i, hq, hi, hh, hno, hpr⟩ | ⟨hno, hpr⟩
    · have hpr' : t.probe (fun i => (es[i]?.map (·.1)).getD 0) (thash P w k) (stand.getD (t.probeStart (thash P w k))) = some (.candidate (way t.mask (thash P w k) (c + q)) i (nth t.mask p0 (c + (q + 1)))) := by
        rw [hst, ← wy, ← sh]
        exact hpr
      rw [hpr']
      dsimp only
      rw [wy] at hi
      have hil : i < L.length := by
        have h1 : i < t.place.toList.length := (List.getElem?_eq_some_iff.mp hi).1
        have h2 := R.sz
        rw [Array.length_toList] at h1
        omega
      obtain ⟨p, hp⟩ : ∃ p, L[i]? = some p := ⟨_, List.getElem?_eq_getElem hil⟩
      have rest : wpAny (model P w) A (searchRest a (.ref x) (thash P w k) true f es t (way t.mask (thash P w k) (c + q)) i (nth t.mask p0 (c + (q + 1)))) Q E s := by
        unfold searchRest
        rw [entryR R.rows hp]
        dsimp only
        refine wpAny_bind (wpAny_holding (wpAny_eqBool_tuple hu (R.tup p (List.mem_of_getElem? hp)) hx ?_))
        refine wpAny_bind (wpAny_setState_of ho hd R.fits ?_)
        dsimp only
        by_cases hkk : p.2 = k
        · exact wp_if_pos (by simp [hkk]) (wpAny_pure hin)
        · refine wp_if_neg (by simp [hkk]) ?_
          try refine wpAny_bind (wpAny_pure ?_)
          rw [sameMem]
          dsimp only
          simp only [if_true, slot_live R.ris hi, entryR R.rows hp]
          refine wpAny_bind (wpAny_isSame_ref_self (wpAny_bind (wpAny_pure ?_)))
          simp only [if_true]
          refine wp_if_neg (by simp [hkk]) ?_
          exact searchW R hx hu hKf hK hKb hin hout f (c + (q + 1)) _ (by rw [ep0]; rfl) (by omega) (by omega)
      by_cases hl : t.led = true
      · refine wp_if_neg (by simp [hl]) ?_
        try refine wpAny_bind (wpAny_pure ?_)
        exact rest
      · refine wp_if_pos (by simp [hl]) ?_
        refine wpAny_bind (seen_tup hx (fun y hy => ?_) ?_)
        · obtain ⟨e, he, ee⟩ := List.mem_map.mp hy
          have he1 : e ∈ es ∧ e.1 = thash P w k := by simpa using he
          have he2 : e ∈ es.toList := by simpa using he1.1
          rw [R.rows] at he2
          obtain ⟨p2, hp2, e2⟩ := List.mem_map.mp he2
          exact ⟨p2.2, p2.1, by rw [← ee, ← e2], R.tup p2 hp2⟩
        · refine wp_if_neg (by decide) ?_
          try refine wpAny_bind (wpAny_pure ?_)
          exact rest
    · have hpr' : t.probe (fun i => (es[i]?.map (·.1)).getD 0) (thash P w k) (stand.getD (t.probeStart (thash P w k))) = some (.empty (way t.mask (thash P w k) K) none) := by
        have e2 : way t.mask (thash P w k) K = (nth t.mask (nth t.mask p0 c) (K - c)).j := by
          rw [wy, show c + (K - c) = K by omega]
        rw [hst, e2]
        exact hpr
      rw [hpr']
      exact wpAny_pure hout
/-- the entries in another order, or some of them -/
theorem pickRows (es : Array (Int × Value)) (order : Array Nat) (hr : es.toList = rowsOf P w L) (ho : ∀ i ∈ order.toList, i < L.length) :
    ∃ L2, (order.filterMap (es[·]?)).toList = rowsOf P w L2 ∧ (∀ p ∈ L2, p ∈ L) ∧ L2.length = order.size := by
  have key : ∀ l : List Nat, (∀ i ∈ l, i < L.length) → ∃ L2 : List (Addr × List Int), l.filterMap (fun i => es[i]?) = rowsOf P w L2 ∧ (∀ p ∈ L2, p ∈ L) ∧ L2.length = l.length := by
    intro l
    induction l with
    | nil => intro _; exact ⟨[], rfl, fun _ z => (nomatch z), rfl⟩
    | cons i l ih =>
      intro hl
      obtain ⟨L2, e1, e2, e3⟩ := ih fun j hj => hl j (List.mem_cons_of_mem _ hj)
      have hi : L[i]? = some (L[i]'(hl i List.mem_cons_self)) := List.getElem?_eq_getElem _
      refine ⟨L[i]'(hl i List.mem_cons_self) :: L2, ?_, fun p hp => ?_, by rw [List.length_cons, List.length_cons, e3]⟩
      · rw [List.filterMap_cons_some (entryR hr hi), e1] <;> rfl
      · rcases List.mem_cons.mp hp with z | z
        · rw [z]; exact List.mem_of_getElem? hi
        · exact e2 p z
  obtain ⟨L2, e1, e2, e3⟩ := key order.toList ho
  exact ⟨L2, by first | (rw [Array.toList_filterMap]; exact e1) | simpa using e1, e2, e3⟩
/-- laid anew, larger -/
theorem relayW {o : Obj} (ho : s.heap.get? a = some o) (hex : o.ExactSet) (hd : o.data = .set es ep t) (hrows : es.toList = rowsOf P w L) (hsz : t.place.size = L.length) (hdm : t.dummies = #[]) (hfl : L.length ≤ t.mask)
    (tup : ∀ p ∈ L, IsT P w s.heap p.2 p.1) (pl : t.plain = true) (ld : w.params.followText "set-order" = true ∨ t.led = true) {wanted M : Nat}
    (hw : SetTable.sizeAbove wanted - 1 = M) (hM : MkR M) (hw2 : SetTable.sizeAbove wanted ≤ 512) (hn : L.length * 5 < M * 3) {Q : Unit → Shared → Prop}
    (hQ : ∀ h' L' es' ep' t', Heap.SameBut a s.heap h' → SetW P w h' a L' es' ep' t' → (∀ p ∈ L', p ∈ L) → L'.length = L.length → Q () { s with heap := h' }) : wpAny (model P w) A (setRelay a wanted) Q E s := by
  have hsl := rows_size hrows
  have hfits := fitsR hsz hdm hsl hfl
  obtain ⟨t', order, e, q1, q2, q3, q4, q5, em, el, ep', ed⟩ := relaidR t (hs := es.map (·.1)) (wanted := wanted) hw hM (by rw [Array.size_map, hsl]; omega)
  rw [Array.size_map, hsl] at q1 q2 q4
  obtain ⟨L2, r1, r2, r3⟩ := pickRows es order hrows q2
  have hs2 : (order.filterMap (es[·]?)).size = es.size := by rw [rows_size r1, r3, q1, hsl]
  rw [setRelay_eq]
  refine wpAny_bind (wpAny_setState_of ho hd hfits ?_)
  dsimp only
  refine wp_if_neg (by rw [sizeLine_eq]; omega) ?_
  try refine wpAny_bind (wpAny_pure ?_)
  rw [e]
  dsimp only
  refine wpAny_bind ?_
  refine wp_if_neg (by rw [hs2]; simp) ?_
  try refine wpAny_bind (wpAny_pure ?_)
  refine wpAny_pure ?_
  dsimp only
  have hM2 : M ≤ 511 := by omega
  refine wpAny_storeSet_of ho hd ?_ (by rw [hs2, hsl, sizeLine_eq]; omega)
  have sb : Heap.SameBut a s.heap (s.heap.update a (Obj.putSet (order.filterMap (es[·]?)) t')) := Heap.SameBut.update ..
  refine hQ _ L2 (order.filterMap (es[·]?)) (ep + 1) t' sb ⟨⟨_, store_at ho hd, ⟨hex.1, hex.2.1, hex.2.2⟩, rfl⟩, r1, q3, ed, by rw [q4, r3, q1], by rw [em]; exact q5, by rw [em]; exact hM, fun p hpm => isT_same (tup p (r2 p hpm)) ho hd sb, by rw [ep']; exact pl, by rw [el]; exact ld, ?_⟩ r2 (by rw [r3, q1])
  rw [r3, q1, em]
  exact hn
theorem size_308 : SetTable.sizeAbove (SetTable.grown 77) = 512 := by decide +kernel
/-- adding -/
theorem addW (R : SetW P w s.heap a L es ep t) {x : Addr} {k : List Int} (hx : IsT P w s.heap k x) (hu : A.units < cLine) (hfew : L.length < 300) {Q : Bool → Shared → Prop}
    (hQ : ∀ b h' L' es' ep' t', Heap.SameBut a s.heap h' → SetW P w h' a L' es' ep' t' → (∀ p ∈ L', p = (x, k) ∨ p ∈ L) → L'.length ≤ L.length + 1 → Q b { s with heap := h' }) :
    wpAny (model P w) A (setAddHashed a (.ref x) (thash P w k)) Q E s := by
  obtain ⟨o, ho, hex, hd⟩ := R.ob
  have hsl := rows_size R.rows
  have hroom := R.room
  have hlm : L.length ≤ t.mask := by omega
  obtain ⟨K, hKf, hK, hKb⟩ := firstR R.mok t.place.toList (by rw [Array.length_toList, R.sz]; exact hlm) (thash P w k)
  unfold setAddHashed
  refine wpAny_holding ?_
  rw [show (100000 : Nat) = 99999 + 1 from rfl, setAddHashedIn_succ]
  refine wpAny_bind (wpAny_setState_of ho hd R.fits ?_)
  dsimp only
  refine wp_if_neg (by simp [byScan, Value.scannable]) ?_
  try refine wpAny_bind (wpAny_pure ?_)
  have hbig : 10 * SetTable.turns t.mask ≤ 5260 := by
    unfold SetTable.turns
    rcases R.mok with e | e | e | e <;> omega
  refine wpAny_bind ?_
  unfold setSearch
  refine searchW R hx hu hKf hK hKb ?_ ?_ 100000 0 none rfl (Nat.zero_le _) (by omega)
  · dsimp only
    exact wpAny_pure (hQ false s.heap L es ep t (Heap.SameBut.refl a s.heap) R (fun p hp => .inr hp) (Nat.le_succ _))
  · dsimp only
    refine wpAny_bind (wpAny_setState_of ho hd R.fits ?_)
    dsimp only
    have hjm : way t.mask (thash P w k) K ≤ t.mask := wayR
    obtain ⟨j, hj⟩ : ∃ j, way t.mask (thash P w k) K = j := ⟨_, rfl⟩
    rw [hj] at hK hjm ⊢
    obtain ⟨c1, _, _⟩ := below_cut R.ris j
    have hpl : SetTable.below t.place j ≤ t.place.toList.length := by rw [Array.length_toList]; exact c1
    have hnp : t.place[SetTable.below t.place j]? ≠ some j := fun e => hK (List.mem_of_getElem? (by rw [Array.getElem?_toList]; exact e))
    have hpp := put_place t j
    have q1 : (t.put j).1.place.size = L.length + 1 := by
      rw [← Array.length_toList, hpp, len_ins _ hpl, Array.length_toList, R.sz]
    have q2 : Ris (t.put j).1.place.toList := ris_insert R.ris hnp
    have q3 : (t.put j).1.dummies = #[] := put_dm R.dm j
    have q4 : ∀ y ∈ (t.put j).1.place.toList, y ≤ t.mask := fun y hy => by
      rw [hpp] at hy
      rcases mem_ins.1 hy with z | z
      · rw [z]; exact hjm
      · exact R.bd y z
    have q5 : (t.put j).1.mask = t.mask := rfl
    have q6 : (t.put j).1.led = t.led := rfl
    have q7 : (t.put j).1.plain = true := R.plain
    have q8 : (t.put j).2 = SetTable.below t.place j := rfl
    generalize t.put j = pt at q1 q2 q3 q4 q5 q6 q7 q8 ⊢
    obtain ⟨t1, p⟩ := pt
    dsimp only at q1 q2 q3 q4 q5 q6 q7 q8 ⊢
    subst q8
    first
      | (refine wpAny_bind ?_; refine wp_if_pos q7 ?_; refine hashBy_tup hx ?_)
      | refine wp_if_pos q7 (wpAny_bind (hashBy_tup hx ?_))
    simp only [if_true]
    have hin : (SetTable.insertAt es (SetTable.below t.place j) (thash P w k, Value.ref x)).toList = rowsOf P w (L.take (SetTable.below t.place j) ++ (x, k) :: L.drop (SetTable.below t.place j)) := by
      rw [SetTable.toList_insertAt, rows_put, R.rows]
    have pm := put_perm L (SetTable.below t.place j) (x, k)
    generalize SetTable.insertAt es (SetTable.below t.place j) (thash P w k, Value.ref x) = es1 at hin ⊢
    generalize L.take (SetTable.below t.place j) ++ (x, k) :: L.drop (SetTable.below t.place j) = L1 at pm hin
    have hlen : L1.length = L.length + 1 := pm.length_eq
    have hes : es1.size = L.length + 1 := by rw [rows_size hin, hlen]
    refine wpAny_bind (wpAny_storeSet_of ho hd ?_ (by rw [hes, sizeLine_eq]; omega))
    have sb : Heap.SameBut a s.heap (s.heap.update a (Obj.putSet es1 t1)) := Heap.SameBut.update ..
    have ho1 := store_at (es' := es1) (t' := t1) ho hd
    generalize s.heap.update a (Obj.putSet es1 t1) = h1 at sb ho1 ⊢
    have mem1 : ∀ p ∈ L1, p = (x, k) ∨ p ∈ L := fun p hp => List.mem_cons.mp (pm.mem_iff.mp hp)
    have tup1 : ∀ p ∈ L1, IsT P w h1 p.2 p.1 := fun p hp => by
      rcases mem1 p hp with e | hp
      · rw [e]; exact isT_same hx ho hd sb
      · exact isT_same (R.tup p hp) ho hd sb
    have ld1 : w.params.followText "set-order" = true ∨ t1.led = true := by rw [q6]; exact R.led
    have full : t1.tooFull = decide ((L.length + 1) * 5 ≥ t.mask * 3) := by
      unfold SetTable.tooFull SetTable.fill
      rw [q1, q3, q5]
      rfl
    by_cases hf : (L.length + 1) * 5 ≥ t.mask * 3
    · have hf' : t1.tooFull = true := by rw [full]; exact decide_eq_true hf
      first
        | (refine wpAny_bind ?_; refine wp_if_pos (by simp [hf']) ?_)
        | (refine wp_if_pos (by simp [hf']) ?_; refine wpAny_bind ?_)
      rw [hsl]
      have go : ∀ M, SetTable.sizeAbove (SetTable.grown (L.length + 1)) - 1 = M → MkR M → SetTable.sizeAbove (SetTable.grown (L.length + 1)) ≤ 512 → (L.length + 1) * 5 < M * 3 → L.length + 1 ≤ t.mask →
          wpAny (model P w) A (setRelay a (SetTable.grown (L.length + 1))) (fun _ s' => wpAny (model P w) A (pure true) Q E s') E { s with heap := h1 } := fun M h1' h2' h3' h4' h5' =>
        relayW (s := { s with heap := h1 }) ho1 ⟨hex.1, hex.2.1, hex.2.2⟩ rfl hin (by rw [q1, hlen]) q3 (by rw [hlen, q5]; exact h5') tup1 q7 ld1 h1' h2' h3' (by rw [hlen]; exact h4')
          fun h2 L2 es2 ep2 t2 sb2 R2 s2 l2 => wpAny_pure (hQ true h2 L2 es2 ep2 t2 (sb.trans sb2) R2 (fun p hp => mem1 p (s2 p hp)) (by rw [l2, hlen]; exact Nat.le_refl _))
      have three : (t.mask = 7 ∧ L.length = 4) ∨ (t.mask = 31 ∧ L.length = 18) ∨ (t.mask = 127 ∧ L.length = 76) := by
        rcases R.mok with e | e | e | e <;> rw [e] at hf hroom
        · exact .inl ⟨e, by omega⟩
        · exact .inr (.inl ⟨e, by omega⟩)
        · exact .inr (.inr ⟨e, by omega⟩)
        · exfalso; omega
      rcases three with ⟨e1, e2⟩ | ⟨e1, e2⟩ | ⟨e1, e2⟩
      · exact go 31 (by rw [e2, size_20]) (.inr (.inl rfl)) (by rw [e2, size_20]; decide) (by omega) (by omega)
      · exact go 127 (by rw [e2, size_76]) (.inr (.inr (.inl rfl))) (by rw [e2, size_76]; decide) (by omega) (by omega)
      · exact go 511 (by rw [e2, size_308]) (.inr (.inr (.inr rfl))) (by rw [e2, size_308]; decide) (by omega) (by omega)
    · have hf' : t1.tooFull = false := by rw [full]; exact decide_eq_false hf
      first
        | refine wp_if_neg (by simp [hf']) ?_
        | (refine wpAny_bind ?_; refine wp_if_neg (by simp [hf']) ?_; refine wpAny_pure ?_)
      exact wpAny_pure (hQ true h1 L1 es1 (ep + 1) t1 sb ⟨⟨_, ho1, ⟨hex.1, hex.2.1, hex.2.2⟩, rfl⟩, hin, q2, q3, by rw [q1, hlen], by rw [q5]; exact q4, by rw [q5]; exact R.mok, tup1, q7, ld1, by rw [hlen, q5]; omega⟩ mem1 (by rw [hlen]; exact Nat.le_refl _))
end
end TG

/-! set(xs), sorted(set). -/
namespace TG
open PySem PySem.Spec L2 TGr LamX
open PyProof.Rows hiding St

section
variable {P : Program} {w : World} {A : Around} {E : Value → Shared → Prop} {s : Shared}
theorem SetW.keep {h h' : Heap} {a : Addr} {L : List (Addr × List Int)} {es : Array (Int × Value)} {ep : Nat} {t : SetTable} (R : SetW P w h a L es ep t) (ha : ∀ o, h.get? a = some o → h'.get? a = some o) (ht : ∀ p ∈ L, IsT P w h' p.2 p.1) : SetW P w h' a L es ep t :=
  let ⟨o, ho, r⟩ := R.ob
  ⟨⟨o, ha o ho, r⟩, R.rows, R.ris, R.dm, R.sz, R.bd, R.mok, ht, R.plain, R.led, R.room⟩
abbrev freshSet (w : World) : Obj := { cls := .type "set", dict := none, data := .set #[] 0 (.fresh 0 0 (!w.params.followText "set-order")) }
theorem setW_fresh {h : Heap} {a : Addr} (ho : h.get? a = some (freshSet w)) : SetW P w h a [] #[] 0 (.fresh 0 0 (!w.params.followText "set-order")) :=
  ⟨⟨_, ho, ⟨rfl, rfl, rfl⟩, rfl⟩, rfl, List.Pairwise.nil, rfl, rfl, fun x hx => (by cases hx), .inl rfl, fun p hp => (by cases hp), rfl, by
    show _ ∨ (!w.params.followText "set-order") = true
    cases w.params.followText "set-order"
    · exact .inr rfl
    · exact .inl rfl, by show 0 * 5 < 7 * 3; decide⟩
/-- what stands at S once i of the items ks have come -/
def SetI (P : Program) (w : World) (S : Addr) (ks : List (Addr × List Int)) (i : Nat) (h : Heap) : Prop := ∃ L es ep t, SetW P w h S L es ep t ∧ (∀ p ∈ L, p ∈ ks) ∧ L.length ≤ i
/-- set.update's loop -/
theorem set_updateW {I : Addr} {fp wr : List Addr} {G : Array GenState → Array GenState → Prop} {n : Nat} {Pv : Nat → Value → Prop} {St : Nat → Shared → Prop} {R : Result → Shared → Prop}
    (W : WalksS P w A.in1 I fp wr G n Pv St) (S : Addr) (hSf : S ∉ fp) (ks : List (Addr × List Int)) (hfew : n < 300) (hval : ∀ i v, Pv i v → ∃ p ∈ ks, v = .ref p.1)
    (h0 : Heap) (hk : ∀ p ∈ ks, IsT P w h0 p.2 p.1) (hS0 : h0.get? S = none) (hw0 : ∀ b ∈ wr, h0.get? b = none) (hu : A.in1.units < cLine) :
    ∀ (k i : Nat) (s : Shared), i + k = n → St i s → (∀ b o, h0.get? b = some o → s.heap.get? b = some o) → SetI P w S ks i s.heap →
      (∀ s', Moved (S :: wr) G s s' → SetI P w S ks n s'.heap → (∀ b o, h0.get? b = some o → s'.heap.get? b = some o) → R (.ok (.ret .none)) s') →
      codeAny (model P w) A (.builtin "set.update.loop" ⟨[.ref S, .ref I], []⟩) R s := by
  have hSw : S ∉ wr := fun h => hSf (W.sub _ h)
  have hsub : ∀ b ∈ wr, b ∈ S :: wr := fun b hb => List.mem_cons_of_mem _ hb
  have kp : ∀ {s s' : Shared}, Moved wr G s s' → (∀ b o, h0.get? b = some o → s.heap.get? b = some o) → ∀ b o, h0.get? b = some o → s'.heap.get? b = some o := fun hm k b o e => hm.heap b o (fun hb => by rw [hw0 b hb] at e; cases e) (k b o e)
  have same : ∀ {s s' : Shared} {i : Nat}, Moved wr G s s' → (∀ b o, h0.get? b = some o → s'.heap.get? b = some o) → SetI P w S ks i s.heap → SetI P w S ks i s'.heap := fun hm k ⟨L, es, ep, t, hS, hs, hl⟩ =>
    ⟨L, es, ep, t, hS.keep (fun o e => hm.heap S o hSw e) fun p hp => isT_keep (hk p (hs p hp)) k, hs, hl⟩
  intro k
  induction k with
  | zero =>
    intro i s e hst hkp hI hR
    obtain rfl : i = n := e
    refine codeAny_builtin F.entry_set_update_loop ?_
    rw [Around.under_plainId F.plain_set_update_loop _]
    show wpAny _ A.in1 (pyNext (.ref I) >>= _) _ _ s
    refine wpAny_bind (W.done s _ _ hst fun s' hm => ?_)
    exact wpAny_pure (hR s' (hm.mono hsub) (same hm (kp hm hkp) hI) (kp hm hkp))
  | succ k ih =>
    intro i s e hst hkp hI hR
    refine codeAny_builtin F.entry_set_update_loop ?_
    rw [Around.under_plainId F.plain_set_update_loop _]
    show wpAny _ A.in1 (pyNext (.ref I) >>= _) _ _ s
    refine wpAny_bind (W.item i s _ _ (by omega) hst fun v s' hP hst' hm => ?_)
    obtain ⟨p, hp, rfl⟩ := hval i v hP
    have hkp' := kp hm hkp
    obtain ⟨L, es, ep, t, hS', hs, hl⟩ := same hm hkp' hI
    have hx : IsT P w s'.heap p.2 p.1 := isT_keep (hk p hp) hkp'
    show wpAny _ A.in1 (holding [Value.ref p.1] (setAdd S (.ref p.1)) >>= _) _ _ s'
    refine wpAny_bind (wpAny_holding ?_)
    unfold setAdd
    refine wpAny_holding ?_
    refine wpAny_bind (wpAny_pyHash_tuple hu hx ?_)
    refine addW (s := { s' with toks := s'.toks + (p.2.length + 1) }) hS' hx hu (by omega) fun b h' L' es' ep' t' hsb hS2 hs2 hl2 => ?_
    have hkp2 : ∀ b o, h0.get? b = some o → h'.get? b = some o := fun b o e => (hsb.2 b (fun z => by rw [z, hS0] at e; cases e)).trans (hkp' b o e)
    refine wpAny_pure ⟨plainId_quiet F.plain_set_update_loop _, ih (i + 1) _ (by omega) (W.frame _ s' _ _ hst' (Nat.le_add_right _ _) fun b hb o e => ?_) hkp2 ⟨L', es', ep', t', hS2, fun q hq => ?_, by omega⟩ fun s'' hm'' hI'' hkp'' => ?_⟩
    · rw [hsb.2 b (fun h : b = S => hSf (by rw [← h]; exact hb))]; exact e
    · rcases hs2 q hq with z | z
      · rw [z]; exact hp
      · exact hs q z
    · refine hR s'' (Moved.trans W.gtrans ((hm.mono hsub).then_heap (Nat.le_add_right _ _) fun b o hb e => ?_) hm'') hI'' hkp''
      rw [hsb.2 b (fun h : b = S => hb (by rw [h]; exact List.mem_cons_self))]; exact e

set_option maxHeartbeats 6400000 in
/-- set(xs), xs a list of tuples -/
theorem call_setW {l : Addr} {items : Array Value} (ks : List (Addr × List Int)) {Q : Value → Shared → Prop} (hh : A.handled = none) (hl : s.heap.IsList l items) (hit : ∀ (i : Nat) v, items[i]? = some v → ∃ p ∈ ks, v = .ref p.1)
    (hk : ∀ p ∈ ks, IsT P w s.heap p.2 p.1) (hfew : items.size < 300) (hu : A.units + 3 < cLine)
    (h : ∀ (h' : Heap) (tk : Nat), SetI P w s.heap.objs.size ks items.size h' → (∀ b o, s.heap.get? b = some o → h'.get? b = some o) → Q (.ref s.heap.objs.size) { s with heap := h', toks := tk }) :
    wpAny (model P w) A (call (.type "set") [.ref l]) Q E s := by
  obtain ⟨c, tl, hmro⟩ := F.called_set.mro
  have hmade := F.called_set.made
  have hsub := F.called_set.sub
  refine wpAny_call (codeAny_of_tree ?_)
  show wpAny _ _ (callAny (.type "set") _) _ _ _
  refine wpAny_pure ⟨Code.quiet_builtin _ (by decide +kernel), codeAny_builtin F.entry_type_call ?_⟩
  rw [Around.under_plain (weight_type_call_type "set" [.ref l] []) rfl]
  have h1 := F.called_set.notType
  have h2 := F.called_set.canCreate
  have hct := F.typeCall_set_1 (.ref l)
  repeat (any_goals (first | assumption | wp_step))

  refine codeAny_mono (code_set_led1 (.ref l) (E := E) (Q₁ := fun obj s₁ => obj = .ref s.heap.objs.size ∧ s₁ = { s with heap := s.heap.push (freshSet w) }) ⟨rfl, rfl⟩) fun r s₁ hr => ?_
  cases r with
  | error e => exact hr
  | ok fl =>
    cases fl with
    | ret obj =>
      obtain ⟨rfl, rfl⟩ := hr
      have hS : (s.heap.push (freshSet w)).get? s.heap.objs.size = some (freshSet w) := Heap.get?_push_size _ rfl
      have hT : Shared.TypeIs { s with heap := s.heap.push (freshSet w) } (.ref s.heap.objs.size) "set" := ⟨_, hS, rfl⟩
      have hli := F.called_set.init.lookup
      have hbi := F.called_set.init.bind (.ref s.heap.objs.size)
      repeat (any_goals (first | assumption | wp_step))

      refine codeAny_mono (codeAny_call_builtin (R := wants (fun r s₂ => r = .none ∧ ∃ h' tk, s₂ = { s with heap := h', toks := tk } ∧ SetI P w s.heap.objs.size ks items.size h' ∧
          (∀ b o, s.heap.get? b = some o → h'.get? b = some o)) E) F.called_set.init.plain F.entry_set_init (check_set_init_1 hT ?_)) fun r₂ s₂ hr₂ => ?_
      · obtain ⟨⟨ocls, odict, odata, oslots⟩, hol, hcl, nl, hdl⟩ := hl
        simp only at hcl hdl
        subst hcl; subst hdl
        have hol' : (s.heap.push (freshSet w)).get? l = some { cls := .type "list", dict := odict, data := .seq items nl, slots := oslots } := Heap.get?_push_of_some _ hol
        have hsls := F.sub_list_set
        have hslf := F.sub_list_frozenset
        have hne : (Value.type "list" == Value.type "dict") = false := by decide
        have hl1 : (s.heap.push (freshSet w)).IsList l items := ⟨_, hol', rfl, nl, rfl⟩
        unfold Builtin.«set.__init__» noKeywords Builtin.Frozenset.updateFrom
        generalize hPI : pyIter = PI
        wp_walk
        subst hPI

        refine wpAny_pyIter_list hl1 ?_
        refine wpAny_bind (wpAny_runValue ?_)
        have hlS : l < s.heap.objs.size := Heap.lt_size hol
        have hh3 : A.in1.in1.in1.handled = none := by simp [hh]
        have hz1 : (s.heap.push (freshSet w)).objs.size = s.heap.objs.size + 1 := Heap.size_push ..
        have hneI : l ≠ (s.heap.push (freshSet w)).objs.size := by
          rw [Heap.size_push]; exact Nat.ne_of_lt (Nat.lt_succ_of_lt hlS)
        have hSf : s.heap.objs.size ∉ [(s.heap.push (freshSet w)).objs.size, l] := by
          rw [Heap.size_push]; simp only [List.mem_cons, List.mem_singleton, List.not_mem_nil, or_false, not_or]
          exact ⟨Nat.ne_of_lt (Nat.lt_succ_self _), Nat.ne_of_gt hlS⟩
        have none_of : ∀ b, s.heap.objs.size ≤ b → s.heap.get? b = none := fun b hb => Heap.get?_none_of_le hb
        refine set_updateW ((Walks.list hh3 _ l hneI items).toS) s.heap.objs.size hSf ks hfew hit s.heap hk (none_of _ (Nat.le_refl _)) (fun b hb => none_of b (by
            rw [List.mem_singleton.mp hb, Heap.size_push]
            exact Nat.le_succ _)) hu items.size 0 _ (by omega) ⟨⟨_, Heap.get?_push_size _ rfl, rfl, rfl⟩, (hl1.push _)⟩ (fun b o e => Heap.get?_push_of_some _ (Heap.get?_push_of_some _ e)) ?hS0 ?hR
        case hS0 => exact ⟨[], #[], 0, _, setW_fresh (Heap.get?_push_of_some _ hS), fun p hp => (nomatch hp), Nat.le_refl _⟩
        case hR =>
          intro s' hm hI hkp
          obtain ⟨h', g2, d', tk', os'⟩ := s'
          have eg : g2 = s.gens := hm.gens
          have ed : d' = s.drawn := hm.drawn
          have eo : os' = s.os := hm.os
          subst eg; subst ed; subst eo
          show wpAny _ _ _ _ _ _
          refine wpAny_pure ?_
          show wpAny _ _ (ret Value.none) _ _ _
          exact wpAny_pure ⟨rfl, h', tk', rfl, hI, hkp⟩
      · cases r₂ with
        | error e => exact hr₂
        | ok fl₂ =>
          cases fl₂ with
          | ret r =>
            obtain ⟨rfl, h', tk, rfl, hI, hk'⟩ := hr₂
            repeat (any_goals (first | assumption | wp_step))
            exact h _ _ hI hk'
          | _ => exact hr₂.elim
    | _ => exact hr.elim
end
end TG

/-! Sets of places: set(xs), the set comprehension, sorted. -/
namespace TG
open PySem PySem.Spec L2 TGr LamX
open PyProof.Rows hiding St

/-- a list that is another's picture up to its order is the picture of a list in that order -/
theorem perm_pre {α β : Type} (f : α → β) {vs ws : List β} (h : vs.Perm ws) : ∀ L : List α, ws = L.map f → ∃ L1 : List α, L1.Perm L ∧ vs = L1.map f := by
  induction h with
  | nil => intro L e; exact ⟨L, .refl _, e⟩
  | @cons x l l' _ ih =>
    intro L e
    cases L with
    | nil => cases e
    | cons a L =>
      rw [List.map_cons] at e
      injection e with e1 e2
      obtain ⟨L1, p, e3⟩ := ih L e2
      exact ⟨a :: L1, p.cons a, by rw [List.map_cons, e1, e3]⟩
  | swap x y l =>
    intro L e
    match L, e with
    | a :: b :: L, e =>
      rw [List.map_cons, List.map_cons] at e
      injection e with e1 e2
      injection e2 with e2 e3
      exact ⟨b :: a :: L, .swap a b L, by rw [List.map_cons, List.map_cons, e1, e2, e3]⟩
  | trans _ _ ih1 ih2 =>
    intro L e
    obtain ⟨L1, p1, e1⟩ := ih2 L e
    obtain ⟨L2, p2, e2⟩ := ih1 L1 e1
    exact ⟨L2, p2.trans p1, e2⟩
def pk (q : Pl) : List Int := [q.1, q.2]
theorem pk_inj {p q : Pl} (h : pk p = pk q) : p = q := by
  unfold pk at h
  injection h with h1 h2
  injection h2 with h2 _
  exact Prod.ext h1 h2
theorem ext_code {a : Addr} {φ : Heap → Prop} (h : ∀ h, φ h → ∃ o, h.get? a = some o ∧ ∀ vs, o.data ≠ .fields vs) (q : Str) : HO.ext φ ≠ CodeO a q := fun z => by
  unfold CodeO at z
  have e := HO.ext.inj z
  have hg : (⟨(Array.replicate (a + 1) { cls := .none, data := .fields #[.none, .str q 0] }), {}⟩ : Heap).get? a = some { cls := .none, data := .fields #[.none, .str q 0] } := by
    unfold Heap.get?
    simp
  have h1 := congrFun e ⟨(Array.replicate (a + 1) { cls := .none, data := .fields #[.none, .str q 0] }), {}⟩
  have h2 : ∃ (oc : Obj) (vs : Array Value) (t : Tok), (⟨(Array.replicate (a + 1) { cls := .none, data := .fields #[.none, .str q 0] }), {}⟩ : Heap).get? a = some oc ∧ oc.data = .fields vs ∧ vs[1]? = some (.str q t) := ⟨_, _, 0, hg, rfl, rfl⟩
  rw [← h1] at h2
  obtain ⟨o, ho, hd⟩ := h _ h2
  rw [hg] at ho
  cases ho
  exact hd _ rfl
section
variable {X : Cx} {pins : List (Addr × Obj)} {σ : L2.St} {H : Hp} {s : Shared}
theorem place_raw (I : Inv X pins σ H s) {t : Addr} {q : Pl} (h : SqT X.K H t ((pk q).map V.int)) : Reads s.heap (.ref t) (pd q).data [] ∧ RelD X.K H (.ref t) (pd q) := by
  refine ⟨?_, V.ref t, rfl, dat_pl h⟩
  obtain ⟨its, r, ⟨o, ho, hc, n, hd⟩, _⟩ := I.tuple h
  obtain ⟨u1, u2, rfl, ⟨t1, rfl⟩, ⟨t2, rfl⟩⟩ := vals2 r
  rw [pd_data]
  exact .tuple (as := [] ++ ([] ++ [])) ho hc hd (.cons (.int _ _) (.cons (.int _ _) .nil))
/-- sorted(set), by what stands of the set -/
theorem sorted_set (T : Tb) {a : Addr} {L : List (Addr × Pl)} {es : Array (Int × Value)} {ep : Nat} {t : SetTable} {o : Obj} {Q : VK} (hh : X.A.handled = none) (hu : X.A.units + 10 < cLine) (I : Inv X pins σ H s) (ho : s.heap.get? a = some o) (hex : o.ExactSet) (hd : o.data = .set es ep t)
    (hrows : es.toList.map (·.2) = L.map fun p => Value.ref p.1) (hfit : t.fits es.size = true) (hsz : es.size < scanBound) (hris : Ris t.place.toList) (hled : X.w.params.followText "set-order" = true ∨ t.led = true) (tup : ∀ p ∈ L, SqT X.K H p.1 ((pk p.2).map V.int))
    (q : ∀ p H' (qs : List Pl), H p = none → Go T [] H H' → qs.Perm (L.map (·.2)) → LstW X.K H' p ((qs.mergeSort plLe).map pd) → Q (.ref p) H') : wpAny (model X.prog X.w) X.A (call (.builtin "sorted") [.ref a]) (EP X pins σ Q) X.xe s := by
  refine Calls.call_function_entry kind_sorted plain_sorted entry_sorted (args_sorted1 _) ?_
  unfold Builtin.«sorted»
  refine wpAny_bind (m := checkCount "sorted" 1 1 _) (wpAny_pure ?_)
  refine wpAny_bind (collect_set (A := X.A.in1) hh ⟨o, ho, hex.1, hd⟩ hfit hsz hris hled fun s1 vs k1 hz g1 o1 pm => ?_)
  obtain ⟨L1, pL, rfl⟩ := perm_pre (fun p : Addr × Pl => Value.ref p.1) pm L hrows
  have I1 : Inv X pins σ H s1 := I.call' (ch := []) o1 (Un.kept k1) (I.hok.kept k1) (by rw [g1]; exact I.bare) (fun _ z => nomatch z)
  have tup1 : ∀ p ∈ L1, SqT X.K H p.1 ((pk p.2).map V.int) := fun p hp => tup p (pL.mem_iff.mp hp)
  have hl1 : L1.length = es.size := by
    have h1 := congrArg List.length hrows
    rw [List.length_map, List.length_map, Array.length_toList] at h1
    rw [pL.length_eq, h1]
  have hl2 : L1.length ≤ sizeLine := by
    have : (4096 : Nat) ≤ sizeLine := by decide
    have h4 : scanBound = 4096 := rfl
    omega
  refine wpAny_bind (wpAny_newList ?_ (by rw [List.length_map]; exact hl2))
  have hoL : (s1.heap.push (seqObj "list" (L1.map fun p => Value.ref p.1).toArray 0)).get? s1.heap.objs.size = some (seqObj "list" (L1.map fun p => Value.ref p.1).toArray 0) := Heap.get?_push_size _ rfl
  have I2 : Inv X pins σ H { s1 with heap := s1.heap.push (seqObj "list" (L1.map fun p => Value.ref p.1).toArray 0) } := I1.kept (t' := s1.toks) fun b o e => Heap.get?_push_of_some _ e
  have each : ∀ M : List (Addr × Pl), (∀ p ∈ M, SqT X.K H p.1 ((pk p.2).map V.int)) →
      PySem.W.EachIs (fun v q => RelD X.K H v (pd q)) (M.map fun p => Value.ref p.1) (M.map (·.2)) ∧
      PySem.W.EachIs (fun v (q : Pl) => ∃ as, Reads (s1.heap.push (seqObj "list" (L1.map fun p => Value.ref p.1).toArray 0)) v (pd q).data as ∧ s1.heap.objs.size ∉ as) (M.map fun p => Value.ref p.1) (M.map (·.2)) := by
    intro M
    induction M with
    | nil => intro _; exact ⟨.nil, .nil⟩
    | cons p M ih =>
      intro h
      obtain ⟨a1, a2⟩ := ih fun x hx => h x (List.mem_cons_of_mem _ hx)
      obtain ⟨b1, b2⟩ := place_raw I2 (h p List.mem_cons_self)
      exact ⟨.cons b2 a1, .cons ⟨[], b1, by simp⟩ a2⟩
  obtain ⟨e1, e2⟩ := each L1 tup1
  have dp : ∀ p : Pl, (pd p).data.depth ≤ 8 := fun p => by rw [data_depth]; exact pd_depth p
  refine wpAny_bind (wpAny_holding (PySem.W.list_sort_data (s := { s1 with heap := s1.heap.push (seqObj "list" (L1.map fun p => Value.ref p.1).toArray 0) }) (enc := fun p : Pl => (pd p).data) (R := fun v q => RelD X.K H v (pd q)) hoL e1 e2
    (PySem.W.AllAlike.of fun b b' => by rw [pd_data, pd_data]; rfl) (PySem.W.Sortable.tuples fun b => ⟨_, _, pd_data b⟩) (by rw [List.length_map]; exact hl2) (fun b _ => by have := dp b; simp only [Around.in1_units]; omega) fun out hlo hE => ?_))
  have ele : PySem.W.dataLe false (fun p : Pl => (pd p).data) = plLe := by
    have e1 : (fun p : Pl => (pd p).data) = fun p => .tuple [.int p.1, .int p.2] := funext pd_data
    rw [e1, PySem.W.dataLe_ii]
    rfl
  rw [ele] at hE
  obtain ⟨ys, hy, rv⟩ := of_each (each_pl' hE)
  obtain ⟨c, hc⟩ := sortedHeap_at (vs := L1.map fun p => Value.ref p.1) (out := out.toArray) hoL
  have hp : H s1.heap.objs.size = none := I1.hok.fresh (Nat.le_refl _)
  have g : Go T [] H (upd H s1.heap.objs.size (.lst ys)) := .new hp
  refine wpAny_pure ⟨_, rfl, .ref s1.heap.objs.size, upd H s1.heap.objs.size (.lst ys), ?_, rfl, q _ _ (L1.map (·.2)) hp g (pL.map _) ⟨ys, upd_same, g.datA hy⟩⟩
  refine I1.laid (t' := s1.toks) (fun b u e => ?_) (Nat.le_refl _) ⟨?_, out, c, rv, hc⟩
  · have hlt := Heap.lt_size e
    show (sortedHeap _ s1.heap.objs.size _ out.toArray).get? b = some u
    rw [sortedHeap_old (Nat.ne_of_lt hlt) (by rw [size_push']; exact Nat.lt_succ_of_lt hlt)]
    exact Heap.get?_push_of_some _ e
  · rw [← hy.length, List.length_map, List.length_mergeSort, List.length_map]
    exact hl2
end
/-! ### the two kinds of sets -/
/-- the set at a (any of up to 300): its places are among qs -/
structure SetW0 (P : Program) (w : World) (h : Heap) (a : Addr) (L : List (Addr × List Int)) : Prop where
  ex : ∃ (es : Array (Int × Value)) (ep : Nat) (t : SetTable) (o : Obj), h.get? a = some o ∧ o.ExactSet ∧ o.data = .set es ep t ∧ es.toList = rowsOf P w L ∧ Ris t.place.toList ∧ t.fits es.size = true ∧ (w.params.followText "set-order" = true ∨ t.led = true)
def SetWO (P : Program) (w : World) (a : Addr) (L : List (Addr × List Int)) : HO := .ext fun h => SetW0 P w h a L
theorem setWO_ok {P : Program} {w : World} {H : Hp} {h : Heap} {a : Addr} {L : List (Addr × List Int)} (R : SetW0 P w h a L) : ObjOk P w H h a (SetWO P w a L) := by
  obtain ⟨es, ep, t, o, ho, r⟩ := id R.ex
  refine ⟨R, ⟨o, ho⟩, fun h1 h2 p k => ?_⟩
  have p : SetW0 P w h1 a L := p
  obtain ⟨es, ep, t, o, ho, r⟩ := p.ex
  exact ⟨es, ep, t, o, k o ho, r⟩
theorem pk_of {k : List Int} {q : Pl} (h : k = pk q) : k = pk q := h
/-- the list's places by their addresses -/
theorem places_of {K : PySem.W.Frag} {H : Hp} : ∀ {ps : List Pl} {xs : List V}, DatA K H (ps.map pd) xs → ∃ L : List (Addr × Pl), L.map (·.2) = ps ∧ xs = L.map (fun p => V.ref p.1) ∧ ∀ p ∈ L, SqT K H p.1 ((pk p.2).map V.int)
  | [], _, r => by cases r; exact ⟨[], rfl, rfl, fun _ z => (nomatch z)⟩
  | p :: ps, _, r => by
    cases r with
    | cons h1 h2 =>
      obtain ⟨L, e1, e2, e3⟩ := places_of h2
      obtain ⟨a, rfl, hs⟩ := Dat.pl h1
      exact ⟨(a, p) :: L, by rw [List.map_cons, e1], by rw [List.map_cons, e2], fun q hq => (List.mem_cons.mp hq).elim (fun z => by rw [z]; exact hs) (e3 q)⟩
abbrev toK (L : List (Addr × Pl)) : List (Addr × List Int) := L.map fun p => (p.1, pk p.2)
theorem rows_refs {P : Program} {w : World} (L : List (Addr × Pl)) : (rowsOf P w (toK L)).map (·.2) = L.map fun p => Value.ref p.1 := by
  unfold rowsOf toK
  rw [List.map_map, List.map_map]
  rfl
theorem toK_of {ks : List (Addr × List Int)} {L0 : List (Addr × Pl)} : ∀ {L : List (Addr × List Int)}, (∀ p ∈ L, p ∈ toK L0) → ∃ M, L = toK M ∧ ∀ p ∈ M, p ∈ L0
  | [], _ => ⟨[], rfl, fun _ z => (nomatch z)⟩
  | p :: L, h => by
    obtain ⟨M, e, hm⟩ := toK_of (ks := ks) (L := L) fun x hx => h x (List.mem_cons_of_mem _ hx)
    obtain ⟨q, hq, rfl⟩ := List.mem_map.mp (h p List.mem_cons_self)
    exact ⟨q :: M, by rw [e]; rfl, fun x hx => (List.mem_cons.mp hx).elim (fun z => by rw [z]; exact hq) (hm x)⟩
section
variable {X : Cx}
/-- a set made of a list of places -/
def SetN (K : PySem.W.Frag) (P : Program) (w : World) (H : Hp) (a : Addr) (ps : List Pl) : Prop := ∃ L : List (Addr × Pl), H a = some (SetWO P w a (toK L)) ∧ (∀ p ∈ L, SqT K H p.1 ((pk p.2).map V.int)) ∧ (∀ p ∈ L, p.2 ∈ ps) ∧ L.length < 300
/-- set(xs) -/
def rSetN (K : PySem.W.Frag) (P : Program) (w : World) (T : Tb) : List V → Hp → VK → Prop := fun vs H Q => ∃ (ps : List Pl) (x : V), vs = [x] ∧ LsD K H (ps.map pd) x ∧ ps.length < 300 ∧ ∀ a H', H a = none → Go T [] H H' → SetN K P w H' a ps → Q (.ref a) H'
theorem cr_setN (T : Tb) (hh : X.A.handled = none) (hu : X.A.units + 10 < cLine) : CallR X (.type "set") (rSetN X.K X.prog X.w T) := by
  intro pins s σ H vs us Q I rv h
  obtain ⟨ps, x, rfl, ⟨l, xs, rfl, hs, hd⟩, hn, q⟩ := h
  obtain ⟨u, rfl, ru⟩ := vals1 rv
  obtain rfl : u = Value.ref l := ru
  obtain ⟨its, r, pl, hz⟩ := I.list hs
  obtain ⟨L, e1, rfl, e3⟩ := places_of hd
  have hlen : its.length = L.length := by rw [← r.length, List.length_map]
  have hL : L.length = ps.length := by rw [← e1, List.length_map]
  refine call_setW (items := its.toArray) (toK L) hh pl.isList (fun i v hv => ?_) (fun p hp => ?_) (by rw [List.size_toArray]; omega) (by omega) fun h' tk hI hk => ?_
  · have hv : its[i]? = some v := by simpa using hv
    obtain ⟨x, hx, rx⟩ := paired_at' r i v hv
    rw [List.getElem?_map] at hx
    obtain ⟨p, hp, rfl⟩ := Option.map_eq_some_iff.mp hx
    exact ⟨(p.1, pk p.2), List.mem_map.mpr ⟨p, List.mem_of_getElem? hp, rfl⟩, rx⟩
  · obtain ⟨p, hp', rfl⟩ := List.mem_map.mp hp
    exact L2.Inv.isT I (e3 p hp')
  · obtain ⟨L', es, ep, t, R, hsub, hle⟩ := hI
    obtain ⟨M, rfl, hM⟩ := toK_of (ks := []) hsub
    obtain ⟨o, ho, hex, hdt⟩ := R.ob
    have hp : H s.heap.objs.size = none := I.hok.fresh (Nat.le_refl _)
    have g : Go T [] H (upd H s.heap.objs.size (SetWO X.prog X.w s.heap.objs.size (toK M))) := .new hp
    rw [List.size_toArray] at hle
    rw [List.length_map] at hle
    refine ⟨.ref s.heap.objs.size, _, I.laid (a := s.heap.objs.size) (t' := tk) hk (Nat.le_refl _) (setWO_ok ⟨es, ep, t, o, ho, hex, hdt, R.rows, R.ris, fitsR R.sz R.dm (rows_size R.rows) (by have := R.room; omega), R.led⟩), rfl, q _ _ hp g ⟨M, upd_same, fun p hp => g.sqT (e3 p (hM p hp)), fun p hp => ?_, by omega⟩⟩
    rw [← e1]
    exact List.mem_map.mpr ⟨p, hM p hp, rfl⟩
/-- sorted(set) -/
def rSortN (K : PySem.W.Frag) (P : Program) (w : World) (T : Tb) : List V → Hp → VK → Prop := fun vs H Q => ∃ (a : Addr) (ps : List Pl), vs = [.ref a] ∧ SetN K P w H a ps ∧ ∀ p H' (qs : List Pl), H p = none → Go T [] H H' → (∀ q ∈ qs, q ∈ ps) → LstW K H' p (qs.map pd) → qs.length < 300 → Q (.ref p) H'
theorem cr_sortN (T : Tb) (hh : X.A.handled = none) (hu : X.A.units + 10 < cLine) : CallR X (.builtin "sorted") (rSortN X.K X.prog X.w T) := by
  intro pins s σ H vs us Q I rv h
  obtain ⟨a, ps, rfl, ⟨L, hH, e3, hps, hn⟩, q⟩ := h
  obtain ⟨u, rfl, ru⟩ := vals1 rv
  obtain rfl : u = Value.ref a := ru
  have R : SetW0 X.prog X.w s.heap a (toK L) := (show ObjOk X.prog X.w H s.heap a (SetWO X.prog X.w a (toK L)) from I.hok a _ hH).1
  obtain ⟨es, ep, t, o, ho, hex, hd, hr, hri, hf, hl⟩ := R.ex
  have hsz := rows_size hr
  rw [List.length_map] at hsz
  have h4 : scanBound = 4096 := rfl
  refine sorted_set T hh hu I ho hex hd (by rw [hr]; exact rows_refs L) hf (by omega) hri hl e3 fun p H' qs hp g pm L' => q p H' _ hp g (fun z hz => ?_) L' ?_
  · have hz := pm.mem_iff.mp ((List.mergeSort_perm _ _).mem_iff.mp hz)
    obtain ⟨y, hy, rfl⟩ := List.mem_map.mp hz
    exact hps y hy
  · rw [List.length_mergeSort, pm.length_eq, List.length_map]
    exact hn
/-! exact sets, fewer than 64 -/
/-- the set at a has the places qs -/
def SetE (K : PySem.W.Frag) (P : Program) (w : World) (H : Hp) (a : Addr) (qs : List Pl) : Prop := ∃ L : List (Addr × Pl), H a = some (SetTO P w a (toK L)) ∧ (∀ p ∈ L, SqT K H p.1 ((pk p.2).map V.int)) ∧ (L.map (·.2)).Perm qs
theorem setTO_set {T : Tb} {P : Program} {w : World} {H : Hp} {a : Addr} {L : List (Addr × List Int)} {o' : HO} {S : List Addr} (h : H a = some (SetTO P w a L)) (ha : a ∈ S) : Go T S H (upd H a o') := by
  refine .set h ha ?_ (fun ps z => by unfold SetTO at z; cases z) (ext_code fun h1 p => ?_)
  · rintro (⟨_, z⟩ | ⟨_, _, z⟩) <;> (unfold SetTO at z; cases z)
  · obtain ⟨es, ep, t, ⟨o, ho, _, hd⟩, _⟩ := p.ex
    exact ⟨o, ho, fun vs z => by rw [hd] at z; cases z⟩
def rSortE (K : PySem.W.Frag) (P : Program) (w : World) (T : Tb) : List V → Hp → VK → Prop := fun vs H Q => ∃ (a : Addr) (ps : List Pl), vs = [.ref a] ∧ SetE K P w H a ps ∧ ∀ p H' (qs : List Pl), H p = none → Go T [] H H' → qs.Perm ps → LstW K H' p (qs.map pd) → Q (.ref p) H'
theorem cr_sortE (T : Tb) (hh : X.A.handled = none) (hu : X.A.units + 10 < cLine) : CallR X (.builtin "sorted") (rSortE X.K X.prog X.w T) := by
  intro pins s σ H vs us Q I rv h
  obtain ⟨a, ps, rfl, ⟨L, hH, e3, hps⟩, q⟩ := h
  obtain ⟨u, rfl, ru⟩ := vals1 rv
  obtain rfl : u = Value.ref a := ru
  have R : SetT0 X.prog X.w s.heap a (toK L) := (show ObjOk X.prog X.w H s.heap a (SetTO X.prog X.w a (toK L)) from I.hok a _ hH).1
  obtain ⟨es, ep, t, R⟩ := R.full fun p hp => by
    obtain ⟨p, hp', rfl⟩ := List.mem_map.mp hp
    exact L2.Inv.isT I (e3 p hp')
  obtain ⟨o, ho, hex, hd⟩ := R.ob
  have hsz := R.size
  have hfew := R.few
  have h4 : scanBound = 4096 := rfl
  refine sorted_set T hh hu I ho hex hd (by rw [R.rows]; exact rows_refs L) R.fits (by omega) R.tab.ris R.led e3 fun p H' qs hp g pm L' => q p H' _ hp g ((List.mergeSort_perm _ _).trans (pm.trans hps)) L'
/-- d.add(place), by a comprehension -/
theorem setE_add (T : Tb) {pins : List (Addr × Obj)} {σ : L2.St} {H : Hp} {s : Shared} {E : Value → Shared → Prop} {D : Addr} {qs : List Pl} {q : Pl} {y : V} {u : Value} {Q : Value → Shared → Prop} (hu : X.A.units + 9 < cLine) (I : Inv X pins σ H s) (S : SetE X.K X.prog X.w H D qs) (hy : Dat X.K H (pd q) y) (hn : qs.length + 1 < 64) (ry : RelV y u)
    (h : ∀ s' H', Inv X pins σ H' s' → Go T [D] H H' → SetE X.K X.prog X.w H' D (if q ∈ qs then qs else qs ++ [q]) → Q .none s') : wpAny (model X.prog X.w) X.A (call (.builtin "set.add") [.ref D, u]) Q E s := by
  obtain ⟨L, hH, e3, hps⟩ := S
  obtain ⟨x, rfl, hx⟩ := Dat.pl (i := q.1) (j := q.2) hy
  obtain rfl : u = Value.ref x := ry
  have R0 : SetT0 X.prog X.w s.heap D (toK L) := (show ObjOk X.prog X.w H s.heap D (SetTO X.prog X.w D (toK L)) from I.hok D _ hH).1
  obtain ⟨es, ep, t, R⟩ := R0.full fun p hp => by
    obtain ⟨p, hp', rfl⟩ := List.mem_map.mp hp
    exact L2.Inv.isT I (e3 p hp')
  have hk : IsT X.prog X.w s.heap (pk q) x := L2.Inv.isT I hx
  have hll : (toK L).length = qs.length := by rw [List.length_map, ← hps.length_eq, List.length_map]
  have hT : s.TypeIs (.ref D) "set" := let ⟨o, ho, hex, _⟩ := R.ob; ⟨o, ho, hex.1⟩
  refine wpAny_call_entry F.slot_set_add hT F.entry_set_add ?_ (F.args_set_add_2 _ _)
  unfold Builtin.«set.add» Builtin.Frozenset.oneOther
  simp only [List.isEmpty_nil, bind_assoc]
  unfold Builtin.Frozenset.addrOf setAdd
  refine wpAny_bind (wpAny_pure ?_)
  try dsimp only
  refine wpAny_bind (wpAny_pure ?_)
  try dsimp only
  refine wpAny_bind ?_
  refine wpAny_holding ?_
  refine wpAny_bind (wpAny_pyHash_tuple (by simp only [Around.in1_units]; omega) hk ?_)
  refine add_at (s := { s with toks := s.toks + ((pk q).length + 1) }) R hk (by simp only [Around.in1_units]; omega) (by omega) fun b h' L' es' ep' t' hsb R' c1 c2 => ?_
  have g : Go T [D] H (upd H D (SetTO X.prog X.w D L')) := setTO_set hH (by simp)
  have I' : Inv X pins σ (upd H D (SetTO X.prog X.w D L')) { s with heap := h', toks := s.toks + ((pk q).length + 1) } := by
    obtain ⟨o, ho, _⟩ := R'.ob
    exact I.write (x := D) (e := D) (by rw [hH]; exact True.intro) (.inl rfl) (fun b u hb hu => (hsb.2 b hb).trans hu) ⟨o, ho⟩ (setTO_new R'.t0)
  refine wpAny_pure ⟨.none, rfl, h _ _ I' g ?_⟩
  have hmem : pk q ∈ (toK L).map (·.2) ↔ q ∈ qs := by
    rw [← hps.mem_iff, List.map_map]
    constructor
    · intro z
      obtain ⟨p, hp, e⟩ := List.mem_map.mp z
      exact List.mem_map.mpr ⟨p, hp, pk_inj e⟩
    · intro z
      obtain ⟨p, hp, rfl⟩ := List.mem_map.mp z
      exact List.mem_map.mpr ⟨p, hp, rfl⟩
  by_cases c : q ∈ qs
  · rw [if_pos c]
    obtain rfl := c1 (hmem.mpr c)
    exact ⟨L, upd_same, fun p hp => g.sqT (e3 p hp), hps⟩
  · rw [if_neg c]
    obtain ⟨M, pM, rfl⟩ := perm_pre (fun p : Addr × Pl => (p.1, pk p.2)) (c2 fun z => c (hmem.mp z)) ((x, q) :: L) rfl
    refine ⟨M, upd_same, fun p hp => g.sqT ?_, ?_⟩
    · rcases List.mem_cons.mp (pM.mem_iff.mp hp) with z | z
      · rw [z]; exact hx
      · exact e3 p z
    · refine (pM.map (·.2)).trans ?_
      rw [List.map_cons]
      exact (hps.cons q).trans (List.perm_append_singleton q qs).symm
/-- {place for ..} -/
def addSet (P : Program) (w : World) (A : Around) (elt : Expr) : AddW := fun env D N F s => wpAny (model P w) A (eval elt env) (fun x s₄ => wpAny (model P w) A (call (.builtin "set.add") [.ref D, x]) (fun _ s₅ => N s₅) F s₄) F s
def taSet (K : PySem.W.Frag) (P : Program) (w : World) (T : Tb) (te : TE) : Addr → L2.St → Hp → (Hp → Prop) → Prop := fun D σ H N => te σ H fun y H4 => ∃ qs q, SetE K P w H4 D qs ∧ Dat K H4 (pd q) y ∧ qs.length + 1 < 64 ∧ ∀ H', Go T [D] H4 H' → SetE K P w H' D (if q ∈ qs then qs else qs ++ [q]) → N H'
theorem pe_scE (T : Tb) {elt tg iter : Expr} {ifs : List Expr} {scope : Scope} {own : List (Str × Nat)} {pos : Pos} {wi : TI} {g : TG} {tt : TT} {te : TE} (hu : X.A.units + 9 < cLine) (hc : X.calm = true) (hN : X.N.Nodup) (hi : PI X tg iter wi) (ok : BlkOk X.N X.env.scope scope own)
    (hg : ∀ (s : Shared) (H : Hp) (C : Addr) (cl : List (Str × Addr)) (fp : List Addr), PG (X.blk s H scope (compEnvC scope cl C X.env) fp) tg g) (ht : ∀ (s : Shared) (H : Hp) (C : Addr) (cl : List (Str × Addr)) (fp : List Addr), PTs (X.blk s H scope (compEnvC scope cl C X.env) fp) ifs tt)
    (he : ∀ (s : Shared) (H : Hp) (C : Addr) (cl : List (Str × Addr)) (fp : List Addr), PE (X.blk s H scope (compEnvC scope cl C X.env) fp) elt te) (hs : ∀ x, foldedSetIterable iter X.env x = pure x := by intro _; rfl) :
    PE X (.SetComp elt [⟨tg, iter, ifs, 0⟩] scope pos) (tCol (fun D => SetTO X.prog X.w D []) wi g tt (taSet X.K X.prog X.w T te) (own.map (·.2))) := by
  refine ⟨fun pins s σ H Q I h => ?_⟩
  rw [arm_eval_SetComp]
  refine col_core (o0 := freshSet X.w) (add := addSet X.prog X.w X.A elt) ⟨rfl, fun {R it D env} I turn n s hn => PpSet.compLoopS_any I turn n hn, fun h0 h => PpSet.codeAny_compStart_set h0 h⟩ (fun hN hF z => ?_) (fun hQ => PpSet.newSet_ok hQ) (fun H h hb => setTO_new (setTR_fresh (Heap.get?_push_size _ rfl)).t0) hc hN I hi ok hg ht
    (fun s H C cl fp => ?_) hs h fun D C s' m H' I' q hn f => ⟨m, hn, fun h'' sb => ?_⟩
  · exact wpAny_mono z (fun kv s4 z => wpAny_mono z (fun _ s6 z => hN _ z) hF) hF
  · intro D pins s σ H N I h
    refine wpAny_mono ((he _ _ _ _ _).run _ _ _ _ _ I h) (fun kv s4 ⟨y, H4, I4, ry, qs, q, S, hy, hn, q4⟩ => ?_) fun _ _ z => z
    exact setE_add (X := X.blk _ _ _ _ _) T hu I4 S hy hn ry fun s' H' I' g W' => ⟨H', I', q4 H' g W'⟩
  · obtain ⟨f0, f1, f2, f3, f4, f5⟩ := f
    exact ⟨.ref D, H', I'.turned (t' := s'.toks) (fun b o hb e => (sb.2 b hb).trans e) f0 f1 f3 f4 f5, rfl, q⟩
/-- behind a turn of a set comprehension -/
def ScS (K : PySem.W.Frag) (P : Program) (w : World) (D : Addr) (R : Nat → List Pl → Hp → Prop) (i : Nat) (H : Hp) : Prop := ∃ qs, R i qs H ∧ SetE K P w H D qs
theorem sc_D {K : PySem.W.Frag} {P : Program} {w : World} (T : Tb) {J : It} {n : Nat} {G : Hp → Prop} {Y : Nat → Hp → V → Hp → Prop} (wk : Walk J n G Y) {g : TG} {tt : TT} {te : TE} {vs : List Nat} {σ : L2.St} {H1 : Hp} {D : Addr} {Qd : Hp → Prop} (hD : H1 D = none) (R : Nat → List Pl → Hp → Prop)
    (h0 : ∀ H, Go T [] H1 H → SetE K P w H D [] → R 0 [] H) (hG : ∀ i es H, i ≤ n → R i es H → G H)
    (hs : ∀ i es x H H', i < n → R i es H → SetE K P w H D es → Y i H x H' → g x (wipe σ vs) H' fun σ2 H2 => wipe σ2 vs = wipe σ vs ∧ tt σ2 H2 fun b H3 => if b = true then taSet K P w T te D σ2 H3 (ScS K P w D R (i + 1)) else ScS K P w D R (i + 1) H3)
    (hd : ∀ es H, R n es H → SetE K P w H D es → Qd H) :
    ∃ W : Nat → Nat → Hp → Prop, (∃ m, W 0 m (upd H1 D (SetTO P w D []))) ∧ ∀ i m H, W i m H → (J.stop i H ∧ Qd H) ∨
      (J.go i H ∧ ∃ Nx : Hp → Prop, (∀ H', Nx H' → ∃ m', m' < m ∧ W (i + 1) m' H') ∧ ∀ x H', J.yld i H x H' → g x (wipe σ vs) H' fun σ2 H2 => wipe σ2 vs = wipe σ vs ∧ tt σ2 H2 fun b H3 => if b = true then taSet K P w T te D σ2 H3 Nx else Nx H3) := by
  have e0 : SetE K P w (upd H1 D (SetTO P w D [])) D [] := ⟨[], upd_same, fun _ z => (nomatch z), .refl _⟩
  exact col_it (O := fun D => SetTO P w D []) wk (fun i H => ScS K P w D R i H) ⟨[], h0 _ (.new hD) e0, e0⟩ (fun i H hi ⟨es, p, _⟩ => hG i es H hi p) (fun i x H H' hi ⟨es, p, L⟩ y => hs i es x H H' hi p L y) fun H ⟨es, p, L⟩ => hd es H p L
end
end TG

/-! The mathematics: tiles, beds, what may come. -/
namespace TG
open PySem PySem.Spec L2 TGr
open PyProof.Rows hiding St

/-! ### places -/
def plLt (p q : Pl) : Prop := p.1 < q.1 ∨ (p.1 = q.1 ∧ p.2 < q.2)
theorem plLt_irrefl (p : Pl) : ¬ plLt p p := by
  unfold plLt
  omega
theorem plLt_trans {p q r : Pl} (h : plLt p q) (k : plLt q r) : plLt p r := by
  unfold plLt at *
  omega
theorem plLt_asymm {p q : Pl} (h : plLt p q) : ¬ plLt q p := by
  unfold plLt at *
  omega
theorem plLe_lt {p q : Pl} (h : plLe p q = true) (n : p ≠ q) : plLt p q := by
  unfold plLe at h
  have h := of_decide_eq_true h
  unfold plLt
  rcases h with h | ⟨h1, h2⟩
  · exact .inl h
  · rcases Int.lt_or_eq_of_le h2 with z | z
    · exact .inr ⟨h1, z⟩
    · exact absurd (Prod.ext h1 z) n
theorem sorted_lt {ps : List Pl} (hn : ps.Nodup) : (ps.mergeSort plLe).Pairwise plLt := by
  have h1 : (ps.mergeSort plLe).Pairwise (fun a b => plLe a b = true) := List.pairwise_mergeSort (fun a b c h k => by
    unfold plLe at *
    simp only [decide_eq_true_eq] at *
    omega) (fun a b => by
    unfold plLe
    simp only [Bool.or_eq_true, decide_eq_true_eq]
    omega) ps
  have h2 : (ps.mergeSort plLe).Nodup := (List.mergeSort_perm ps plLe).nodup_iff.mpr hn
  exact (List.Pairwise.and h1 h2).imp fun ⟨a, b⟩ => plLe_lt a b
theorem sorted_mem {ps : List Pl} {p : Pl} : p ∈ ps.mergeSort plLe ↔ p ∈ ps := (List.mergeSort_perm ps plLe).mem_iff
/-- strictly rising lists of the same places are one -/
theorem rising_eq : ∀ {l m : List Pl}, l.Pairwise plLt → m.Pairwise plLt → (∀ p, p ∈ l ↔ p ∈ m) → l = m
  | [], [], _, _, _ => rfl
  | [], q :: m, _, _, h => absurd ((h q).mpr List.mem_cons_self) (by simp)
  | p :: l, [], _, _, h => absurd ((h p).mp List.mem_cons_self) (by simp)
  | p :: l, q :: m, h1, h2, h => by
    obtain ⟨a1, a2⟩ := List.pairwise_cons.mp h1
    obtain ⟨b1, b2⟩ := List.pairwise_cons.mp h2
    have e : p = q := by
      rcases List.mem_cons.mp ((h p).mp List.mem_cons_self) with z | z
      · exact z
      · rcases List.mem_cons.mp ((h q).mpr List.mem_cons_self) with y | y
        · exact y.symm
        · exact absurd (b1 p z) (plLt_asymm (a1 q y))
    subst e
    rw [rising_eq a2 b2 fun r => ?_]
    constructor
    · intro hr
      rcases List.mem_cons.mp ((h r).mp (List.mem_cons_of_mem _ hr)) with z | z
      · subst z; exact absurd (a1 r hr) (plLt_irrefl r)
      · exact z
    · intro hr
      rcases List.mem_cons.mp ((h r).mpr (List.mem_cons_of_mem _ hr)) with z | z
      · subst z; exact absurd (b1 r hr) (plLt_irrefl r)
      · exact z
/-- the place at the side -/
def nb (p : Pl) : Nat → Pl
  | 0 => (p.1 - 1, p.2)
  | 1 => (p.1, p.2 - 1)
  | 2 => (p.1 + 1, p.2)
  | _ => (p.1, p.2 + 1)
def opp : Nat → Nat
  | 0 => 2
  | 1 => 3
  | 2 => 0
  | _ => 1
theorem four {i : Nat} (h : i < 4) : i = 0 ∨ i = 1 ∨ i = 2 ∨ i = 3 := by omega
theorem opp_lt {i : Nat} (h : i < 4) : opp i < 4 := by rcases four h with rfl | rfl | rfl | rfl <;> decide
theorem nb_back {p : Pl} {i : Nat} (h : i < 4) : nb (nb p i) (opp i) = p := by
  obtain ⟨x, y⟩ := p
  rcases four h with rfl | rfl | rfl | rfl <;> simp [nb, opp]
theorem nb_ne {p : Pl} {i : Nat} : nb p i ≠ p := fun h => by
  obtain ⟨x, y⟩ := p
  match i, h with
  | 0, h => have := congrArg Prod.fst h; simp [nb] at this; omega
  | 1, h => have := congrArg Prod.snd h; simp [nb] at this; omega
  | 2, h => have := congrArg Prod.fst h; simp [nb] at this; omega
  | _ + 3, h => have := congrArg Prod.snd h; simp [nb] at this; omega

/-! ### tiles -/
structure Ts where
  ns : List Dm
  gl : Dm → Nat → Dm
def gstr : Dm → Int
  | .tup [_, .num s] => s
  | _ => 0
/-- a glue: a label, a strength -/
def Glue (g : Dm) : Prop := ∃ l s, g = .tup [l, .num s] ∧ l.depth ≤ 6 ∧ 0 ≤ s ∧ s ≤ 2
theorem Glue.str {g : Dm} (h : Glue g) : 0 ≤ gstr g ∧ gstr g ≤ 2 := by
  obtain ⟨l, s, rfl, _, h1, h2⟩ := h
  exact ⟨h1, h2⟩
theorem depth_pair (a b : Dm) : NestedKey.depth (.tup [a, b]) = 1 + max a.depth (max b.depth 0) := by
  simp [NestedKey.depth, NestedKey.depthAll]; omega
theorem Glue.depth {g : Dm} (h : Glue g) : g.depth ≤ 7 := by
  obtain ⟨l, s, rfl, h1, _⟩ := h
  rw [depth_pair]
  simp [NestedKey.depth]
  omega
structure Ts.Ok (T : Ts) : Prop where
  nd : T.ns.Nodup
  len : T.ns.length ≤ 20
  nam : ∀ n ∈ T.ns, n ≠ .none ∧ n.depth ≤ 6
  glu : ∀ n ∈ T.ns, ∀ i, i < 4 → Glue (T.gl n i)

/-! ### a bed: the tiles that lie, by place -/
abbrev Es := List (Dm × Dm)
def at' (es : Es) (p : Pl) : Option Dm := look es (pd p)
/-- keys are places, tiles are known -/
structure BedOk (T : Ts) (es : Es) : Prop where
  key : ∃ ps : List Pl, es.map (·.1) = ps.map pd
  nd : (es.map (·.1)).Nodup
  nam : ∀ p n, at' es p = some n → n ∈ T.ns
def shownL (T : Ts) (es : Es) (p : Pl) : List (Nat × Dm) := [0, 1, 2, 3].filterMap fun i => (at' es (nb p i)).map fun m => (i, T.gl m (opp i))
def bondsOf (T : Ts) (n : Dm) : List (Nat × Dm) → Int
  | [] => 0
  | (i, g) :: r => (if T.gl n i = g then gstr g else 0) + bondsOf T n r
def bnd (T : Ts) (es : Es) (p : Pl) (n : Dm) : Int := bondsOf T n (shownL T es p)
def fit (T : Ts) (es : Es) (p : Pl) : List Dm := T.ns.filter fun n => decide (2 ≤ bnd T es p n)
/-- what the tile at the side adds -/
def tm (T : Ts) (es : Es) (p : Pl) (n : Dm) (i : Nat) : Int := match at' es (nb p i) with
  | none => 0
  | some m => if T.gl n i = T.gl m (opp i) then gstr (T.gl m (opp i)) else 0
theorem bondsOf_app (T : Ts) (n : Dm) : ∀ l m, bondsOf T n (l ++ m) = bondsOf T n l + bondsOf T n m
  | [], m => by simp [bondsOf]
  | (i, g) :: l, m => by
    rw [List.cons_append, bondsOf, bondsOf, bondsOf_app T n l m]
    omega
theorem bnd_tm (T : Ts) (es : Es) (p : Pl) (n : Dm) : bnd T es p n = tm T es p n 0 + tm T es p n 1 + tm T es p n 2 + tm T es p n 3 := by
  have one : ∀ i l, bondsOf T n ((i :: l).filterMap fun i => (at' es (nb p i)).map fun m => (i, T.gl m (opp i))) = tm T es p n i + bondsOf T n (l.filterMap fun i => (at' es (nb p i)).map fun m => (i, T.gl m (opp i))) := fun i l => by
    rw [List.filterMap_cons]
    unfold tm
    cases at' es (nb p i) with
    | none => simp
    | some m => simp [bondsOf]
  unfold bnd shownL
  rw [one, one, one, one]
  simp [bondsOf]
  omega
theorem tm_pos {T : Ts} (hT : T.Ok) {es : Es} (hE : BedOk T es) (p : Pl) (n : Dm) {i : Nat} (hi : i < 4) : 0 ≤ tm T es p n i := by
  unfold tm
  cases e : at' es (nb p i) with
  | none => exact Int.le_refl _
  | some m =>
    dsimp only
    split
    · exact (hT.glu m (hE.nam _ _ e) _ (opp_lt hi)).str.1
    · exact Int.le_refl _
/-- a bed that is told alike gives the same -/
def Eqv (es es' : Es) : Prop := ∀ p, at' es p = at' es' p
theorem tm_congr {T : Ts} {es es' : Es} {p : Pl} {n : Dm} {i : Nat} (h : at' es (nb p i) = at' es' (nb p i)) : tm T es p n i = tm T es' p n i := by
  unfold tm
  rw [h]
theorem bnd_congr {T : Ts} {es es' : Es} {p : Pl} {n : Dm} (h : ∀ i, i < 4 → at' es (nb p i) = at' es' (nb p i)) : bnd T es p n = bnd T es' p n := by
  rw [bnd_tm, bnd_tm, tm_congr (h 0 (by decide)), tm_congr (h 1 (by decide)), tm_congr (h 2 (by decide)), tm_congr (h 3 (by decide))]
theorem fit_congr {T : Ts} {es es' : Es} {p : Pl} (h : ∀ i, i < 4 → at' es (nb p i) = at' es' (nb p i)) : fit T es p = fit T es' p := by
  unfold fit
  refine List.filter_congr fun n _ => ?_
  rw [bnd_congr h]
theorem Eqv.fit {T : Ts} {es es' : Es} (h : Eqv es es') (p : Pl) : fit T es p = fit T es' p := fit_congr fun i _ => h _
theorem bnd_eqv {T : Ts} {es es' : Es} (h : Eqv es es') (p : Pl) (n : Dm) : bnd T es p n = bnd T es' p n := bnd_congr fun i _ => h _
/-- more tiles, more bonds -/
theorem bnd_mono {T : Ts} (hT : T.Ok) {es es' : Es} (hE : BedOk T es') (h : ∀ p n, at' es p = some n → at' es' p = some n) (p : Pl) (n : Dm) : bnd T es p n ≤ bnd T es' p n := by
  have one : ∀ i, i < 4 → tm T es p n i ≤ tm T es' p n i := fun i hi => by
    cases e : at' es (nb p i) with
    | none =>
      have e0 : tm T es p n i = 0 := by unfold tm; rw [e]
      rw [e0]
      exact tm_pos hT hE p n hi
    | some m =>
      refine Int.le_of_eq (tm_congr ?_)
      rw [e, h _ _ e]
  rw [bnd_tm, bnd_tm]
  have h0 := one 0 (by decide)
  have h1 := one 1 (by decide)
  have h2 := one 2 (by decide)
  have h3 := one 3 (by decide)
  omega
theorem fit_mono {T : Ts} (hT : T.Ok) {es es' : Es} (hE : BedOk T es') (h : ∀ p n, at' es p = some n → at' es' p = some n) {p : Pl} {n : Dm} (k : n ∈ fit T es p) : n ∈ fit T es' p := by
  unfold fit at *
  rw [List.mem_filter] at *
  refine ⟨k.1, ?_⟩
  have k2 := of_decide_eq_true k.2
  have := bnd_mono hT hE h p n
  exact decide_eq_true (by omega)
theorem mem_fit {T : Ts} {es : Es} {p : Pl} {n : Dm} : n ∈ fit T es p ↔ n ∈ T.ns ∧ 2 ≤ bnd T es p n := by
  unfold fit
  rw [List.mem_filter]
  simp
/-- a tile fits only beside another -/
theorem fit_near {T : Ts} {es : Es} {p : Pl} (h : fit T es p ≠ []) : ∃ i, i < 4 ∧ (at' es (nb p i)).isSome = true := by
  refine Classical.byContradiction fun c => h ?_
  have z : ∀ i, i < 4 → at' es (nb p i) = none := fun i hi => by
    cases e : at' es (nb p i) with
    | none => rfl
    | some m => exact absurd ⟨i, hi, by rw [e]; rfl⟩ c
  unfold fit
  rw [List.filter_eq_nil_iff]
  intro n _
  have t : ∀ i, i < 4 → tm T es p n i = 0 := fun i hi => by
    unfold tm
    rw [z i hi]
  rw [bnd_tm, t 0 (by decide), t 1 (by decide), t 2 (by decide), t 3 (by decide)]
  simp
/-! ### changes of a bed -/
theorem at_put (es : Es) (p q : Pl) (n : Dm) : at' (putD es (pd p) n) q = if q = p then some n else at' es q := by
  unfold at'
  rw [look_putD]
  by_cases h : q = p
  · rw [if_pos h, if_pos (by rw [h])]
  · rw [if_neg h, if_neg fun z => h (pd_inj z)]
theorem at_del (es : Es) (p q : Pl) : at' (delX es (pd p)) q = if q = p then none else at' es q := by
  unfold at'
  rw [look_delX]
  by_cases h : q = p
  · rw [if_pos h, if_pos (by rw [h])]
  · rw [if_neg h, if_neg fun z => h (pd_inj z)]
theorem keys_put {es : Es} {p : Pl} {n : Dm} (h : ∃ ps : List Pl, es.map (·.1) = ps.map pd) : ∃ ps : List Pl, (putD es (pd p) n).map (·.1) = ps.map pd := by
  obtain ⟨ps, e⟩ := h
  rw [putD_keys]
  split
  · exact ⟨ps, e⟩
  · exact ⟨ps ++ [p], by rw [e]; simp⟩
theorem nd_put {es : Es} {k d : Dm} (h : (es.map (·.1)).Nodup) : ((putD es k d).map (·.1)).Nodup := by
  rw [putD_keys]
  split
  · exact h
  · rename_i c
    have : k ∉ es.map (·.1) := by
      cases e : look es k with
      | none => exact look_none_iff.mp e
      | some d => rw [e] at c; exact absurd rfl c
    rw [List.nodup_append]
    exact ⟨h, by simp, fun a ha b hb => by rw [List.mem_singleton.mp hb]; exact fun z => this (z ▸ ha)⟩
theorem keys_del {es : Es} {p : Pl} (h : ∃ ps : List Pl, es.map (·.1) = ps.map pd) : ∃ ps : List Pl, (delX es (pd p)).map (·.1) = ps.map pd := by
  obtain ⟨ps, e⟩ := h
  refine ⟨ps.filter fun q => decide (q ≠ p), ?_⟩
  unfold delX
  induction es generalizing ps with
  | nil =>
    cases ps with
    | nil => rfl
    | cons _ _ => cases e
  | cons x es ih =>
    cases ps with
    | nil => cases e
    | cons q ps =>
      rw [List.map_cons, List.map_cons] at e
      injection e with e1 e2
      rw [List.filter_cons, List.filter_cons]
      by_cases c : q = p
      · rw [if_neg (by simp [e1, c]), if_neg (by simp [c])]
        exact ih ps e2
      · have c' : ¬ x.1 = pd p := fun z => c (pd_inj (e1.symm.trans z))
        rw [if_pos (by simp [c']), if_pos (by simp [c]), List.map_cons, List.map_cons, e1, ih ps e2]
theorem BedOk.put {T : Ts} {es : Es} (h : BedOk T es) {p : Pl} {n : Dm} (hn : n ∈ T.ns) : BedOk T (putD es (pd p) n) := by
  refine ⟨keys_put h.key, nd_put h.nd, fun q m e => ?_⟩
  rw [at_put] at e
  by_cases c : q = p
  · rw [if_pos c] at e; cases e; exact hn
  · rw [if_neg c] at e; exact h.nam q m e
theorem BedOk.del {T : Ts} {es : Es} (h : BedOk T es) {p : Pl} : BedOk T (delX es (pd p)) := by
  refine ⟨keys_del h.key, nodup_delX h.nd _, fun q m e => ?_⟩
  rw [at_del] at e
  by_cases c : q = p
  · rw [if_pos c] at e; cases e
  · rw [if_neg c] at e; exact h.nam q m e
theorem BedOk.nil (T : Ts) : BedOk T [] := ⟨⟨[], rfl⟩, List.nodup_nil, fun p n e => by cases e⟩
/-- the places that lie, by the keys -/
theorem mem_keys {es : Es} {ps : List Pl} (e : es.map (·.1) = ps.map pd) (p : Pl) : p ∈ ps ↔ (at' es p).isSome = true := by
  unfold at'
  have h : pd p ∈ es.map (·.1) ↔ p ∈ ps := by
    rw [e]
    constructor
    · intro z
      obtain ⟨q, hq, e⟩ := List.mem_map.mp z
      rw [← pd_inj e]
      exact hq
    · exact fun z => List.mem_map.mpr ⟨p, z, rfl⟩
  rw [← h]
  cases q : look es (pd p) with
  | none => simp [look_none_iff.mp q]
  | some d =>
    have hm := look_mem q
    simp only [Option.isSome_some, iff_true]
    exact List.mem_map.mpr ⟨_, hm, rfl⟩
theorem nd_keys {es : Es} {ps : List Pl} (e : es.map (·.1) = ps.map pd) (h : (es.map (·.1)).Nodup) : ps.Nodup := by
  rw [e] at h
  exact List.Pairwise.of_map pd (fun a b hne z => hne (by rw [z])) h
/-! ### what may come -/
/-- the entry of the coming ones at p -/
def comes (T : Ts) (es : Es) (p : Pl) : Option (List Dm) := if (at' es p).isSome then none else if fit T es p = [] then none else some (fit T es p)
/-- the dict of the coming ones -/
structure ComOk (T : Ts) (es cs : Es) : Prop where
  key : ∃ ps : List Pl, cs.map (·.1) = ps.map pd
  nd : (cs.map (·.1)).Nodup
  all : ∀ p, at' cs p = (comes T es p).map .tup
theorem comes_congr {T : Ts} {es es' : Es} {q : Pl} (h0 : at' es q = at' es' q) (h : ∀ i, i < 4 → at' es (nb q i) = at' es' (nb q i)) : comes T es q = comes T es' q := by
  unfold comes
  rw [h0, fit_congr h]
/-- far from the change all is as before -/
theorem comes_far {T : Ts} {es es' : Es} {p q : Pl} (h : ∀ r, r ≠ p → at' es r = at' es' r) (h0 : q ≠ p) (h1 : ∀ i, i < 4 → q ≠ nb p i) : comes T es q = comes T es' q :=
  comes_congr (h q h0) fun i hi => h _ fun z => h1 (opp i) (opp_lt hi) (by rw [← z, nb_back hi])
/-- the pairs that may come, by the rising list of their places -/
def mcL (T : Ts) (es : Es) (ks : List Pl) : List Dm := ks.flatMap fun p => (fit T es p).map fun n => .tup [pd p, n]
structure McOk (T : Ts) (es : Es) (ks : List Pl) : Prop where
  ris : ks.Pairwise plLt
  mem : ∀ p, p ∈ ks ↔ (at' es p).isSome = false ∧ fit T es p ≠ []
theorem McOk.eqv {T : Ts} {es es' : Es} {ks ks' : List Pl} (h : McOk T es ks) (h' : McOk T es' ks') (e : Eqv es es') : mcL T es ks = mcL T es' ks' := by
  have ek : ks = ks' := rising_eq h.ris h'.ris fun p => by rw [h.mem, h'.mem, e p, e.fit p]
  subst ek
  unfold mcL
  congr 1
  funext p
  rw [e.fit p]
theorem mem_mcL {T : Ts} {es : Es} {ks : List Pl} (h : McOk T es ks) {d : Dm} : d ∈ mcL T es ks ↔ ∃ p n, d = .tup [pd p, n] ∧ (at' es p).isSome = false ∧ n ∈ fit T es p := by
  unfold mcL
  rw [List.mem_flatMap]
  constructor
  · rintro ⟨p, hp, hd⟩
    obtain ⟨n, hn, rfl⟩ := List.mem_map.mp hd
    exact ⟨p, n, rfl, ((h.mem p).mp hp).1, hn⟩
  · rintro ⟨p, n, rfl, h1, h2⟩
    exact ⟨p, (h.mem p).mpr ⟨h1, fun z => by rw [z] at h2; cases h2⟩, List.mem_map.mpr ⟨n, h2, rfl⟩⟩
theorem com_mc {T : Ts} {es cs : Es} (h : ComOk T es cs) {ps : List Pl} (e : cs.map (·.1) = ps.map pd) : McOk T es (ps.mergeSort plLe) := by
  refine ⟨sorted_lt (nd_keys e h.nd), fun p => ?_⟩
  rw [sorted_mem, mem_keys e, h.all]
  unfold comes
  cases (at' es p).isSome
  · by_cases c : fit T es p = []
    · simp [c]
    · simp [c]
  · simp
/-- the pairs of place and tile, rising -/
def prL (es : Es) (ks : List Pl) : List Dm := ks.map fun p => .tup [pd p, (at' es p).getD .none]
theorem pr_eqv {es es' : Es} {ps ps' : List Pl} (e : es.map (·.1) = ps.map pd) (e' : es'.map (·.1) = ps'.map pd) (h : (es.map (·.1)).Nodup) (h' : (es'.map (·.1)).Nodup) (q : Eqv es es') : prL es (ps.mergeSort plLe) = prL es' (ps'.mergeSort plLe) ∧ es.length = es'.length := by
  have ek : ps.mergeSort plLe = ps'.mergeSort plLe := rising_eq (sorted_lt (nd_keys e h)) (sorted_lt (nd_keys e' h')) fun p => by rw [sorted_mem, sorted_mem, mem_keys e, mem_keys e', q p]
  refine ⟨?_, ?_⟩
  · rw [ek]
    unfold prL
    refine List.map_congr_left fun p _ => ?_
    rw [q p]
  · have h1 := congrArg List.length e
    have h2 := congrArg List.length e'
    have h3 := congrArg List.length ek
    simp only [List.length_map, List.length_mergeSort] at h1 h2 h3
    omega
end TG

/-! The program's defs: places, glues, sides. -/
namespace TG
open PySem PySem.Spec L2 TGr LamX
open PyProof.Rows hiding St

def top (i : Nat) : Stmt := PySem.Challenge.pw_tilesregrow_k05_whole_comings_commute.main.body.getD i (.Pass ⟨0, 0, 0, 0⟩)
/-- a def of the top -/
structure TopF (K : PySem.W.Frag) (mg : Str → Option Value) (x : Str) (st : Stmt) (ps : List Str) (f : Addr) (fd : FuncData) : Prop where
  mg : mg x = some (.ref f)
  fn : Fun K x x st f fd
  b : Binds K fd ps []
/-- a method -/
structure MetF (K : PySem.W.Frag) (C : Addr) (m qual : Str) (st : Stmt) (ps : List Str) (f : Addr) (fd : FuncData) : Prop where
  me : Meth K C m f
  fn : Fun K m qual st f fd
  b : Binds K fd ps []
/-- the names of built-ins are not the module's -/
structure Blt (mg : Str → Option Value) : Prop where
  isinstance : mg "isinstance" = none
  int : mg "int" = none
  bool : mg "bool" = none
  tuple : mg "tuple" = none
  len : mg "len" = none
  all : mg "all" = none
  list : mg "list" = none
  sorted : mg "sorted" = none
  range : mg "range" = none
  enumerate : mg "enumerate" = none
  repr : mg "repr" = none
  str : mg "str" = none
  sum : mg "sum" = none
  set : mg "set" = none
section
variable {P : Program} {w : World} {K : PySem.W.Frag} {mg : Str → Option Value} {base : Heap} {f : Addr} {fd : FuncData}
theorem tyT {H : Hp} {a : Addr} {xs : List V} (h : SqT K H a xs) : TyX K H (.ref a) (.type "tuple") := by
  rcases h with (h | ⟨o, h⟩) | ⟨o, _, _, h, c, _⟩
  · exact .base (.tup h)
  · exact .fTuple h
  · exact .kTuple h c
theorem isi_int {X : Cx} : CallR X (.builtin "isinstance") (fun vs H Q => ∃ i : Int, vs = [.int i, .ty "int"] ∧ Q (.bl true) H) :=
  CallR.imp call_isi fun vs H Q ⟨i, e, q⟩ => ⟨_, _, .type "int", _, true, e, .ty _, .base (.int i), kit_ty (by decide +kernel), q⟩
theorem isi_bool {X : Cx} : CallR X (.builtin "isinstance") (fun vs H Q => ∃ i : Int, vs = [.int i, .ty "bool"] ∧ Q (.bl false) H) :=
  CallR.imp call_isi fun vs H Q ⟨i, e, q⟩ => ⟨_, _, .type "int", _, false, e, .ty _, .base (.int i), kit_ty (by decide +kernel), q⟩
theorem isi_tup {X : Cx} : CallR X (.builtin "isinstance") (fun vs H Q => ∃ a xs, vs = [.ref a, .ty "tuple"] ∧ SqT X.K H a xs ∧ Q (.bl true) H) :=
  CallR.imp call_isi fun vs H Q ⟨a, xs, e, h, q⟩ => ⟨_, _, .type "tuple", _, true, e, .ty _, tyT h, kit_ty (by decide +kernel), q⟩
theorem sz0 : 0 ≤ sizeLine := by decide
theorem sz1 : 1 ≤ sizeLine := by decide
theorem sz2 : 2 ≤ sizeLine := by decide
theorem sz3 : 3 ≤ sizeLine := by decide
theorem sz4 : 4 ≤ sizeLine := by decide
theorem sz5 : 5 ≤ sizeLine := by decide
theorem lsz {n : Nat} (h : n ≤ 1000) : n < sizeLine := Nat.lt_of_le_of_lt h (by decide)
/-! ### is_integer(i) -/
abbrev sIsInt : Stmt := top 11
theorem scIsInt : FnScope ["value"] ["value"] (defScope sIsInt) := ⟨rfl, rfl, rfl, by decide +kernel, rfl, by decide +kernel, by decide +kernel⟩
def spIsInt : Sp := fun vs H Q _ => ∃ i : Int, vs = [.int i] ∧ Q (.bl true) H
theorem ok_isInt (F : TopF K mg "is_integer" sIsInt ["value"] f fd) (B : Blt mg) : FnOk P w K mg base CX0 1 f fd ["value"] spIsInt := by
  refine F.fn.ok scIsInt (fun vs H Q E h => ?_) (fun cdv A outer s H vs Q E hr h => ?_)
  · obtain ⟨i, rfl, _⟩ := h
    rfl
  · obtain ⟨i, rfl, q⟩ := h
    refine ⟨_, pss_one (ps_ret (pe_and (pe_callB isi_int (by rfl) B.isinstance (by decide +kernel) (pa_cons (pv 0) (pa_cons (pe_bltn (v := .ty "int") (by rfl) B.int boot_int rfl) pa_nil)))
      (pe_one (pe_not (pe_callB isi_bool (by rfl) B.isinstance (by decide +kernel) (pa_cons (pv 0) (pa_cons (pe_bltn (v := .ty "bool") (by rfl) B.bool boot_bool rfl) pa_nil))))))), ?_⟩
    refine ⟨_, rfl, i, rfl, true, rfl, iteT ?_⟩
    exact ⟨_, rfl, i, rfl, false, rfl, q⟩
/-! ### is_place(p) -/
abbrev sIsPl : Stmt := top 12
theorem scIsPl : FnScope ["value"] ["value"] (defScope sIsPl) := ⟨rfl, rfl, rfl, by decide +kernel, rfl, by decide +kernel, by decide +kernel⟩
def spIsPl (K : PySem.W.Frag) : Sp := fun vs H Q _ => ∃ (p : Pl) (x : V), vs = [x] ∧ Dat K H (pd p) x ∧ Q (.bl true) H
variable {fI : Addr} {fdI : FuncData}
theorem ok_isPl (F : TopF K mg "is_place" sIsPl ["value"] f fd) (B : Blt mg) (FI : TopF K mg "is_integer" sIsInt ["value"] fI fdI) : FnOk P w K mg base CX0 2 f fd ["value"] (spIsPl K) := by
  have GI : FnOk P w K mg base CX0 1 fI fdI ["value"] spIsInt := ok_isInt FI B
  refine F.fn.ok scIsPl (fun vs H Q E h => ?_) (fun cdv A outer s H vs Q E hr h => ?_)
  · obtain ⟨p, x, rfl, _⟩ := h
    rfl
  · obtain ⟨⟨i, j⟩, x, rfl, hd, q⟩ := h
    obtain ⟨a, rfl, hs⟩ := hd.pl
    refine ⟨_, pss_one (ps_ret (pe_and (pe_callB isi_tup (by rfl) B.isinstance (by decide +kernel) (pa_cons (pv 0) (pa_cons (pe_bltn (v := .ty "tuple") (by rfl) B.tuple boot_tuple rfl) pa_nil)))
      (pe_and (pe_cmpR op_eq (pe_callB call_lenL (by rfl) B.len boot_len (pa_cons (pv 0) pa_nil)) pe_int (nomark _))
      (pe_and (pe_call GI hr (by rfl) FI.mg FI.fn.kp FI.b .nil pass0 (pa_cons (pe_ix ix_DL (pv 0) pe_int (fun _ _ => rfl)) pa_nil))
      (pe_one (pe_call GI hr (by rfl) FI.mg FI.fn.kp FI.b .nil pass0 (pa_cons (pe_ix ix_DL (pv 0) pe_int (fun _ _ => rfl)) pa_nil))))))), ?_⟩
    refine ⟨_, rfl, a, _, rfl, hs, true, rfl, iteT ?_⟩
    refine ⟨_, rfl, [.num i, .num j], _, rfl, .inr hd, rfl, true, rfl, iteT ?_⟩
    refine ⟨_, rfl, [.num i, .num j], 0, .num i, .inr hd, rfl, rfl, fun v hv => ?_⟩
    obtain rfl := hv.numI
    refine ⟨i, rfl, true, rfl, iteT ?_⟩
    refine ⟨_, rfl, [.num i, .num j], 1, .num j, .inr hd, rfl, rfl, fun v hv => ?_⟩
    obtain rfl := hv.numI
    exact ⟨j, rfl, q⟩
/-! ### is_glue(g) -/
abbrev sIsGl : Stmt := top 13
theorem scIsGl : FnScope ["value"] ["value"] (defScope sIsGl) := ⟨rfl, rfl, rfl, by decide +kernel, rfl, by decide +kernel, by decide +kernel⟩
def spIsGl (K : PySem.W.Frag) : Sp := fun vs H Q _ => ∃ (g : Dm) (x : V), vs = [x] ∧ Glue g ∧ Dat K H g x ∧ Q (.bl true) H
theorem ok_isGl (F : TopF K mg "is_glue" sIsGl ["value"] f fd) (B : Blt mg) (FI : TopF K mg "is_integer" sIsInt ["value"] fI fdI) : FnOk P w K mg base CX0 2 f fd ["value"] (spIsGl K) := by
  have GI : FnOk P w K mg base CX0 1 fI fdI ["value"] spIsInt := ok_isInt FI B
  refine F.fn.ok scIsGl (fun vs H Q E h => ?_) (fun cdv A outer s H vs Q E hr h => ?_)
  · obtain ⟨p, x, rfl, _⟩ := h
    rfl
  · obtain ⟨g, x, rfl, ⟨l, st, rfl, hl, h0, h2⟩, hd, q⟩ := h
    obtain ⟨a, y, z, rfl, hs, _, _⟩ := hd.two
    refine ⟨_, pss_one (ps_ret (pe_and (pe_callB isi_tup (by rfl) B.isinstance (by decide +kernel) (pa_cons (pv 0) (pa_cons (pe_bltn (v := .ty "tuple") (by rfl) B.tuple boot_tuple rfl) pa_nil)))
      (pe_and (pe_cmpR op_eq (pe_callB call_lenL (by rfl) B.len boot_len (pa_cons (pv 0) pa_nil)) pe_int (nomark _))
      (pe_and (pe_call GI hr (by rfl) FI.mg FI.fn.kp FI.b .nil pass0 (pa_cons (pe_ix ix_DL (pv 0) pe_int (fun _ _ => rfl)) pa_nil))
      (pe_one (pe_chain op_le op_le pe_int (pe_ix ix_DL (pv 0) pe_int (fun _ _ => rfl)) pe_int)))))), ?_⟩
    refine ⟨_, rfl, a, _, rfl, hs, true, rfl, iteT ?_⟩
    refine ⟨_, rfl, [l, .num st], _, rfl, .inr hd, rfl, true, rfl, iteT ?_⟩
    refine ⟨_, rfl, [l, .num st], 1, .num st, .inr hd, rfl, rfl, fun v hv => ?_⟩
    obtain rfl := hv.numI
    refine ⟨st, rfl, true, rfl, iteT ?_⟩
    refine ⟨_, rfl, [l, .num st], 1, .num st, .inr hd, rfl, rfl, fun v hv => ?_⟩
    obtain rfl := hv.numI
    refine ⟨_, _, rfl, rfl, true, congrArg V.bl (decide_eq_true h0), iteT ?_⟩
    refine ⟨_, _, rfl, rfl, ?_⟩
    rw [show (fun i j : Int => V.bl (decide (i ≤ j))) st 2 = V.bl true from congrArg V.bl (decide_eq_true h2)]
    exact q
/-! ### check_place(p), check_side(i) -/
abbrev sCkPl : Stmt := top 14
theorem scCkPl : FnScope ["value"] ["value"] (defScope sCkPl) := ⟨rfl, rfl, rfl, by decide +kernel, rfl, by decide +kernel, by decide +kernel⟩
def spCkPl (K : PySem.W.Frag) : Sp := fun vs H Q _ => ∃ (p : Pl) (x : V), vs = [x] ∧ Dat K H (pd p) x ∧ Q .non H
variable {fP : Addr} {fdP : FuncData}
theorem ok_ckPl (F : TopF K mg "check_place" sCkPl ["value"] f fd) (GP : FnOk P w K mg base CX0 2 fP fdP ["value"] (spIsPl K)) (FP : TopF K mg "is_place" sIsPl ["value"] fP fdP) : FnOk P w K mg base CX0 3 f fd ["value"] (spCkPl K) := by
  refine F.fn.ok scCkPl (fun vs H Q E h => ?_) (fun cdv A outer s H vs Q E hr h => ?_)
  · obtain ⟨p, x, rfl, _⟩ := h
    rfl
  · obtain ⟨p, x, rfl, hd, q⟩ := h
    refine ⟨_, pss_one (ps_if (pt_not (pt_val (pe_call GP hr (by rfl) FP.mg FP.fn.kp FP.b .nil pass0 (pa_cons (pv 0) pa_nil)))) (pss_one ps_never) pss_nil), ?_⟩
    exact ⟨_, rfl, p, x, rfl, hd, true, rfl, iteF q⟩
abbrev sCkSd : Stmt := top 15
theorem scCkSd : FnScope ["value"] ["value"] (defScope sCkSd) := ⟨rfl, rfl, rfl, by decide +kernel, rfl, by decide +kernel, by decide +kernel⟩
def spCkSd : Sp := fun vs H Q _ => ∃ i : Nat, i < 4 ∧ vs = [.int i] ∧ Q .non H
theorem ok_ckSd (F : TopF K mg "check_side" sCkSd ["value"] f fd) (B : Blt mg) (FI : TopF K mg "is_integer" sIsInt ["value"] fI fdI) : FnOk P w K mg base CX0 2 f fd ["value"] spCkSd := by
  have GI : FnOk P w K mg base CX0 1 fI fdI ["value"] spIsInt := ok_isInt FI B
  refine F.fn.ok scCkSd (fun vs H Q E h => ?_) (fun cdv A outer s H vs Q E hr h => ?_)
  · obtain ⟨i, _, rfl, _⟩ := h
    rfl
  · obtain ⟨i, hi, rfl, q⟩ := h
    refine ⟨_, pss_one (ps_if (PW.pt (pw_or (pt_not (pt_val (pe_call GI hr (by rfl) FI.mg FI.fn.kp FI.b .nil pass0 (pa_cons (pv 0) pa_nil)))) (pw_or1 (pt_not (pt_chain op_le op_le pe_int (pv 0) pe_int))))) (pss_one ps_never) pss_nil), ?_⟩
    refine ⟨_, rfl, i, rfl, true, rfl, iteF ?_⟩
    refine ⟨_, rfl, _, _, rfl, rfl, true, congrArg V.bl (decide_eq_true (by omega)), iteT ?_⟩
    exact ⟨_, _, rfl, rfl, true, congrArg V.bl (decide_eq_true (by omega)), iteF q⟩
/-! ### beside(p) -/
abbrev sBes : Stmt := top 16
theorem scBes : FnScope ["place", "across", "up"] ["place"] (defScope sBes) := ⟨rfl, rfl, rfl, by decide +kernel, rfl, by decide +kernel, by decide +kernel⟩
def bes (p : Pl) : List Dm := [pd (nb p 0), pd (nb p 1), pd (nb p 2), pd (nb p 3)]
def spBes (K : PySem.W.Frag) (T : Tb) : Sp := fun vs H Q _ => ∃ (p : Pl) (x : V), vs = [x] ∧ Dat K H (pd p) x ∧ ∀ a H', Go T [] H H' → Dat K H' (.tup (bes p)) (.ref a) → Q (.ref a) H'
variable {fC : Addr} {fdC : FuncData}
theorem ok_bes (T : Tb) (F : TopF K mg "beside" sBes ["place"] f fd) (GC : FnOk P w K mg base CX0 3 fC fdC ["value"] (spCkPl K)) (FC : TopF K mg "check_place" sCkPl ["value"] fC fdC) : FnOk P w K mg base CX0 4 f fd ["place"] (spBes K T) := by
  refine F.fn.ok scBes (fun vs H Q E h => ?_) (fun cdv A outer s H vs Q E hr h => ?_)
  · obtain ⟨p, x, rfl, _⟩ := h
    rfl
  · obtain ⟨⟨i, j⟩, x, rfl, hd, q⟩ := h
    obtain ⟨a, rfl, hs⟩ := hd.pl
    refine ⟨_, pss_cons (ps_expr (pe_call GC hr (by rfl) FC.mg FC.fn.kp FC.b .nil pass0 (pa_cons (pv 0) pa_nil)))
      (pss_cons (ps_asg (pv 0) (pg_tup (by rfl) (pgs_cons (pg_name (i := 1) scBes.nd rfl (.inl rfl)) (pgs_cons (pg_name (i := 2) scBes.nd rfl (.inl rfl)) pgs_nil))))
      (pss_one (ps_ret (pe_tupD T (pa_cons (pe_tupD T (pa_cons (pe_op op_sub (pv 1) pe_int) (pa_cons (pv 2) pa_nil)))
        (pa_cons (pe_tupD T (pa_cons (pv 1) (pa_cons (pe_op op_sub (pv 2) pe_int) pa_nil)))
        (pa_cons (pe_tupD T (pa_cons (pe_op op_add (pv 1) pe_int) (pa_cons (pv 2) pa_nil)))
        (pa_cons (pe_tupD T (pa_cons (pv 1) (pa_cons (pe_op op_add (pv 2) pe_int) pa_nil))) pa_nil)))))))), ?_⟩
    refine ⟨_, rfl, (i, j), _, rfl, hd, ?_⟩
    refine ⟨_, rfl, a, _, rfl, hs, rfl, _, _, rfl, _, _, rfl, rfl, ?_⟩
    have two : ∀ {H : Hp} {x y : Int}, DatA K H [.num x, .num y] [.int x, .int y] := .cons (.num _) (.cons (.num _) .nil)
    refine ⟨_, rfl, _, _, rfl, rfl, _, rfl, [.num (i - 1), .num j], two, sz2, fun p1 H1 n1 g1 d1 => ?_⟩
    refine ⟨_, rfl, _, rfl, _, _, rfl, rfl, [.num i, .num (j - 1)], two, sz2, fun p2 H2 n2 g2 d2 => ?_⟩
    refine ⟨_, rfl, _, _, rfl, rfl, _, rfl, [.num (i + 1), .num j], two, sz2, fun p3 H3 n3 g3 d3 => ?_⟩
    refine ⟨_, rfl, _, rfl, _, _, rfl, rfl, [.num i, .num (j + 1)], two, sz2, fun p4 H4 n4 g4 d4 => ?_⟩
    refine ⟨bes (i, j), .cons (g4.dat (g3.dat (g2.dat d1))) (.cons (g4.dat (g3.dat d2)) (.cons (g4.dat d3) (.cons d4 .nil))), sz4, fun p5 H5 n5 g5 d5 => ?_⟩
    exact q p5 H5 (g1.trans (g2.trans (g3.trans (g4.trans g5)))) d5
end
end TG

/-! The program's defs: Tile, TileSet. -/
namespace TG
open PySem PySem.Spec L2 TGr LamX
open PyProof.Rows hiding St

theorem Dat.nn {K : PySem.W.Frag} {H : Hp} {d : Dm} {x : V} (h : Dat K H d x) (n : d ≠ .none) : decide (x = .non) = false := by
  cases h with
  | non => exact absurd rfl n
  | _ => rfl
theorem LstW.tup {K : PySem.W.Frag} {H : Hp} {ds : List Dm} {p : Addr} (h : Dat K H (.tup ds) (.ref p)) : ∃ xs, SqT K H p xs := let ⟨_, xs, e, q, _⟩ := h.tupI; by cases e; exact ⟨xs, q⟩
theorem yesT {σ : L2.St} {H : Hp} {A B : Hp → Prop} (h : A H) : tYes σ H fun b H3 => if b = true then A H3 else B H3 := by
  show (if true = true then A H else B H)
  rw [if_pos rfl]
  exact h
theorem Go.i5 {T : Tb} {H : Hp} {t C dx : Addr} {fs f1 f2 f3 f4 f5 : List (Str × V)} (h : H t = some (.ins C dx fs)) : Go T [t] H (upd (upd (upd (upd (upd H t (.ins C dx f1)) t (.ins C dx f2)) t (.ins C dx f3)) t (.ins C dx f4)) t (.ins C dx f5)) :=
  (Go.setI h).trans ((Go.setI upd_same).trans ((Go.setI upd_same).trans ((Go.setI upd_same).trans (Go.setI upd_same))))
/-! ### Tile -/
abbrev sTiI : Stmt := inClass (top 17) 0
abbrev sTiG : Stmt := inClass (top 17) 1
def sideN : Nat → Str
  | 0 => "west"
  | 1 => "south"
  | 2 => "east"
  | _ => "north"
structure TxtT (K : PySem.W.Frag) (mg : Str → Option Value) (CT : Addr) : Prop where
  cl : Cls K CT
  mg : mg "Tile" = some (.ref CT)
  nN : NoAttr K CT "name"
  nW : NoAttr K CT "west"
  nS : NoAttr K CT "south"
  nE : NoAttr K CT "east"
  nO : NoAttr K CT "north"
/-- a Tile stands at t: its name, its glues -/
structure TileG (K : PySem.W.Frag) (CT : Addr) (H : Hp) (t : Addr) (n : Dm) (g : Nat → Dm) : Prop where
  ex : ∃ (dx : Addr) (vn v0 v1 v2 v3 : V), H t = some (.ins CT dx (putF "north" v3 (putF "east" v2 (putF "south" v1 (putF "west" v0 (putF "name" vn [])))))) ∧ Dat K H n vn ∧ Dat K H (g 0) v0 ∧ Dat K H (g 1) v1 ∧ Dat K H (g 2) v2 ∧ Dat K H (g 3) v3
theorem TileG.go {K : PySem.W.Frag} {CT : Addr} {H H' : Hp} {t : Addr} {n : Dm} {g : Nat → Dm} {T : Tb} {S : List Addr} (h : TileG K CT H t n g) (G : Go T S H H') (hs : t ∉ S) : TileG K CT H' t n g := by
  obtain ⟨dx, vn, v0, v1, v2, v3, h, a, b, c, d, e⟩ := h.ex
  exact ⟨dx, vn, v0, v1, v2, v3, G.ins h hs, G.dat a, G.dat b, G.dat c, G.dat d, G.dat e⟩
theorem tl_name {vn v0 v1 v2 v3 : V} : (putF "north" v3 (putF "east" v2 (putF "south" v1 (putF "west" v0 (putF "name" vn []))))).lookup ("name" : Str) = some vn := by
  rw [lookup_putF, if_neg (by decide +kernel), lookup_putF, if_neg (by decide +kernel), lookup_putF, if_neg (by decide +kernel), lookup_putF, if_neg (by decide +kernel), lookup_putF, if_pos rfl]
theorem tl_west {vn v0 v1 v2 v3 : V} : (putF "north" v3 (putF "east" v2 (putF "south" v1 (putF "west" v0 (putF "name" vn []))))).lookup ("west" : Str) = some v0 := by
  rw [lookup_putF, if_neg (by decide +kernel), lookup_putF, if_neg (by decide +kernel), lookup_putF, if_neg (by decide +kernel), lookup_putF, if_pos rfl]
theorem tl_south {vn v0 v1 v2 v3 : V} : (putF "north" v3 (putF "east" v2 (putF "south" v1 (putF "west" v0 (putF "name" vn []))))).lookup ("south" : Str) = some v1 := by
  rw [lookup_putF, if_neg (by decide +kernel), lookup_putF, if_neg (by decide +kernel), lookup_putF, if_pos rfl]
theorem tl_east {vn v0 v1 v2 v3 : V} : (putF "north" v3 (putF "east" v2 (putF "south" v1 (putF "west" v0 (putF "name" vn []))))).lookup ("east" : Str) = some v2 := by
  rw [lookup_putF, if_neg (by decide +kernel), lookup_putF, if_pos rfl]
theorem tl_north {vn v0 v1 v2 v3 : V} : (putF "north" v3 (putF "east" v2 (putF "south" v1 (putF "west" v0 (putF "name" vn []))))).lookup ("north" : Str) = some v3 := by
  rw [lookup_putF, if_pos rfl]
theorem putF_len (x : Str) (v : V) : ∀ fs : List (Str × V), (putF x v fs).length ≤ fs.length + 1
  | [] => by simp [putF]
  | (y, u) :: r => by
    unfold putF
    split
    · simp
    · have := putF_len x v r
      simp only [List.length_cons]
      omega
section
variable {P : Program} {w : World} {K : PySem.W.Frag} {mg : Str → Option Value} {base : Heap} {f fC fG : Addr} {fd fdC fdG : FuncData} {CT : Addr}
theorem scTiI : FnScope ["self", "name", "west", "south", "east", "north", "glue"] ["self", "name", "west", "south", "east", "north"] (defScope sTiI) := ⟨rfl, rfl, rfl, by decide +kernel, rfl, by decide +kernel, by decide +kernel⟩
def spTiI (K : PySem.W.Frag) (T : Tb) (CT : Addr) : Sp := fun vs H Q _ => ∃ (t dx : Addr) (n : Dm) (g : Nat → Dm) (vn v0 v1 v2 v3 : V), vs = [.ref t, vn, v0, v1, v2, v3] ∧ H t = some (.ins CT dx []) ∧ Dat K H n vn ∧ n ≠ .none ∧ (∀ i, i < 4 → Glue (g i)) ∧
  Dat K H (g 0) v0 ∧ Dat K H (g 1) v1 ∧ Dat K H (g 2) v2 ∧ Dat K H (g 3) v3 ∧ ∀ H', Go T [t] H H' → TileG K CT H' t n g → Q .non H'
theorem ok_tiI (T : Tb) (F : Fun K "__init__" "Tile.__init__" sTiI f fd) (B : Blt mg) (X : TxtT K mg CT) (GG : FnOk P w K mg base CX0 2 fG fdG ["value"] (spIsGl K)) (FG : TopF K mg "is_glue" sIsGl ["value"] fG fdG) :
    FnOk P w K mg base CX0 3 f fd ["self", "name", "west", "south", "east", "north"] (spTiI K T CT) := by
  refine F.ok scTiI (fun vs H Q E h => ?_) (fun cdv A outer s H vs Q E hr h => ?_)
  · obtain ⟨t, dx, n, g, vn, v0, v1, v2, v3, rfl, _⟩ := h
    rfl
  · obtain ⟨t, dx, n, g, vn, v0, v1, v2, v3, rfl, ht, hn, nn, hg, h0, h1, h2, h3, q⟩ := h
    refine ⟨_, pss_cons (ps_if (PW.pt (pw_or (pt_cmpR op_isN (pv 1) pe_non (nomark _)) (pw_or1 (pt_not (pt_val (pe_callB (cr_all rfl) (by rfl) B.all (by decide +kernel) (pa_cons
        (pe_lc (own := [("glue", 6)]) (g := gName 6) (by rfl) scTiI.nd (pi_tup (pe_tupD T (pa_cons (pv 2) (pa_cons (pv 3) (pa_cons (pv 4) (pa_cons (pv 5) pa_nil))))))
          (blkOk_by (own := [("glue", 6)]) (N := ["self", "name", "west", "south", "east", "north", "glue"]) (sc := defScope sTiI) (by decide +kernel)) (fun _ _ _ _ _ => pg_name (i := 6) scTiI.nd rfl (Or.inl rfl)) (fun _ _ _ _ _ => pts_nil)
          (fun _ _ _ _ _ => pe_call GG hr (by rfl) FG.mg FG.fn.kp FG.b .nil pass0 (pa_cons (pv 6) pa_nil))) pa_nil))))))) (pss_one ps_never) pss_nil)
      (pss_cons (ps_fld (pv 0) (pv 1) rfl) (pss_cons (ps_fld (pv 0) (pv 2) rfl) (pss_cons (ps_fld (pv 0) (pv 3) rfl) (pss_cons (ps_fld (pv 0) (pv 4) rfl) (pss_one (ps_fld (pv 0) (pv 5) rfl)))))), ?_⟩
    refine ⟨_, rfl, rfl, _, rfl, ?_⟩
    rw [hn.nn nn]
    refine iteF ?_
    refine ⟨_, rfl, _, rfl, _, rfl, _, rfl, [g 0, g 1, g 2, g 3], .cons h0 (.cons h1 (.cons h2 (.cons h3 .nil))), sz4, fun p H1 n1 g1 d1 => ⟨p, rfl, LstW.tup d1, fun D hD => ?_⟩⟩
    refine lc_it (walk_Tp (ds := [g 0, g 1, g 2, g 3])) (fun i H2 => Go T [D] H1 H2 ∧ H2 D = some (.lst ((List.replicate i true).map V.bl))) ⟨.new hD, upd_same⟩ (fun i H2 _ ⟨z, _⟩ => z.dat d1) ?_ ?_
    · rintro i x H2 H3 hi ⟨z, hl⟩ ⟨rfl, d, hd, hx⟩
      have gd : Glue d := by
        rcases four hi with rfl | rfl | rfl | rfl <;> cases hd
        · exact hg 0 (by decide)
        · exact hg 1 (by decide)
        · exact hg 2 (by decide)
        · exact hg 3 (by decide)
      refine ⟨rfl, yesT ?_⟩
      refine ⟨_, rfl, d, x, rfl, gd, hx, _, hl, ?_, z.trans (.setL hl), ?_⟩
      · rw [List.length_map, List.length_replicate]
        exact Nat.lt_of_lt_of_le hi sz4
      · rw [upd_same]
        simp [List.replicate_succ']
    · rintro H2 ⟨z, hl⟩
      have g2 : Go T [] H H2 := g1.trans (z.drop hD)
      refine ⟨D, List.replicate 4 true, rfl, .inl (.inl hl), true, rfl, iteF ?_⟩
      have z1 := g2.ins ht (by simp)
      refine ⟨_, rfl, _, rfl, t, CT, dx, [], rfl, z1, X.cl, X.nN, by decide, ?_⟩
      refine ⟨_, rfl, _, rfl, t, CT, dx, _, rfl, upd_same, X.cl, X.nW, Nat.lt_of_le_of_lt (putF_len _ _ _) (by decide), ?_⟩
      refine ⟨_, rfl, _, rfl, t, CT, dx, _, rfl, upd_same, X.cl, X.nS, Nat.lt_of_le_of_lt (putF_len _ _ _) (Nat.lt_of_le_of_lt (Nat.succ_le_succ (putF_len _ _ _)) (by decide)), ?_⟩
      refine ⟨_, rfl, _, rfl, t, CT, dx, _, rfl, upd_same, X.cl, X.nE, ?_, ?_⟩
      · have a1 := putF_len "name" vn []
        have a2 := putF_len "west" v0 (putF "name" vn [])
        have a3 := putF_len "south" v1 (putF "west" v0 (putF "name" vn []))
        simp only [List.length_nil] at a1
        omega
      refine ⟨_, rfl, _, rfl, t, CT, dx, _, rfl, upd_same, X.cl, X.nO, ?_, ?_⟩
      · have a1 := putF_len "name" vn []
        have a2 := putF_len "west" v0 (putF "name" vn [])
        have a3 := putF_len "south" v1 (putF "west" v0 (putF "name" vn []))
        have a4 := putF_len "east" v2 (putF "south" v1 (putF "west" v0 (putF "name" vn [])))
        simp only [List.length_nil] at a1
        omega
      have z5 := g2.up.trans (Go.i5 (T := T) (f1 := putF "name" vn []) (f2 := putF "west" v0 (putF "name" vn [])) (f3 := putF "south" v1 (putF "west" v0 (putF "name" vn []))) (f4 := putF "east" v2 (putF "south" v1 (putF "west" v0 (putF "name" vn [])))) (f5 := putF "north" v3 (putF "east" v2 (putF "south" v1 (putF "west" v0 (putF "name" vn []))))) z1)
      exact q _ z5 ⟨dx, vn, v0, v1, v2, v3, upd_same, z5.dat hn, z5.dat h0, z5.dat h1, z5.dat h2, z5.dat h3⟩
/-! ### glue_at -/
theorem scTiG : FnScope ["self", "side"] ["self", "side"] (defScope sTiG) := ⟨rfl, rfl, rfl, by decide +kernel, rfl, by decide +kernel, by decide +kernel⟩
def spTiG (K : PySem.W.Frag) (T : Tb) (CT : Addr) : Sp := fun vs H Q _ => ∃ (t : Addr) (n : Dm) (g : Nat → Dm) (i : Nat), vs = [.ref t, .int i] ∧ i < 4 ∧ TileG K CT H t n g ∧ ∀ v H', Go T [] H H' → Dat K H' (g i) v → Q v H'
theorem ok_tiG (T : Tb) (F : Fun K "glue_at" "Tile.glue_at" sTiG f fd) (X : TxtT K mg CT) (GC : FnOk P w K mg base CX0 2 fC fdC ["value"] spCkSd) (FC : TopF K mg "check_side" sCkSd ["value"] fC fdC) :
    FnOk P w K mg base CX0 3 f fd ["self", "side"] (spTiG K T CT) := by
  refine F.ok scTiG (fun vs H Q E h => ?_) (fun cdv A outer s H vs Q E hr h => ?_)
  · obtain ⟨t, n, g, i, rfl, _⟩ := h
    rfl
  · obtain ⟨t, n, g, i, rfl, hi, ⟨dx, vn, v0, v1, v2, v3, ht, hn, h0, h1, h2, h3⟩, q⟩ := h
    refine ⟨_, pss_cons (ps_expr (pe_call GC hr (by rfl) FC.mg FC.fn.kp FC.b .nil pass0 (pa_cons (pv 1) pa_nil)))
      (pss_one (ps_ret (pe_ix ix_DL (pe_tupD T (pa_cons (pe_fld (pv 0) rfl) (pa_cons (pe_fld (pv 0) rfl) (pa_cons (pe_fld (pv 0) rfl) (pa_cons (pe_fld (pv 0) rfl) pa_nil))))) (pv 1) (fun _ _ => rfl)))), ?_⟩
    refine ⟨_, rfl, i, hi, rfl, ?_⟩
    refine ⟨_, rfl, t, CT, dx, _, _, rfl, ht, X.cl, X.nW, tl_west, ?_⟩
    refine ⟨_, rfl, t, CT, dx, _, _, rfl, ht, X.cl, X.nS, tl_south, ?_⟩
    refine ⟨_, rfl, t, CT, dx, _, _, rfl, ht, X.cl, X.nE, tl_east, ?_⟩
    refine ⟨_, rfl, t, CT, dx, _, _, rfl, ht, X.cl, X.nO, tl_north, ?_⟩
    refine ⟨[g 0, g 1, g 2, g 3], .cons h0 (.cons h1 (.cons h2 (.cons h3 .nil))), sz4, fun p H1 n1 g1 d1 => ⟨_, rfl, [g 0, g 1, g 2, g 3], i, g i, .inr d1, rfl, ?_, fun v hv => q v _ g1 hv⟩⟩
    rcases four hi with rfl | rfl | rfl | rfl <;> rfl
end
end TG

/-! The program's defs: TileSet. -/
namespace TG
open PySem PySem.Spec L2 TGr LamX
open PyProof.Rows hiding St

theorem Room.u40 {A : Around} {k : Nat} (hr : Room k A) : A.units + 40 < cLine := by have := hr.un; omega
theorem Room.u90 {A : Around} {k : Nat} (hr : Room k A) : A.units + 90 < cLine := by have := hr.un; omega
theorem Room.u9 {A : Around} {k : Nat} (hr : Room k A) : A.units + 9 < cLine := by have := hr.un; omega
abbrev sTsI : Stmt := inClass (top 18) 0
abbrev sTsOf : Stmt := inClass (top 18) 1
abbrev sTsW : Stmt := inClass (top 18) 4
abbrev sTsO : Stmt := inClass (top 18) 5
structure TxtS (K : PySem.W.Frag) (mg : Str → Option Value) (CS : Addr) : Prop where
  cl : Cls K CS
  mg : mg "TileSet" = some (.ref CS)
  nT : NoAttr K CS "tiles"
  nB : NoAttr K CS "tiles_by_name"
  nO : NoAttr K CS "ordered_names"
  nR : NoAttr K CS "ranks"
  nG : NoAttr K CS "names_by_glue"
def tsFs (vt vb vo vr vg : V) : List (Str × V) := putF "names_by_glue" vg (putF "ranks" vr (putF "ordered_names" vo (putF "tiles_by_name" vb (putF "tiles" vt []))))
section
variable {vt vb vo vr vg : V}
theorem ts_tiles : (tsFs vt vb vo vr vg).lookup ("tiles" : Str) = some vt := by
  unfold tsFs
  rw [lookup_putF, if_neg (by decide +kernel), lookup_putF, if_neg (by decide +kernel), lookup_putF, if_neg (by decide +kernel), lookup_putF, if_neg (by decide +kernel), lookup_putF, if_pos rfl]
theorem ts_by : (tsFs vt vb vo vr vg).lookup ("tiles_by_name" : Str) = some vb := by
  unfold tsFs
  rw [lookup_putF, if_neg (by decide +kernel), lookup_putF, if_neg (by decide +kernel), lookup_putF, if_neg (by decide +kernel), lookup_putF, if_pos rfl]
theorem ts_names : (tsFs vt vb vo vr vg).lookup ("ordered_names" : Str) = some vo := by
  unfold tsFs
  rw [lookup_putF, if_neg (by decide +kernel), lookup_putF, if_neg (by decide +kernel), lookup_putF, if_pos rfl]
theorem ts_ranks : (tsFs vt vb vo vr vg).lookup ("ranks" : Str) = some vr := by
  unfold tsFs
  rw [lookup_putF, if_neg (by decide +kernel), lookup_putF, if_pos rfl]
theorem ts_glue : (tsFs vt vb vo vr vg).lookup ("names_by_glue" : Str) = some vg := by
  unfold tsFs
  rw [lookup_putF, if_pos rfl]
theorem ts_no {m : Str} (h1 : ¬ m = "names_by_glue") (h2 : ¬ m = "ranks") (h3 : ¬ m = "ordered_names") (h4 : ¬ m = "tiles_by_name") (h5 : ¬ m = "tiles") : (tsFs vt vb vo vr vg).lookup m = none := by
  unfold tsFs
  rw [lookup_putF, if_neg h1, lookup_putF, if_neg h2, lookup_putF, if_neg h3, lookup_putF, if_neg h4, lookup_putF, if_neg h5]
  rfl
end
/-- the names of each glue at one side -/
structure GlD (K : PySem.W.Frag) (w : World) (H : Hp) (a : Addr) (ns : List Dm) (f : Dm → Dm) : Prop where
  ex : ∃ xs, Dic K w H a xs ∧ ∀ g, match valX xs g with
    | none => ns.filter (fun n => decide (f n = g)) = []
    | some v => ∃ l, v = .ref l ∧ LstW K H l (ns.filter fun n => decide (f n = g))
def rank (T : Ts) (n : Dm) : Int := (T.ns.idxOf n : Nat)
/-- a tile set stands at ts -/
structure TsAt (K : PySem.W.Frag) (w : World) (CT CS : Addr) (H : Hp) (ts : Addr) (T : Ts) : Prop where
  ok : T.Ok
  ex : ∃ (dx db dr lg a0 a1 a2 a3 : Addr) (vt vo : V) (xs : List Ent) (es : List (Dm × Dm)), H ts = some (.ins CS dx (tsFs vt (.ref db) vo (.ref dr) (.ref lg))) ∧
    Dic K w H db xs ∧ (∀ n ∈ T.ns, ∃ t, valX xs n = some (.ref t) ∧ TileG K CT H t n (T.gl n)) ∧ DicD K w H dr es ∧ (∀ n ∈ T.ns, look es n = some (.num (rank T n))) ∧
    SqL K H lg [.ref a0, .ref a1, .ref a2, .ref a3] ∧ GlD K w H a0 T.ns (fun n => T.gl n 0) ∧ GlD K w H a1 T.ns (fun n => T.gl n 1) ∧ GlD K w H a2 T.ns (fun n => T.gl n 2) ∧ GlD K w H a3 T.ns (fun n => T.gl n 3)
section
variable {K : PySem.W.Frag} {w : World} {H H' : Hp} {Tb' : Tb} {CT CS ts a : Addr} {T : Ts}
theorem GlD.go {ns : List Dm} {f : Dm → Dm} (h : GlD K w H a ns f) (g : Go Tb' [] H H') : GlD K w H' a ns f := by
  obtain ⟨xs, D, h⟩ := h.ex
  refine ⟨xs, D.go g (by simp), fun k => ?_⟩
  have := h k
  cases e : valX xs k with
  | none => rw [e] at this; exact this
  | some v =>
    rw [e] at this
    obtain ⟨l, e1, e2⟩ := this
    exact ⟨l, e1, e2.go g (by simp)⟩
theorem TsAt.go (h : TsAt K w CT CS H ts T) (g : Go Tb' [] H H') : TsAt K w CT CS H' ts T := by
  obtain ⟨dx, db, dr, lg, a0, a1, a2, a3, vt, vo, xs, es, h1, h2, h3, h4, h5, h6, h7, h8, h9, h10⟩ := h.ex
  refine ⟨h.ok, dx, db, dr, lg, a0, a1, a2, a3, vt, vo, xs, es, g.ins h1 (by simp), h2.go g (by simp), fun n hn => ?_, h4.go g (by simp), h5, g.sqL h6 (by simp), h7.go g, h8.go g, h9.go g, h10.go g⟩
  obtain ⟨t, e1, e2⟩ := h3 n hn
  exact ⟨t, e1, e2.go g (by simp)⟩
theorem rank_lt {T : Ts} (h : T.ns.Nodup) : T.ns.Pairwise fun a b => rank T a ≤ rank T b := by
  rw [List.pairwise_iff_getElem]
  intro i j hi hj hij
  unfold rank
  rw [h.idxOf_getElem, h.idxOf_getElem]
  omega
theorem rank_inj {T : Ts} {a b : Dm} (ha : a ∈ T.ns) (h : rank T a = rank T b) : a = b := by
  have e : T.ns.idxOf a = T.ns.idxOf b := by unfold rank at h; omega
  obtain ⟨i, hi, rfl⟩ := List.getElem_of_mem ha
  have h1 : T.ns.idxOf T.ns[i] < T.ns.length := List.idxOf_lt_length_of_mem ha
  have h2 : T.ns[T.ns.idxOf T.ns[i]] = T.ns[i] := List.getElem_idxOf h1
  have h3 : T.ns.idxOf b < T.ns.length := e ▸ h1
  have h4 : T.ns[T.ns.idxOf b] = b := List.getElem_idxOf h3
  rw [← h4, ← h2]
  congr 1
theorem rank_sort {T : Ts} (h : T.ns.Nodup) {ds : List Dm} (hn : ds.Nodup) (hs : ∀ d ∈ ds, d ∈ T.ns) : ds.mergeSort (PySem.W.dataLe false fun d => .int (rank T d)) = T.ns.filter fun n => decide (n ∈ ds) := by
  rw [PySem.W.dataLe_int]
  refine List.Perm.eq_of_pairwise (le := fun a b => rank T a ≤ rank T b) (fun a b ha hb h1 h2 => rank_inj (hs a ((List.mergeSort_perm _ _).mem_iff.mp ha)) (Int.le_antisymm h1 h2)) ?_ ?_ ?_
  · refine (List.pairwise_mergeSort (fun a b c h1 h2 => ?_) (fun a b => ?_) ds).imp fun z => of_decide_eq_true z
    · have h1 := of_decide_eq_true h1
      have h2 := of_decide_eq_true h2
      exact decide_eq_true (Int.le_trans h1 h2)
    · rcases Int.le_total (rank T a) (rank T b) with z | z <;> simp [z]
  · exact (rank_lt h).sublist List.filter_sublist
  · refine (List.mergeSort_perm _ _).trans ((List.perm_ext_iff_of_nodup hn (h.sublist List.filter_sublist)).mpr fun a => ?_)
    rw [List.mem_filter]
    simp only [decide_eq_true_eq]
    exact ⟨fun z => ⟨hs a z, z⟩, fun z => z.2⟩
theorem Ts.Ok.d8 (h : T.Ok) {n : Dm} (hn : n ∈ T.ns) : n.depth ≤ 8 := Nat.le_trans (h.nam n hn).2 (by decide)
end
section
variable {P : Program} {w : World} {K : PySem.W.Frag} {mg : Str → Option Value} {base : Heap} {f fC fG : Addr} {fd fdC fdG : FuncData} {CT CS : Addr}
/-! ### defs whose code object is known -/
structure FunC (K : PySem.W.Frag) (x qual : Str) (st : Stmt) (f : Addr) (fd : FuncData) (c : Addr) : Prop where
  ex : ∃ (oc : Value) (od : Option Addr) (kV doc pm : Value) (an : Option Addr) (ct : Value) (osl : Array (Option Value)),
    fd = PySem.W.fnOf x qual (defArgs st) (defBody st) (defScope st) .none kV doc pm an (.ref c) ct ∧ K.lookup f = some ⟨oc, od, .func fd, osl⟩ ∧ PySem.W.codeIn K (.ref c) qual = true
  kp : PySem.W.keepIn K (.ref f) = true
theorem FunC.fun {x qual : Str} {st : Stmt} {f c : Addr} {fd : FuncData} (F : FunC K x qual st f fd c) : Fun K x qual st f fd :=
  let ⟨oc, od, kV, doc, pm, an, ct, osl, e, l, h⟩ := F.ex; ⟨⟨oc, od, kV, doc, pm, an, _, ct, osl, e, l, h⟩, F.kp⟩
theorem FunC.ok {x qual : Str} {st : Stmt} {f c : Addr} {fd : FuncData} {N ps : List Str} {k : Nat} {sp : Sp} (F : FunC K x qual st f fd c) (S : FnScope N ps (defScope st)) (len : ∀ vs H Q E, sp vs H Q E → vs.length = ps.length)
    (hbody : ∀ (A : Around) (outer : List Env) (s : Shared) (H : Hp) (vs : List V) (Q : VK) (E : XK), Room k (A.deeper (envOfC qual (defScope st) s.heap.objs.size f (.ref c))) → sp vs H Q E →
      ∃ t, PSs (cxOf CX0 P w K mg base N qual (defScope st) f (.ref c) A outer s H E).nox (defBody st) t ∧ t { nx := fun _ H' => Q .non H', rt := Q } (start N vs) H) : FnOk P w K mg base CX0 (k + 1) f fd ps sp := by
  obtain ⟨oc, od, kV, doc, pm, an, ct, osl, rfl, lk, hcd⟩ := F.ex
  refine fn_of lk hcd S len fun A outer s H vs Q E hr hsp => ?_
  obtain ⟨t, h, q⟩ := hbody A outer s H vs Q E hr hsp
  exact ⟨t, h.nox, q⟩
theorem FunC.okG {x qual : Str} {st : Stmt} {f c : Addr} {fd : FuncData} {N ps : List Str} {k : Nat} {sp : Sp} (F : FunC K x qual st f fd c) (S : FnScope N ps (defScope st)) (len : ∀ vs H Q E, sp vs H Q E → vs.length = ps.length)
    (hbody : ∀ (A : Around) (outer : List Env) (s : Shared) (H : Hp) (vs : List V) (Q : VK) (E : XK), Room k (A.deeper (envOfC qual (defScope st) s.heap.objs.size f (.ref c))) → A.guards = some [] → sp vs H Q E →
      ∃ t, PSs (cxOf CX0 P w K mg base N qual (defScope st) f (.ref c) A outer s H E).nox (defBody st) t ∧ t { nx := fun _ H' => Q .non H', rt := Q } (start N vs) H) : FnG P w K mg base (k + 1) f fd ps sp := by
  obtain ⟨oc, od, kV, doc, pm, an, ct, osl, rfl, lk, hcd⟩ := F.ex
  refine ⟨len, fun A outer s H args us vs Q E hr hg e0 hb r hsp => run_ofS lk hcd S hr e0 hb r (len _ _ _ _ hsp) fun hr' => ?_⟩
  obtain ⟨t, h, q⟩ := hbody A outer s H vs Q E hr' hg hsp
  exact ⟨t, h.nox, q⟩
/-- the table of a def's lambdas -/
structure LamT (T : Tb) (base : Heap) (mg : Str → Option Value) (qual : Str) (c P : Addr) : Prop where
  tb : TabB base mg c P
  mem : (P, qual) ∈ T
  un : ∀ p ∈ T, p.1 = P → p.2 = qual
/-! ### tile_of -/
theorem scTsOf : FnScope ["self", "name"] ["self", "name"] (defScope sTsOf) := ⟨rfl, rfl, rfl, by decide +kernel, rfl, by decide +kernel, by decide +kernel⟩
def spTsOf (K : PySem.W.Frag) (w : World) (CT CS : Addr) : Sp := fun vs H Q _ => ∃ (ts : Addr) (T : Ts) (n : Dm) (x : V), vs = [.ref ts, x] ∧ TsAt K w CT CS H ts T ∧ n ∈ T.ns ∧ Dat K H n x ∧ ∀ t, TileG K CT H t n (T.gl n) → Q (.ref t) H
theorem ok_tsOf (F : Fun K "tile_of" "TileSet.tile_of" sTsOf f fd) (X : TxtS K mg CS) : FnOk P w K mg base CX0 1 f fd ["self", "name"] (spTsOf K w CT CS) := by
  refine F.ok scTsOf (fun vs H Q E h => ?_) (fun cdv A outer s H vs Q E hr h => ?_)
  · obtain ⟨t, T, n, x, rfl, _⟩ := h
    rfl
  · obtain ⟨ts, T, n, x, rfl, hT, hn, hx, q⟩ := h
    have d8 := hT.ok.d8 hn
    obtain ⟨dx, db, dr, lg, a0, a1, a2, a3, vt, vo, xs, es, h1, h2, h3, h4, h5, h6, h7, h8, h9, h10⟩ := hT.ex
    obtain ⟨t, e1, e2⟩ := h3 n hn
    refine ⟨_, pss_cons (ps_if (pt_cmpR (op_notInX (Room.u9 hr)) (pv 1) (pe_fld (pv 0) rfl) rfl) (pss_one ps_never) pss_nil) (pss_one (ps_ret (pe_ix (ix_X (Room.u9 hr)) (pe_fld (pv 0) rfl) (pv 1) (fun _ _ => rfl)))), ?_⟩
    refine ⟨_, rfl, _, rfl, ts, CS, dx, _, _, rfl, h1, X.cl, X.nB, ts_by, db, xs, n, rfl, h2, hx, d8, false, by rw [e1]; rfl, iteF ?_⟩
    exact ⟨_, rfl, ts, CS, dx, _, _, rfl, h1, X.cl, X.nB, ts_by, _, rfl, db, xs, n, _, rfl, h2, hx, d8, e1, q t e2⟩
/-! ### with_glue -/
theorem scTsW : FnScope ["self", "side", "glue"] ["self", "side", "glue"] (defScope sTsW) := ⟨rfl, rfl, rfl, by decide +kernel, rfl, by decide +kernel, by decide +kernel⟩
def spTsW (K : PySem.W.Frag) (w : World) (Tb' : Tb) (CT CS : Addr) : Sp := fun vs H Q _ => ∃ (ts : Addr) (T : Ts) (i : Nat) (g : Dm) (x : V), vs = [.ref ts, .int i, x] ∧ TsAt K w CT CS H ts T ∧ i < 4 ∧ g.depth ≤ 8 ∧ Dat K H g x ∧
  ∀ a H', Go Tb' [] H H' → Dat K H' (.tup (T.ns.filter fun n => decide (T.gl n i = g))) (.ref a) → Q (.ref a) H'
theorem ok_tsW (Tb' : Tb) (F : Fun K "with_glue" "TileSet.with_glue" sTsW f fd) (X : TxtS K mg CS) (B : Blt mg) (GC : FnOk P w K mg base CX0 2 fC fdC ["value"] spCkSd) (FC : TopF K mg "check_side" sCkSd ["value"] fC fdC) :
    FnOk P w K mg base CX0 3 f fd ["self", "side", "glue"] (spTsW K w Tb' CT CS) := by
  refine F.ok scTsW (fun vs H Q E h => ?_) (fun cdv A outer s H vs Q E hr h => ?_)
  · obtain ⟨t, T, n, g, x, rfl, _⟩ := h
    rfl
  · obtain ⟨ts, T, i, g, x, rfl, hT, hi, hg, hx, q⟩ := h
    obtain ⟨dx, db, dr, lg, a0, a1, a2, a3, vt, vo, xs, es, h1, h2, h3, h4, h5, h6, h7⟩ := hT.ex
    obtain ⟨a, e1, e2⟩ : ∃ a, atI [V.ref a0, V.ref a1, V.ref a2, V.ref a3] i = some (.ref a) ∧ GlD K w H a T.ns (fun n => T.gl n i) := by
      obtain ⟨b0, b1, b2, b3⟩ := h7
      rcases four hi with rfl | rfl | rfl | rfl
      · exact ⟨a0, rfl, b0⟩
      · exact ⟨a1, rfl, b1⟩
      · exact ⟨a2, rfl, b2⟩
      · exact ⟨a3, rfl, b3⟩
    obtain ⟨ys, D, k⟩ := e2.ex
    refine ⟨_, pss_cons (ps_expr (pe_call GC hr (by rfl) FC.mg FC.fn.kp FC.b .nil pass0 (pa_cons (pv 1) pa_nil)))
      (pss_one (ps_ret (pe_callTy (call_tupL Tb') (by rfl) B.tuple boot_tuple (pa_cons (pe_dm PySem.F.slot_dict_get PySem.F.type_dict_get (mt_get2X (Room.u9 hr)) (pe_ix ix_list (pe_fld (pv 0) rfl) (pv 1) (fun _ _ => rfl)) (pa_cons (pv 2) (pa_cons (pe_lstD Tb' pa_nil) pa_nil))) pa_nil)))), ?_⟩
    refine ⟨_, rfl, i, hi, rfl, ?_⟩
    refine ⟨_, rfl, ts, CS, dx, _, _, rfl, h1, X.cl, X.nG, ts_glue, _, rfl, lg, _, i, _, rfl, rfl, h6, e1, ⟨a, ys, rfl, D⟩, ?_⟩
    refine ⟨_, rfl, [], .nil, sz0, fun p H1 n1 g1 L1 => ?_⟩
    refine ⟨a, ys, g, x, .ref p, rfl, rfl, D.go g1 (by simp), g1.dat hx, hg, ?_⟩
    have kk := k g
    cases e : valX ys g with
    | none =>
      rw [e] at kk
      refine ⟨[], .ref p, rfl, .inl L1.ls, fun v H2 g2 d2 => ?_⟩
      obtain ⟨b, _, rfl, _, _⟩ := d2.tupI
      exact q b H2 (g1.trans g2) (by rw [kk]; exact d2)
    | some v =>
      rw [e] at kk
      obtain ⟨l, rfl, L⟩ := kk
      refine ⟨_, .ref l, rfl, .inl (L.go g1 (by simp)).ls, fun v H2 g2 d2 => ?_⟩
      obtain ⟨b, _, rfl, _, _⟩ := d2.tupI
      exact q b H2 (g1.trans g2) d2
/-! ### in_order -/
theorem scTsO : FnScope ["self", "names"] ["self", "names"] (defScope sTsO) := ⟨rfl, rfl, rfl, by decide +kernel, rfl, by decide +kernel, by decide +kernel⟩
def spTsO (K : PySem.W.Frag) (w : World) (Tb' : Tb) (CT CS : Addr) : Sp := fun vs H Q _ => ∃ (ts : Addr) (T : Ts) (ds : List Dm) (x : V), vs = [.ref ts, x] ∧ TsAt K w CT CS H ts T ∧ Tabs Tb' H ∧ LsD K H ds x ∧ ds.Nodup ∧ (∀ d ∈ ds, d ∈ T.ns) ∧
  ∀ a H', Go Tb' [] H H' → Dat K H' (.tup (T.ns.filter fun n => decide (n ∈ ds))) (.ref a) → Q (.ref a) H'
variable {c PT : Addr}
theorem ok_tsO (Tb' : Tb) (F : FunC K "in_order" "TileSet.in_order" sTsO f fd c) (X : TxtS K mg CS) (B : Blt mg) (L : LamT Tb' base mg ("TileSet.in_order.<locals>." ++ "<lambda>") c PT) :
    FnOk P w K mg base CX0 1 f fd ["self", "names"] (spTsO K w Tb' CT CS) := by
  refine F.ok scTsO (fun vs H Q E h => ?_) (fun A outer s H vs Q E hr h => ?_)
  · obtain ⟨t, T, n, x, rfl, _⟩ := h
    rfl
  · obtain ⟨ts, T, ds, x, rfl, hT, hTb, hx, nd, sub, q⟩ := h
    obtain ⟨dx, db, dr, lg, a0, a1, a2, a3, vt, vo, xs, es, h1, h2, h3, h4, h5, h6, h7⟩ := hT.ex
    refine ⟨_, pss_one (ps_ret (pe_callTy (call_tupL Tb') (by rfl) B.tuple boot_tuple (pa_cons (pe_sortL (T := Tb') (c := c) (P := PT) (x := "name") (k := fun d => .int (rank T d)) (ok := OkRank K w 0 "ranks" (rank T)) (by rfl) B.sorted (pv 1) L.tb rfl L.mem L.un hr.depth (Room.u40 hr)
      (lam1_by (sc := defScope sTsO) (by decide +kernel)) rfl (fun _ _ _ _ _ _ => rfl) (.inl fun d => ⟨_, rfl⟩)
      (fun σ => lamB_rank (y := "self") (i := 0) rfl rfl rfl rfl (show Vis (defScope sTsO) "self" from .inr (.inl rfl)) (Room.u40 hr) (show (defScope sTsO).names.lookup ("self" : Str) ≠ some NameKind.local by decide +kernel)) (fun h g => h.go g)) pa_nil))), ?_⟩
    refine ⟨_, rfl, ds, hx, fun d hd => ⟨ts, CS, dx, _, dr, es, rfl, h1, X.cl, X.nR, ts_ranks, h4, h5 d (sub d hd), hT.ok.d8 (sub d hd)⟩, hTb, fun p H1 g1 L1 => ?_⟩
    refine ⟨_, .ref p, rfl, .inl L1.ls, fun v H2 g2 d2 => ?_⟩
    obtain ⟨b, _, rfl, _, _⟩ := d2.tupI
    exact q b H2 (g1.trans g2) (by rw [← rank_sort hT.ok.nd nd sub]; exact d2)
end
end TG

/-! The program's defs: TileSet.__init__. -/
namespace TG
open PySem PySem.Spec L2 TGr LamX
open PyProof.Rows hiding St

def spTsI (K : PySem.W.Frag) (w : World) (T : Tb) (CT CS : Addr) : Sp := fun vs H Q _ => ∃ (ts dx a : Addr) (xs : List V) (nl : List Dm) (gl : Dm → Nat → Dm), vs = [.ref ts, .ref a] ∧ H ts = some (.ins CS dx []) ∧ Tabs T H ∧ (SqL K H a xs ∨ SqT K H a xs) ∧
  Paired (fun x n => ∃ t, x = V.ref t ∧ TileG K CT H t n (gl n)) xs nl ∧ (Ts.mk nl gl).Ok ∧ (∀ n ∈ nl, Shw n) ∧
  ∀ (ns : List Dm) H', ns.Perm nl → Go T [ts] H H' → TsAt K w CT CS H' ts ⟨ns, gl⟩ → Q .non H'
/-- tuple(x), x a list or a tuple -/
def rTupV (K : PySem.W.Frag) (T : Tb) : List V → Hp → VK → Prop := fun vs H Q => ∃ a xs, vs = [.ref a] ∧ (SqL K H a xs ∨ SqT K H a xs) ∧ ∀ b H1, Go T [] H H1 → SqT K H1 b xs → Q (.ref b) H1
theorem call_tupV {X : Cx} (T : Tb) : CallR X (.type "tuple") (rTupV X.K T) := by
  refine CallR.imp call_tuple_of fun vs H Q ⟨a, xs, e, h, key⟩ => ⟨a, xs, e, ?_⟩
  rcases h with h | h
  · exact .inl ⟨h, fun l hl => key l _ (.new hl) (.inl (.inl upd_same))⟩
  · exact .inr ⟨h, key a H .refl h⟩
theorem Go.drop2 {T : Tb} {p q : Addr} {H H' : Hp} (g : Go T [p, q] H H') (h : H q = none) : Go T [p] H H' :=
  (g.mono (S' := [q, p]) (by simp)).drop h
/-- o.f = e, the heap behind it not spelled out -/
def sFldG (K : PySem.W.Frag) (T : Tb) (ta tv : TE) (f : Str) : TS := fun D σ H => tv σ H fun y H1 => ta σ H1 fun x H2 => ∃ a C dx fs, x = .ref a ∧ H2 a = some (.ins C dx fs) ∧ Cls K C ∧ NoAttr K C f ∧ fs.length < 1000 ∧
  ∀ H', Go T [a] H2 H' → H' a = some (.ins C dx (putF f y fs)) → D.nx σ H'
theorem ps_fldG {X : Cx} (T : Tb) {o value : Expr} {f : Str} {pos pos' : Pos} {ta tv : TE} (ha : PE X o ta) (hv : PE X value tv) (hs : swapsWith value (some (.Attribute o f pos')) pos.line X.env = pure false) : PS X (.Assign [.Attribute o f pos'] value pos) (sFldG X.K T ta tv f) := by
  refine ⟨fun pins s σ H D I h => ?_⟩
  refine plainObj_wpAny_Assign_Attribute (thn (hv.run pins s σ H _ I h) fun u s1 ⟨y, H1, I1, ry, q⟩ => thn (ha.run pins s1 σ H1 _ I1 q) fun ov s2 ⟨x, H2, I2, rx, a, C, dx, fs, ex, ea, c, n, l, q2⟩ => ?_) hs
  subst ex
  obtain rfl : ov = Value.ref a := rx
  exact setattr_ok I2 ea c n l ry fun s3 I3 => ⟨σ, _, I3, q2 _ (.setI ea) upd_same⟩
/-- {}, a dict of any values -/
def tXNewG (K : PySem.W.Frag) (w : World) (T : Tb) : TE := fun _ H Q => ∀ p H', H p = none → Go T [] H H' → H' p = some (DicO w p []) → Dic K w H' p [] → Q (.ref p) H'
theorem pe_xnewG {X : Cx} (T : Tb) {pos : Pos} : PE X (.Dict [] [] pos) (tXNewG X.K X.w T) := ⟨fun pins s σ H Q I h => pe_xnew.run pins s σ H Q I fun p hp hs => h p _ hp (.new hp) upd_same (dic_new hs)⟩
/-- d[k] = v -/
def rPutXG (K : PySem.W.Frag) (w : World) (T : Tb) : TSet := fun x y v H Q => ∃ a xs k, x = .ref a ∧ H a = some (DicO w a xs) ∧ Dic K w H a xs ∧ Dat K H k y ∧ k.depth ≤ 8 ∧ xs.length < sizeLine ∧ ∀ H', Go T [a] H H' → H' a = some (DicO w a (putX xs k y v)) → Dic K w H' a (putX xs k y v) → Q H'
theorem put_XG {X : Cx} (T : Tb) (hu : X.A.units + 9 < cLine) : PSet X (rPutXG X.K X.w T) :=
  PSet.imp (put_X hu) fun x y v H Q ⟨a, xs, k, e, ha, D, hk, hd, hz, q⟩ => ⟨a, xs, k, e, ha, D, hk, hd, q _ (.setD ha) upd_same (D.put ha hk hd hz)⟩
/-- d.setdefault(k, x) -/
def rSdfXG (K : PySem.W.Frag) (w : World) (T : Tb) : V → List V → Hp → VK → Prop := fun x vs H Q => ∃ a xs k y z, x = .ref a ∧ vs = [y, z] ∧ H a = some (DicO w a xs) ∧ Dic K w H a xs ∧ Dat K H k y ∧ k.depth ≤ 8 ∧ xs.length < sizeLine ∧
  (∀ v, valX xs k = some v → Q v H) ∧ (valX xs k = none → ∀ H', Go T [a] H H' → H' a = some (DicO w a (putX xs k y z)) → Dic K w H' a (putX xs k y z) → Q z H')
theorem mt_sdfXG {X : Cx} (T : Tb) (hu : X.A.units + 9 < cLine) : MtR X "dict.setdefault" (rSdfXG X.K X.w T) :=
  MtR.imp (mt_sdfX hu) fun x vs H Q ⟨a, xs, k, y, z, e, ev, ha, D, hk, hd, hz, q1, q2⟩ => ⟨a, xs, k, y, z, e, ev, ha, D, hk, hd, q1, fun n => q2 n _ (.setD ha) upd_same (D.put ha hk hd hz)⟩
/-- [e, ..] of any values -/
def tLstG (T : Tb) (t : TA) : TE := fun σ H Q => t σ H fun xs H1 => xs.length ≤ sizeLine ∧ ∀ p H', H1 p = none → Go T [] H1 H' → H' p = some (.lst xs) → Q (.ref p) H'
theorem pe_lstG {X : Cx} (T : Tb) {es : List Expr} {t : TA} {pos : Pos} (h : PA X es t) : PE X (.List es pos) (tLstG T t) := by
  refine ⟨fun pins s σ H Q I hq => ?_⟩
  refine wpAny_List_spliced (thn (h.run pos pins s σ H _ I hq) fun us s1 ⟨xs, H1, I1, r, z, q⟩ => ⟨by rw [← r.length]; exact z, ?_⟩)
  have hf : H1 s1.heap.objs.size = none := I1.hok.fresh (Nat.le_refl _)
  refine ⟨.ref s1.heap.objs.size, upd H1 s1.heap.objs.size (.lst xs), I1.laid (t' := s1.toks) (fun b u e => Heap.get?_push_of_some _ e) (Nat.le_refl _) ?_, rfl, q _ _ hf (.new hf) upd_same⟩
  exact ⟨z, us, 0, r, Heap.get?_push_size _ rfl⟩
/-- two stretches, what was new within -/
theorem Go.drop2' {T : Tb} {p q : Addr} {H H1 H' : Hp} (g : Go T [p] H H1) (h : H q = none) (g' : Go T [p, q] H1 H') : Go T [p] H H' :=
  Go.drop2 ((g.mono (S' := [p, q]) (by simp)).trans g') h
/-- nothing but a table stands there -/
def Nw (H : Hp) (p : Addr) : Prop := ∀ o, H p = some o → ∃ ps, o = .tbl ps
theorem Nw.none {H : Hp} {p : Addr} (h : H p = none) : Nw H p := fun o e => by rw [h] at e; cases e
theorem Go.nw {T : Tb} {S : List Addr} {H H' : Hp} {p : Addr} (g : Go T S H H') (h : Nw H' p) (n : p ∉ S) : Nw H p := fun o e => by
  refine Classical.byContradiction fun c => ?_
  exact c (h o (g.keep p o e (.inl n) fun ps z => c ⟨ps, z⟩))
theorem Go.dropN {T : Tb} {S : List Addr} {H H' : Hp} {p : Addr} (g : Go T (p :: S) H H') (h : Nw H p) : Go T S H H' :=
  ⟨fun b o e c n => g.keep b o e (c.imp (fun q z => (List.mem_cons.mp z).elim (fun z => by subst z; obtain ⟨ps, e'⟩ := h o e; exact n ps e') q) id) n, g.tabs⟩
/-! ### the lists of names by glue, while they are made -/
structure NbG (K : PySem.W.Frag) (w : World) (H : Hp) (A : Nat → Addr) (Lf : Nat → Dm → Option Addr) (pre : Nat → List Dm) (gl : Dm → Nat → Dm) : Prop where
  dic : ∀ i, i < 4 → ∃ xs, H (A i) = some (DicO w (A i) xs) ∧ Dic K w H (A i) xs ∧ xs.length ≤ (pre i).length ∧ ∀ g, valX xs g = (Lf i g).map V.ref
  lst : ∀ i g, i < 4 → match Lf i g with
    | none => (pre i).filter (fun n => decide (gl n i = g)) = []
    | some l => LstW K H l ((pre i).filter fun n => decide (gl n i = g))
  inj : ∀ i j g k l, i < 4 → j < 4 → Lf i g = some l → Lf j k = some l → i = j ∧ g = k
def prePut (pre : Nat → List Dm) (s : Nat) (n : Dm) : Nat → List Dm := fun i => if i = s then pre i ++ [n] else pre i
theorem prePut_filter (pre : Nat → List Dm) (s : Nat) (n : Dm) (gl : Dm → Nat → Dm) (i : Nat) (g : Dm) : (prePut pre s n i).filter (fun n => decide (gl n i = g)) = if i = s ∧ gl n s = g then (pre i).filter (fun n => decide (gl n i = g)) ++ [n] else (pre i).filter fun n => decide (gl n i = g) := by
  unfold prePut
  by_cases h : i = s
  · subst h
    rw [if_pos rfl, List.filter_append]
    by_cases c : gl n i = g
    · rw [if_pos ⟨rfl, c⟩]
      simp [c]
    · rw [if_neg fun z => c z.2]
      simp [c]
  · rw [if_neg h, if_neg fun z => h z.1]
theorem prePut_len (pre : Nat → List Dm) (s : Nat) (n : Dm) (i : Nat) : (pre i).length ≤ (prePut pre s n i).length := by
  unfold prePut
  split <;> simp
section
variable {K : PySem.W.Frag} {w : World} {T : Tb} {H H1 H2 H' : Hp} {A : Nat → Addr} {Lf : Nat → Dm → Option Addr} {pre : Nat → List Dm} {gl : Dm → Nat → Dm} {s : Nat} {n : Dm} {l : Addr}
theorem LstW.no_dic {a : Addr} {ds : List Dm} {xs : List Ent} (L : LstW K H l ds) (h : H a = some (DicO w a xs)) : a ≠ l := fun z => by
  obtain ⟨ys, q, _⟩ := L.ex
  rw [z] at h
  rw [h] at q
  unfold DicO at q
  cases q
theorem NbG.old (N : NbG K w H A Lf pre gl) (hs : s < 4) (hl : Lf s (gl n s) = some l) (g : Go T [l] H H') (L : LstW K H' l ((pre s).filter (fun m => decide (gl m s = gl n s)) ++ [n])) : NbG K w H' A Lf (prePut pre s n) gl := by
  have L0 := N.lst s (gl n s) hs
  rw [hl] at L0
  refine ⟨fun i hi => ?_, fun i k hi => ?_, N.inj⟩
  · obtain ⟨xs, h1, h2, h3, h4⟩ := N.dic i hi
    have na : A i ∉ [l] := fun z => L0.no_dic h1 (List.mem_singleton.mp z)
    exact ⟨xs, g.keep _ _ h1 (.inl na) dicO_tbl, h2.go g na, Nat.le_trans h3 (prePut_len _ _ _ _), h4⟩
  · have q := N.lst i k hi
    rw [prePut_filter]
    cases e : Lf i k with
    | none =>
      rw [e] at q
      dsimp only at q ⊢
      rw [if_neg, q]
      rintro ⟨rfl, rfl⟩
      rw [e] at hl
      cases hl
    | some l' =>
      rw [e] at q
      dsimp only at q ⊢
      by_cases c : i = s ∧ gl n s = k
      · obtain ⟨rfl, rfl⟩ := c
        rw [hl] at e
        cases e
        rw [if_pos ⟨rfl, rfl⟩]
        exact L
      · rw [if_neg c]
        refine q.go g fun z => ?_
        rw [List.mem_singleton.mp z] at e
        obtain ⟨h1, h2⟩ := N.inj _ _ _ _ _ hi hs e hl
        exact c ⟨h1, h2.symm⟩
theorem NbG.up (N : NbG K w H A Lf pre gl) (g : Go T [] H H') : NbG K w H' A Lf pre gl := by
  refine ⟨fun i hi => ?_, fun i k hi => ?_, N.inj⟩
  · obtain ⟨xs, h1, h2, h3, h4⟩ := N.dic i hi
    exact ⟨xs, g.keep _ _ h1 (.inl (by simp)) dicO_tbl, h2.go g (by simp), h3, h4⟩
  · have q := N.lst i k hi
    cases e : Lf i k with
    | none => rw [e] at q; exact q
    | some l' => rw [e] at q; exact q.go g (by simp)
theorem NbG.new {y : V} {xs : List Ent} (N : NbG K w H A Lf pre gl) (hA : ∀ i j, i < 4 → j < 4 → A i = A j → i = j) (hs : s < 4) (hl : Lf s (gl n s) = none) (hv : ∀ g, valX xs g = (Lf s g).map V.ref) (hz : xs.length ≤ (pre s).length) (hln : H l = none) (g1 : Go T [] H H1) (L1 : LstW K H1 l [])
    (g2 : Go T [A s] H1 H2) (d2 : H2 (A s) = some (DicO w (A s) (putX xs (gl n s) y (.ref l)))) (D2 : Dic K w H2 (A s) (putX xs (gl n s) y (.ref l))) (g3 : Go T [l] H2 H') (L3 : LstW K H' l [n]) :
    NbG K w H' A (fun i k => if i = s ∧ k = gl n s then some l else Lf i k) (prePut pre s n) gl := by
  have hlk : look xs (gl n s) = none := Option.map_eq_none_iff.mp (show (look xs (gl n s)).map (·.2) = none by have := hv (gl n s); rw [hl] at this; exact this)
  have N1 := N.up g1
  obtain ⟨xs1, e1, _⟩ := N1.dic s hs
  have asl : A s ≠ l := L1.no_dic e1
  have L2 : LstW K H2 l [] := L1.go g2 fun z => asl (List.mem_singleton.mp z).symm
  have fresh : ∀ i k, i < 4 → Lf i k ≠ some l := fun i k hi e => by
    have q := N.lst i k hi
    rw [e] at q
    obtain ⟨_, q, _⟩ := q.ex
    rw [hln] at q
    cases q
  refine ⟨fun i hi => ?_, fun i k hi => ?_, fun i j g k l' hi hj h1 h2 => ?_⟩
  · by_cases c : i = s
    · subst c
      have na : A i ∉ [l] := fun z => asl (List.mem_singleton.mp z)
      refine ⟨_, g3.keep _ _ d2 (.inl na) dicO_tbl, D2.go g3 na, ?_, fun g => ?_⟩
      · have := putX_len xs (gl n i) y (V.ref l)
        unfold prePut
        rw [if_pos rfl, List.length_append, List.length_singleton]
        omega
      · show (look (putX xs (gl n i) y (.ref l)) g).map (·.2) = _
        rw [look_putX]
        by_cases e : g = gl n i
        · rw [if_pos e, if_pos ⟨rfl, e⟩]
          rfl
        · rw [if_neg e, if_neg fun z => e z.2]
          exact hv g
    · obtain ⟨zs, h1, h2, h3, h4⟩ := N1.dic i hi
      have n1 : A i ∉ [A s] := fun z => c (hA i s hi hs (List.mem_singleton.mp z))
      have n2 : A i ∉ [l] := fun z => L1.no_dic h1 (List.mem_singleton.mp z)
      refine ⟨zs, g3.keep _ _ (g2.keep _ _ h1 (.inl n1) dicO_tbl) (.inl n2) dicO_tbl, (h2.go g2 n1).go g3 n2, Nat.le_trans h3 (prePut_len _ _ _ _), fun g => ?_⟩
      rw [if_neg fun z => c z.1]
      exact h4 g
  · rw [prePut_filter]
    by_cases c : i = s ∧ k = gl n s
    · rw [if_pos c]
      obtain ⟨rfl, rfl⟩ := c
      dsimp only
      rw [if_pos ⟨rfl, rfl⟩]
      have q := N.lst i (gl n i) hi
      rw [hl] at q
      dsimp only at q
      rw [q]
      exact L3
    · rw [if_neg c, if_neg fun z => c ⟨z.1, z.2.symm⟩]
      have q := N1.lst i k hi
      cases e : Lf i k with
      | none => rw [e] at q; exact q
      | some l' =>
        rw [e] at q
        have q : LstW K H1 l' ((pre i).filter fun n => decide (gl n i = k)) := q
        refine (q.go g2 fun z => ?_).go g3 fun z => ?_
        · exact q.no_dic e1 (List.mem_singleton.mp z).symm
        · exact fresh i k hi (by rw [e, List.mem_singleton.mp z])
  · by_cases c1 : i = s ∧ g = gl n s
    · by_cases c2 : j = s ∧ k = gl n s
      · exact ⟨c1.1.trans c2.1.symm, c1.2.trans c2.2.symm⟩
      · rw [if_pos c1] at h1
        rw [if_neg c2] at h2
        cases h1
        exact absurd h2 (fresh j k hj)
    · rw [if_neg c1] at h1
      by_cases c2 : j = s ∧ k = gl n s
      · rw [if_pos c2] at h2
        cases h2
        exact absurd h1 (fresh i g hi)
      · rw [if_neg c2] at h2
        exact N.inj i j g k l' hi hj h1 h2
theorem NbG.glD {ns : List Dm} (N : NbG K w H A Lf (fun _ => ns) gl) {i : Nat} (hi : i < 4) : GlD K w H (A i) ns (fun n => gl n i) := by
  obtain ⟨xs, h1, h2, h3, h4⟩ := N.dic i hi
  refine ⟨xs, h2, fun g => ?_⟩
  have q := N.lst i g hi
  rw [h4 g]
  cases e : Lf i g with
  | none => rw [e] at q; exact q
  | some l => rw [e] at q; exact ⟨l, rfl, q⟩
end
section
variable {P : Program} {w : World} {K : PySem.W.Frag} {mg : Str → Option Value} {base : Heap} {f fG : Addr} {fd fdG : FuncData} {CT CS c PT : Addr}
theorem scTsI : FnScope ["self", "tiles", "tile", "name", "side", "found", "rank"] ["self", "tiles"] (defScope sTsI) := ⟨rfl, rfl, rfl, by decide +kernel, rfl, by decide +kernel, by decide +kernel⟩
theorem ok_tsI (T : Tb) (F : FunC K "__init__" "TileSet.__init__" sTsI f fd c) (X : TxtS K mg CS) (XT : TxtT K mg CT) (B : Blt mg) (L : LamT T base mg ("TileSet.__init__.<locals>." ++ "<lambda>") c PT)
    (MG : MetF K CT "glue_at" "Tile.glue_at" sTiG ["self", "side"] fG fdG) (GG : FnOk P w K mg base CX0 3 fG fdG ["self", "side"] (spTiG K T CT)) :
    FnG P w K mg base 4 f fd ["self", "tiles"] (spTsI K w T CT CS) := by
  refine F.okG scTsI (fun vs H Q E h => ?_) (fun A outer s H vs Q E hr hgd h => ?_)
  · obtain ⟨t, dx, a, xs, nl, gl, rfl, _⟩ := h
    rfl
  · obtain ⟨ts, dx, a, xs, nl, gl, rfl, hts, hTb, hseq, hti, hok, hsh, q⟩ := h
    refine ⟨_, pss_cons (ps_fldG T (pv 0) (pe_callTy (call_tupV T) (by rfl) B.tuple boot_tuple (pa_cons (pv 1) pa_nil)) rfl)
      (pss_cons (ps_fldG T (pv 0) (pe_xnewG T) rfl)
      (pss_cons (ps_for PassesOwn.never rfl (pi_tup (pe_fld (pv 0) rfl)) (pg_name (i := 2) scTsI.nd rfl (Or.inl rfl))
        (pss_cons (ps_if (pt_cmpR (op_inX (Room.u9 hr)) (pe_fld (pv 2) rfl) (pe_fld (pv 0) rfl) rfl) (pss_one ps_never) pss_nil)
        (pss_one (ps_asg (pv 2) (pg_sub (pe_fld (pv 0) rfl) (pe_fld (pv 2) rfl) (put_XG T (Room.u9 hr)))))))
      (pss_cons (ps_fldG T (pv 0) (pe_callTy (call_tupL T) (by rfl) B.tuple boot_tuple (pa_cons (pe_sortL (T := T) (c := c) (P := PT) (x := "name") (k := fun d => .str d.data.shown) (ok := fun _ _ d => Shw d) (by rfl) B.sorted
          (pe_callTy (call_listX T hr.hd) (by rfl) B.list (by decide +kernel) (pa_cons (pe_fld (pv 0) rfl) pa_nil)) L.tb rfl L.mem L.un hr.depth (Room.u40 hr)
          (lam1_by (sc := defScope sTsI) (by decide +kernel)) rfl (fun _ _ _ _ _ _ => rfl) (.inr fun d => ⟨_, rfl⟩)
          (fun σ => lamB_repr B.repr rfl rfl rfl hgd (Room.u90 hr)) (fun h g => h)) pa_nil)) rfl)
      (pss_cons (ps_fldG T (pv 0) (pe_dcD T (g := gTup K 2 (gCons (gName 6) (gCons (gName 3) gNil))) (own := [("rank", 6), ("name", 3)]) (Room.u9 hr) (by rfl) scTsI.nd (pi_enumT (by rfl) B.enumerate (pa_cons (pe_fld (pv 0) rfl) pa_nil))
          (blkOk_by (own := [("rank", 6), ("name", 3)]) (N := ["self", "tiles", "tile", "name", "side", "found", "rank"]) (sc := defScope sTsI) (by decide +kernel))
          (fun _ _ _ _ _ => pg_tup (by rfl) (pgs_cons (pg_name (i := 6) scTsI.nd rfl (.inl rfl)) (pgs_cons (pg_name (i := 3) scTsI.nd rfl (.inl rfl)) pgs_nil))) (fun _ _ _ _ _ => pts_nil)
          (fun _ _ _ _ _ => pv 3) (fun _ _ _ _ _ => pv 6)) rfl)
      (pss_cons (ps_fldG T (pv 0) (pe_lstG T (pa_cons (pe_xnewG T) (pa_cons (pe_xnewG T) (pa_cons (pe_xnewG T) (pa_cons (pe_xnewG T) pa_nil))))) rfl)
      (pss_one (ps_for PassesOwn.never rfl (pi_tup (pe_fld (pv 0) rfl)) (pg_name (i := 3) scTsI.nd rfl (Or.inl rfl))
        (pss_one (ps_for PassesOwn.never rfl (pi_range1 rfl B.range (pa_cons pe_int pa_nil)) (pg_name (i := 4) scTsI.nd rfl (Or.inl rfl))
          (pss_cons (ps_set (i := 5) scTsI.nd rfl (Or.inl rfl) (pe_dm PySem.F.slot_dict_setdefault PySem.F.type_dict_setdefault (mt_sdfXG T (Room.u9 hr)) (pe_ix ix_list (pe_fld (pv 0) rfl) (pv 4) (fun _ _ => rfl))
            (pa_cons (pe_meth (pe_ix (ix_X (Room.u9 hr)) (pe_fld (pv 0) rfl) (pv 3) (fun _ _ => rfl)) XT.cl MG.me GG hr MG.b .nil pass0 (pa_cons (pv 4) pa_nil)) (pa_cons (pe_lstD T pa_nil) pa_nil))))
          (pss_one (ps_expr (pe_bm PySem.F.plainAttrs_list PySem.F.slot_list_append PySem.F.type_list_append (mt_appD T) (pv 5) (pa_cons (pv 3) pa_nil)))))))))))))), ?_⟩
    refine ⟨_, rfl, a, xs, rfl, hseq, fun b H1 g1 s1 => ?_⟩
    refine ⟨_, rfl, ts, CS, dx, [], rfl, g1.ins hts (by simp), X.cl, X.nT, by decide, fun H2 g2 h2 => ?_⟩
    intro db H3 ndb g3 w3 D3
    have nts : ts ≠ db := ne_of_none h2 ndb
    refine ⟨_, rfl, ts, CS, dx, _, rfl, g3.ins h2 (by simp), X.cl, X.nB, Nat.lt_of_le_of_lt (putF_len _ _ _) (by decide), fun H4 g4 h4 => ?_⟩
    have s4' : SqT K H4 b xs := g4.sqT (g3.sqT (g2.sqT s1))
    have g2 : Go T [ts] H H2 := g1.up.trans g2
    have nn : db ∉ [ts] := fun z => nts (List.mem_singleton.mp z).symm
    have w4 := g4.keep _ _ w3 (.inl nn) dicO_tbl
    have D4 := D3.go g4 nn
    have g4 := g3.up.trans g4
    clear g3 w3 D3 s1 g1 h2
    -- the tiles
    have tileAt : ∀ {H' : Hp} {i : Nat} {x : V}, Go T [ts] H H' → xs[i]? = some x → ∃ t n, x = .ref t ∧ nl[i]? = some n ∧ n ∈ nl ∧ TileG K CT H' t n (gl n) := fun {H' i x} g hx => by
      obtain ⟨n, hn, t, rfl, ht⟩ := paired_at hti i x hx
      refine ⟨t, n, rfl, hn, List.mem_of_getElem? hn, ht.go g fun z => ?_⟩
      have e := List.mem_singleton.mp z
      subst e
      obtain ⟨_, _, _, _, _, _, q1, _⟩ := ht.ex
      rw [hts] at q1
      have q2 := congrArg (fun o => match o with | some (HO.ins _ _ fs) => fs.lookup ("name" : Str) | _ => none) q1
      simp only [tl_name] at q2
      cases q2
    have lxs : xs.length = nl.length := Paired.length hti
    have hnd : nl.Nodup := hok.nd
    refine ⟨_, rfl, ts, CS, dx, _, _, rfl, h4, X.cl, X.nT, by rw [lookup_putF, if_neg (by decide +kernel), lookup_putF, if_pos rfl], b, rfl, ⟨xs, s4'⟩, for_tup (xs := xs) (fun i σ H5 => (∃ o, σ = [some (.ref ts), some (.ref a), o, none, none, none, none]) ∧ Go T [ts, db] H4 H5 ∧ H5 ts = some (.ins CS dx (putF "tiles_by_name" (.ref db) (putF "tiles" (.ref b) []))) ∧
      ∃ ys, H5 db = some (DicO w db ys) ∧ Dic K w H5 db ys ∧ ys.map (·.1) = nl.take i ∧ ∀ e ∈ ys, ∃ t, e.2.2 = .ref t ∧ TileG K CT H5 t e.1 (gl e.1)) ⟨⟨none, rfl⟩, .refl, h4, [], w4, D4, rfl, fun _ z => (nomatch z)⟩
      (fun i σ H5 _ ⟨_, g5, _⟩ => g5.sqT s4') ?_ ?_⟩
    · rintro i x σ H5 hx ⟨⟨o, rfl⟩, g5, h5, ys, d5, D5, k5, v5⟩
      have gH : Go T [ts] H H5 := g2.trans (g4.drop2' ndb g5)
      obtain ⟨t, n, rfl, hn, hin, ht⟩ := tileAt gH hx
      obtain ⟨dt, vn, v0, v1, v2, v3, e1, e2, e3⟩ := id ht.ex
      have d8 : n.depth ≤ 8 := hok.d8 hin
      have nk : n ∉ ys.map (·.1) := by
        rw [k5]
        intro z
        obtain ⟨j, hj, e⟩ := List.getElem_of_mem z
        rw [List.getElem_take] at e
        rw [List.length_take] at hj
        obtain ⟨hi, e'⟩ := List.getElem?_eq_some_iff.mp hn
        have := (List.getElem_inj hnd (i := j) (j := i) (h₀ := by omega) (h₁ := hi)).mp (e.trans e'.symm)
        omega
      have hv : look ys n = none := look_none_iff.mpr nk
      have zl : ys.length < sizeLine := lsz (by
        have := congrArg List.length k5
        rw [List.length_map, List.length_take] at this
        have h2 : nl.length ≤ 20 := hok.len
        omega)
      have lkb : (putF "tiles_by_name" (.ref db) (putF "tiles" (.ref b) [])).lookup ("tiles_by_name" : Str) = some (V.ref db) := by rw [lookup_putF, if_pos rfl]
      refine ⟨_, rfl, t, CT, dt, _, _, rfl, e1, XT.cl, XT.nN, tl_name, _, rfl, ts, CS, dx, _, _, rfl, h5, X.cl, X.nB, lkb, db, ys, n, rfl, D5, e2, d8, false, by unfold valX; rw [hv]; rfl, iteF ?_⟩
      refine ⟨_, rfl, _, rfl, ts, CS, dx, _, _, rfl, h5, X.cl, X.nB, lkb, _, rfl, t, CT, dt, _, _, rfl, e1, XT.cl, XT.nN, tl_name, db, ys, n, rfl, d5, D5, e2, d8, zl, fun H6 g6 d6 D6 => ?_⟩
      rw [putX_new hv] at d6 D6
      have g6' : Go T [ts, db] H5 H6 := g6.mono (by simp)
      have tdb : ∀ {t' : Addr} {n' : Dm}, TileG K CT H5 t' n' (gl n') → TileG K CT H6 t' n' (gl n') := fun {t' n'} ht' => ht'.go g6 fun z => by
        have e := List.mem_singleton.mp z
        subst e
        obtain ⟨_, _, _, _, _, _, q1, _⟩ := ht'.ex
        rw [d5] at q1
        cases q1
      refine ⟨⟨_, rfl⟩, g5.trans g6', g6.ins h5 (fun z => nts (List.mem_singleton.mp z)), _, d6, D6, ?_, fun e he => ?_⟩
      · rw [List.map_append, k5, List.take_succ, hn]
        rfl
      · rcases List.mem_append.mp he with he | he
        · obtain ⟨t', h1, h2⟩ := v5 e he
          exact ⟨t', h1, tdb h2⟩
        · rw [List.mem_singleton.mp he]
          exact ⟨t, rfl, tdb ht⟩
    · rintro σ H5 ⟨⟨o, rfl⟩, g5, h5, ys, d5, D5, k5, v5⟩
      have gH : Go T [ts] H H5 := g2.trans (g4.drop2' ndb g5)
      rw [lxs, List.take_length] at k5
      clear g2 g4 g5 h4 w4 D4 s4' ndb
      have hper : (nl.mergeSort (PySem.W.dataLe false fun d => .str d.data.shown)).Perm nl := List.mergeSort_perm _ _
      have lkb : (putF "tiles_by_name" (.ref db) (putF "tiles" (.ref b) [])).lookup ("tiles_by_name" : Str) = some (V.ref db) := by rw [lookup_putF, if_pos rfl]
      refine ⟨_, rfl, ts, CS, dx, _, _, rfl, h5, X.cl, X.nB, lkb, db, ys, rfl, D5, fun p H6 np g6 l6 a6 => ⟨nl, ⟨p, _, rfl, .inl (.inl l6), k5 ▸ a6⟩, fun d hd => hsh d hd, g6.tabs (gH.tabs hTb), fun p2 H7 g7 l7 => ⟨_, .ref p2, rfl, .inl l7.ls, fun v H8 g8 d8 => ?_⟩⟩⟩
      generalize nl.mergeSort (PySem.W.dataLe false fun d => .str d.data.shown) = ns at hper d8
      have hv5 : ∀ n ∈ ns, ∃ t, valX ys n = some (.ref t) ∧ TileG K CT H5 t n (gl n) ∧ t ∉ [ts] := fun n hn => by
        have hk : n ∈ ys.map (·.1) := by rw [k5]; exact hper.mem_iff.mp hn
        obtain ⟨e, he, rfl⟩ := List.mem_map.mp hk
        obtain ⟨t, h1, h2⟩ := v5 e he
        refine ⟨t, ?_, h2, fun z => ?_⟩
        · unfold valX
          rw [look_of_mem D5.nd (show (e.1, e.2) ∈ ys from he)]
          exact congrArg some h1
        · rw [List.mem_singleton.mp z] at h2
          obtain ⟨_, _, _, _, _, _, q1, _⟩ := h2.ex
          rw [h5] at q1
          have q2 := congrArg (fun o => match o with | some (HO.ins _ _ fs) => fs.lookup ("name" : Str) | _ => none) q1
          simp only [tl_name] at q2
          rw [lookup_putF, if_neg (by decide +kernel), lookup_putF, if_neg (by decide +kernel)] at q2
          cases q2
      obtain ⟨on, xo, rfl, so, ao⟩ := d8.tupI
      have g58 : Go T [] H5 H8 := g6.trans (g7.trans g8)
      have f1 := putF_len "tiles" (V.ref b) []
      have f2 := putF_len "tiles_by_name" (V.ref db) (putF "tiles" (V.ref b) [])
      refine ⟨_, rfl, ts, CS, dx, _, rfl, g58.ins h5 (by simp), X.cl, X.nO, by simp only [List.length_nil] at f1; omega, fun H9 g9 h9 => ?_⟩
      have f3 := putF_len "ordered_names" (V.ref on) (putF "tiles_by_name" (V.ref db) (putF "tiles" (V.ref b) []))
      have d9 := g9.dat d8
      have gH9 : Go T [ts] H H9 := (gH.trans g58.up).trans g9
      have gx9 : Go T [ts] H5 H9 := g58.up.trans g9
      have ok0 : (Ts.mk ns gl).Ok := ⟨hper.nodup_iff.mpr hnd, by show ns.length ≤ 20; rw [hper.length_eq]; exact hok.len, fun n hn => hok.nam n (hper.mem_iff.mp hn), fun n hn => hok.glu n (hper.mem_iff.mp hn)⟩
      have w9 : H9 db = some (DicO w db ys) := g9.keep _ _ (g58.keep _ _ d5 (.inl (by simp)) dicO_tbl) (.inl fun z => nts (List.mem_singleton.mp z).symm) dicO_tbl
      have D9 : Dic K w H9 db ys := (D5.go g58 (by simp)).go g9 fun z => nts (List.mem_singleton.mp z).symm
      have lkn : (putF "ordered_names" (.ref on) (putF "tiles_by_name" (.ref db) (putF "tiles" (.ref b) []))).lookup ("ordered_names" : Str) = some (V.ref on) := by rw [lookup_putF, if_pos rfl]
      obtain ⟨_, x9, e9, q9, _⟩ := d9.tupI
      cases e9
      clear g6 g7 l7 l6 a6 np d8 so ao
      -- the ranks
      refine ⟨_, rfl, ts, CS, dx, _, _, rfl, h9, X.cl, X.nO, lkn, on, x9, rfl, q9, fun D nD sysD => dc_D (w := w) T (walk_ED (ds := ns) T) nD sysD (fun i es H10 => Go T [D] H9 H10 ∧ es.length ≤ i ∧ ∀ j n, j < i → ns[j]? = some n → look es n = some (.num j)) (fun H10 g _ => ⟨g.up, Nat.le_refl _, fun _ _ z => absurd z (Nat.not_lt_zero _)⟩) (fun i es H10 _ ⟨g, _⟩ => g.dat d9) ?_ ?_⟩
      · rintro i es x H10 H11 hi ⟨g10, hl, hk⟩ W10 ⟨d, hd, g11, hx⟩
        obtain ⟨pa, y, z, rfl, hs, hy, hz⟩ := hx.two
        obtain rfl := hy.numI
        have hdn : d ∈ ns := List.mem_of_getElem? hd
        have hl20 : ns.length ≤ 20 := ok0.len
        refine ⟨pa, _, rfl, hs, rfl, _, _, rfl, _, _, rfl, rfl, rfl, yesT ?_⟩
        refine ⟨_, rfl, _, rfl, es, d, .num i, W10.go g11 (by simp), hz, ok0.d8 hdn, .num _, lsz (by omega), fun H12 g12 W12 => ⟨_, ⟨(g10.trans g11.up).trans g12, ?_, fun j n hj hn => ?_⟩, W12⟩⟩
        · have := putD_len es d (.num i)
          omega
        · rw [look_putD]
          by_cases c : n = d
          · rw [if_pos c]
            subst c
            obtain ⟨h1, h2⟩ := List.getElem?_eq_some_iff.mp hn
            obtain ⟨h3, h4⟩ := List.getElem?_eq_some_iff.mp hd
            have := (List.getElem_inj ok0.nd (h₀ := h1) (h₁ := h3)).mp (h2.trans h4.symm)
            rw [this]
          · rw [if_neg c]
            refine hk j n ?_ hn
            rcases Nat.lt_succ_iff_lt_or_eq.mp hj with z | z
            · exact z
            · rw [z] at hn
              exact absurd (Option.some.inj (hn.symm.trans hd)) c
      · rintro es H10 ⟨g10, hl, hk⟩ W10
        have tsD : ts ≠ D := ne_of_none h9 nD
        have h10 := g10.ins h9 fun z => tsD (List.mem_singleton.mp z)
        have dbD : db ≠ D := ne_of_none w9 nD
        refine ⟨_, rfl, ts, CS, dx, _, rfl, h10, X.cl, X.nR, by simp only [List.length_nil] at f1; omega, fun H11 g11 h11 => ?_⟩
        have f4 := putF_len "ranks" (V.ref D) (putF "ordered_names" (V.ref on) (putF "tiles_by_name" (V.ref db) (putF "tiles" (V.ref b) [])))
        have g9D : Go T [] H9 H10 := g10.drop nD
        have W11 := W10.go g11 fun z => tsD (List.mem_singleton.mp z).symm
        have d11 := g11.dat (g9D.dat d9)
        have w11 := g11.keep _ _ (g9D.keep _ _ w9 (.inl (by simp)) dicO_tbl) (.inl fun z => nts (List.mem_singleton.mp z).symm) dicO_tbl
        have D11 : Dic K w H11 db ys := (D9.go g9D (by simp)).go g11 fun z => nts (List.mem_singleton.mp z).symm
        have gH11 : Go T [ts] H H11 := (gH9.trans g9D.up).trans g11
        have gx11 : Go T [ts] H5 H11 := (gx9.trans g9D.up).trans g11
        clear g10 h10 W10 g11 w9 D9 d9 h9 gH9 g9D g9 h5 d5 D5 gH
        -- the lists by glue
        intro a0 G0 n0 q0 w0 E0 a1 G1 n1 q1 w1 E1 a2 G2 n2 q2 w2 E2 a3 G3 n3 q3 w3 E3
        refine ⟨sz4, fun lg G4 nlg q4 hl4 => ⟨_, rfl, ts, CS, dx, _, rfl, (q0.trans (q1.trans (q2.trans (q3.trans q4)))).ins h11 (by simp), X.cl, X.nG, by simp only [List.length_nil] at f1; omega, fun G5 q5 h12 => ?_⟩⟩
        have g04 : Go T [] H11 G4 := q0.trans (q1.trans (q2.trans (q3.trans q4)))
        have gx : Go T [ts] H5 G5 := (gx11.trans g04.up).trans q5
        have gH : Go T [ts] H G5 := (gH11.trans g04.up).trans q5
        have tsn : ∀ {a : Addr} {H' : Hp}, H' a = none → Go T [] H11 H' → a ∉ [ts] := fun {a H'} h g z => by
          have := g.ins h11 (by simp)
          rw [← List.mem_singleton.mp z, h] at this
          cases this
        have dbn : ∀ {a : Addr} {H' : Hp}, H' a = none → Go T [] H11 H' → db ≠ a := fun {a H'} h g => (D11.go g (by simp)).ne h
        have c0 := Go.refl (T := T) (S := []) (H := H11)
        have c1 := q0
        have c2 := q0.trans q1
        have c3 := q0.trans (q1.trans q2)
        have c4 := q0.trans (q1.trans (q2.trans q3))
        have tup : ∀ {a : Addr} {H' H'' : Hp}, H' a = some (DicO w a []) → a ∉ [ts] → Go T [] H' H'' → Go T [ts] H'' G5 → G5 a = some (DicO w a []) := fun {a H' H''} h n g g' => g'.keep _ _ (g.keep _ _ h (.inl (by simp)) dicO_tbl) (.inl n) dicO_tbl
        have v0 := tup w0 (tsn n0 c0) (q1.trans (q2.trans (q3.trans q4))) q5
        have v1 := tup w1 (tsn n1 c1) (q2.trans (q3.trans q4)) q5
        have v2 := tup w2 (tsn n2 c2) (q3.trans q4) q5
        have v3 := tup w3 (tsn n3 c3) q4 q5
        have F0 := (E0.go (q1.trans (q2.trans (q3.trans q4))) (by simp)).go q5 (tsn n0 c0)
        have F1 := (E1.go (q2.trans (q3.trans q4)) (by simp)).go q5 (tsn n1 c1)
        have F2 := (E2.go (q3.trans q4) (by simp)).go q5 (tsn n2 c2)
        have F3 := (E3.go q4 (by simp)).go q5 (tsn n3 c3)
        have x01 : a0 ≠ a1 := E0.ne n1
        have x02 : a0 ≠ a2 := (E0.go q1 (by simp)).ne n2
        have x03 : a0 ≠ a3 := (E0.go (q1.trans q2) (by simp)).ne n3
        have x12 : a1 ≠ a2 := E1.ne n2
        have x13 : a1 ≠ a3 := (E1.go q2 (by simp)).ne n3
        have x23 : a2 ≠ a3 := E2.ne n3
        have mem4 : ∀ {a : Addr}, a ∈ [a0, a1, a2, a3] → a = a0 ∨ a = a1 ∨ a = a2 ∨ a = a3 := fun {a} h => by simpa using h
        have ndb : db ∉ [a0, a1, a2, a3] := fun z => by
          rcases mem4 z with z | z | z | z
          · exact dbn n0 c0 z
          · exact dbn n1 c1 z
          · exact dbn n2 c2 z
          · exact dbn n3 c3 z
        have nD' : D ∉ [a0, a1, a2, a3] := fun z => by
          rcases mem4 z with z | z | z | z
          · exact W11.ne n0 z
          · exact (W11.go c1 (by simp)).ne n1 z
          · exact (W11.go c2 (by simp)).ne n2 z
          · exact (W11.go c3 (by simp)).ne n3 z
        have isD : ∀ {a : Addr}, a ∈ [a0, a1, a2, a3] → ∃ xs, G5 a = some (DicO w a xs) := fun {a} z => by
          rcases mem4 z with z | z | z | z <;> subst z
          · exact ⟨_, v0⟩
          · exact ⟨_, v1⟩
          · exact ⟨_, v2⟩
          · exact ⟨_, v3⟩
        have nts' : ts ∉ [a0, a1, a2, a3] := fun z => by
          obtain ⟨_, e⟩ := isD z
          rw [h12] at e
          unfold DicO at e
          cases e
        have l5 : G5 lg = some (.lst [.ref a0, .ref a1, .ref a2, .ref a3]) := q5.lst hl4 (tsn nlg c4)
        have nlg' : lg ∉ [a0, a1, a2, a3] := fun z => by
          obtain ⟨_, e⟩ := isD z
          rw [l5] at e
          unfold DicO at e
          cases e
        have d5 := q5.dat (g04.dat d11)
        have D5' : Dic K w G5 db ys := (D11.go g04 (by simp)).go q5 fun z => nts (List.mem_singleton.mp z).symm
        have W5 := (W11.go g04 (by simp)).go q5 fun z => tsD (List.mem_singleton.mp z).symm
        have hv : ∀ n ∈ ns, ∃ t, valX ys n = some (.ref t) ∧ TileG K CT G5 t n (gl n) ∧ t ∉ [a0, a1, a2, a3] := fun n hn => by
          obtain ⟨t, h1, h2, h3⟩ := hv5 n hn
          have h4 := h2.go gx h3
          refine ⟨t, h1, h4, fun z => ?_⟩
          obtain ⟨_, e⟩ := isD z
          obtain ⟨_, _, _, _, _, _, q1, _⟩ := h4.ex
          rw [q1] at e
          unfold DicO at e
          cases e
        have y0 : Nw H a0 := gH11.nw (.none n0) (tsn n0 c0)
        have y1 : Nw H a1 := (gH11.trans c1.up).nw (.none n1) (tsn n1 c1)
        have y2 : Nw H a2 := (gH11.trans c2.up).nw (.none n2) (tsn n2 c2)
        have y3 : Nw H a3 := (gH11.trans c3.up).nw (.none n3) (tsn n3 c3)
        clear hv5 gx gx11 gx9 gH11 q0 q1 q2 q3 q4 c1 c2 c3 c4 c0 w0 w1 w2 w3 E0 E1 E2 E3 tup tsn dbn n0 n1 n2 n3 nlg hl4 g04 q5 W11 D11 d11 w11 h11 v5 k5
        obtain ⟨_, xo, e', qo, ao⟩ := d5.tupI
        cases e'
        have hA : ∀ i j, i < 4 → j < 4 → (fun i => [a0, a1, a2, a3].getD i 0) i = (fun i => [a0, a1, a2, a3].getD i 0) j → i = j := fun i j hi hj e => by
          rcases four hi with rfl | rfl | rfl | rfl <;> rcases four hj with rfl | rfl | rfl | rfl <;> first | rfl | (exfalso; revert e; show ¬ _ = _; simp [x01, x02, x03, x12, x13, x23, x01.symm, x02.symm, x03.symm, x12.symm, x13.symm, x23.symm])
        obtain ⟨Af, eA⟩ : ∃ Af : Nat → Addr, Af = fun i => [a0, a1, a2, a3].getD i 0 := ⟨_, rfl⟩
        rw [← eA] at hA
        have inA : ∀ i, i < 4 → Af i ∈ [a0, a1, a2, a3] := fun i hi => by
          rw [eA]
          rcases four hi with rfl | rfl | rfl | rfl <;> simp
        have atA : ∀ i : Nat, i < 4 → atI [V.ref a0, V.ref a1, V.ref a2, V.ref a3] (i : Int) = some (.ref (Af i)) := fun i hi => by
          rw [eA]
          rcases four hi with rfl | rfl | rfl | rfl <;> rfl
        have N0 : NbG K w G5 Af (fun _ _ => none) (fun _ => []) gl := by
          refine ⟨fun i hi => ?_, fun i g hi => rfl, fun _ _ _ _ _ _ _ z => nomatch z⟩
          rw [eA]
          rcases four hi with rfl | rfl | rfl | rfl
          · exact ⟨[], v0, F0, Nat.le_refl _, fun _ => rfl⟩
          · exact ⟨[], v1, F1, Nat.le_refl _, fun _ => rfl⟩
          · exact ⟨[], v2, F2, Nat.le_refl _, fun _ => rfl⟩
          · exact ⟨[], v3, F3, Nat.le_refl _, fun _ => rfl⟩
        have lkt : (tsFs (.ref b) (.ref db) (.ref on) (.ref D) (.ref lg)).lookup ("ordered_names" : Str) = some (V.ref on) := ts_names
        have ln20 : ns.length ≤ 20 := ok0.len
        have lno : xo.length = ns.length := ao.length.symm
        refine ⟨_, rfl, ts, CS, dx, _, _, rfl, h12, X.cl, X.nO, lkt, on, rfl, ⟨xo, qo⟩, for_tup (xs := xo) (fun j σ G => (∃ o3 o4 o5, σ = [some (.ref ts), some (.ref a), o, o3, o4, o5, none]) ∧ Go T [a0, a1, a2, a3] G5 G ∧ ∃ Lf, NbG K w G Af Lf (fun _ => ns.take j) gl ∧ ∀ i g l, i < 4 → Lf i g = some l → Nw G5 l)
          ⟨⟨none, none, none, rfl⟩, .refl, _, N0, fun _ _ _ _ z => nomatch z⟩ (fun j σ G _ ⟨_, g, _⟩ => g.sqT qo) ?_ ?_⟩
        · rintro j x σ G hx ⟨⟨o3, o4, o5, rfl⟩, g6, Lf, N, nw⟩
          obtain ⟨n, hn, hxn⟩ := ao.get hx
          have hin : n ∈ ns := List.mem_of_getElem? hn
          refine ⟨4, rfl, by decide, by decide, for_range (n := 4) (fun k σ G => (∃ o4 o5, σ = [some (.ref ts), some (.ref a), o, some x, o4, o5, none]) ∧ Go T [a0, a1, a2, a3] G5 G ∧ ∃ Lf, NbG K w G Af Lf (fun i => if i < k then ns.take (j + 1) else ns.take j) gl ∧ ∀ i g l, i < 4 → Lf i g = some l → Nw G5 l)
            ⟨⟨_, _, rfl⟩, g6, Lf, N, nw⟩ ?_ ?_⟩
          · rintro k σ G hk ⟨⟨o4, o5, rfl⟩, g6, Lf, N, nw⟩
            obtain ⟨t, ht1, ht2, ht3⟩ := hv n hin
            have htG := ht2.go g6 ht3
            obtain ⟨dt, _, _, _, _, _, te, _⟩ := id htG.ex
            have gno : ∀ {vn v0 v1 v2 v3 : V}, (putF "north" v3 (putF "east" v2 (putF "south" v1 (putF "west" v0 (putF "name" vn []))))).lookup ("glue_at" : Str) = none := by
              intro vn v0 v1 v2 v3
              rw [lookup_putF, if_neg (by decide +kernel), lookup_putF, if_neg (by decide +kernel), lookup_putF, if_neg (by decide +kernel), lookup_putF, if_neg (by decide +kernel), lookup_putF, if_neg (by decide +kernel)]
              rfl
            obtain ⟨zs, z1, z2, z3, z4⟩ := N.dic k hk
            have zl : zs.length ≤ 20 := by
              refine Nat.le_trans z3 ?_
              rw [if_neg (Nat.lt_irrefl k), List.length_take]
              omega
            have gd7 : (gl n k).depth ≤ 8 := Nat.le_trans (ok0.glu n hin k hk).depth (by decide)
            have preE : prePut (fun i => if i < k then ns.take (j + 1) else ns.take j) k n = fun i => if i < k + 1 then ns.take (j + 1) else ns.take j := by
              funext i
              unfold prePut
              dsimp only
              by_cases c : i = k
              · subst c
                rw [if_pos rfl, if_neg (Nat.lt_irrefl i), if_pos (Nat.lt_succ_self i), List.take_succ, hn]
                rfl
              · rw [if_neg c]
                by_cases c2 : i < k
                · rw [if_pos c2, if_pos (Nat.lt_succ_of_lt c2)]
                · rw [if_neg c2, if_neg (by omega)]
            have hGts := g6.ins h12 nts'
            refine ⟨_, rfl, ts, CS, dx, _, _, rfl, hGts, X.cl, X.nG, ts_glue, _, rfl, lg, _, k, _, rfl, by rw [Int.zero_add], .inl (.inl (g6.lst l5 nlg')), atA k hk, ⟨Af k, zs, rfl, z2⟩, ?_⟩
            refine ⟨_, rfl, ts, CS, dx, _, _, rfl, hGts, X.cl, X.nB, ts_by, _, rfl, db, ys, n, _, rfl, D5'.go g6 ndb, (g6.dat hxn), ok0.d8 hin, ht1, t, dt, _, rfl, te, gno, _, rfl, t, n, gl n, k, by rw [Int.zero_add]; rfl, hk, htG, fun v G1 r1 hv1 => ?_⟩
            refine ⟨[], .nil, sz0, fun l G2 nl2 r2 L2 => ?_⟩
            have r12 : Go T [] G G2 := r1.trans r2
            refine ⟨Af k, zs, gl n k, v, .ref l, rfl, rfl, r12.keep _ _ z1 (.inl (by simp)) dicO_tbl, z2.go r12 (by simp), r2.dat hv1, gd7, lsz (by omega), fun v' e => ?_, fun e G3 r3 d3 D3 => ?_⟩
            · rw [z4] at e
              cases el : Lf k (gl n k) with
              | none => rw [el] at e; cases e
              | some l0 =>
                rw [el] at e
                obtain rfl : v' = .ref l0 := (Option.some.inj e).symm
                have Ll := (N.up r12).lst k (gl n k) hk
                rw [el] at Ll
                obtain ⟨ls0, lh, ld⟩ := id Ll.ex
                refine ⟨_, rfl, .inl ⟨rfl, _, .inl (.inl lh)⟩, _, rfl, l0, _, n, x, rfl, rfl, Ll, r12.dat (g6.dat hxn), ?_, fun G3 r3 L3 => ?_⟩
                · refine lsz (Nat.le_trans (List.length_filter_le _ _) ?_)
                  rw [if_neg (Nat.lt_irrefl k), List.length_take]
                  omega
                · have N3 := (N.up r12).old hk el r3 L3
                  rw [preE] at N3
                  exact ⟨⟨_, _, rfl⟩, (((g6.trans r12.up).mono (S' := l0 :: [a0, a1, a2, a3]) (by simp)).trans (r3.mono (by simp))).dropN (nw k _ l0 hk el), Lf, N3, nw⟩
            · have el : Lf k (gl n k) = none := by
                rw [z4] at e
                exact Option.map_eq_none_iff.mp e
              have asl : l ≠ Af k := fun z => by
                have := r1.keep _ _ z1 (.inl (by simp)) dicO_tbl
                rw [← z, nl2] at this
                cases this
              have L3 := L2.go r3 (fun z => asl (List.mem_singleton.mp z))
              obtain ⟨ls0, lh, ld⟩ := id L3.ex
              refine ⟨_, rfl, .inl ⟨rfl, _, .inl (.inl lh)⟩, _, rfl, l, _, n, x, rfl, rfl, L3, r3.dat (r12.dat (g6.dat hxn)), lsz (by simp), fun G4 r4 L4 => ?_⟩
              have N4 := (N.up r1).new hA hk el z4 z3 nl2 r2 L2 r3 d3 D3 r4 L4
              rw [preE] at N4
              have nwl : Nw G5 l := (g6.trans r1.up).nw (.none nl2) fun z => by
                have no : ∀ i, i < 4 → l ≠ Af i := fun i hi z => by
                  obtain ⟨_, q, _⟩ := (N.up r1).dic i hi
                  rw [← z, nl2] at q
                  cases q
                rw [eA] at no
                rcases mem4 z with z | z | z | z
                · exact no 0 (by decide) z
                · exact no 1 (by decide) z
                · exact no 2 (by decide) z
                · exact no 3 (by decide) z
              refine ⟨⟨_, _, rfl⟩, ?_, _, N4, fun i g l' hi e => ?_⟩
              · exact ((((g6.trans r12.up).trans (r3.mono (by intro a ha; rw [List.mem_singleton.mp ha]; exact inA k hk))).mono (S' := l :: [a0, a1, a2, a3]) (by simp)).trans (r4.mono (by simp))).dropN nwl
              · by_cases c : i = k ∧ g = gl n k
                · rw [if_pos c] at e
                  cases e
                  exact nwl
                · rw [if_neg c] at e
                  exact nw i g l' hi e
          · rintro σ G ⟨⟨o4, o5, rfl⟩, g6, Lf, N, nw⟩
            refine ⟨⟨_, _, _, rfl⟩, g6, Lf, ⟨fun i hi => ?_, fun i g hi => ?_, N.inj⟩, nw⟩
            · have := N.dic i hi
              simp only [if_pos hi] at this
              exact this
            · have := N.lst i g hi
              simp only [if_pos hi] at this
              exact this
        · rintro σ G ⟨_, g6, Lf, N, nw⟩
          rw [lno, List.take_length] at N
          have gF : Go T [ts] H G := ((((gH.mono (S' := [a0, a1, a2, a3, ts]) (by simp)).trans (g6.mono (by simp))).dropN y0).dropN y1).dropN y2 |>.dropN y3
          refine q ns G hper gF ⟨ok0, dx, db, D, lg, a0, a1, a2, a3, .ref b, .ref on, ys, es, g6.ins h12 nts', D5'.go g6 ndb, fun n hn => ?_, (W5.go g6 nD').toD, fun n hn => ?_, g6.sqL (.inl (.inl l5)) nlg', ?_, ?_, ?_, ?_⟩
          · obtain ⟨t, h1, h2, h3⟩ := hv n hn
            exact ⟨t, h1, h2.go g6 h3⟩
          · exact hk _ _ (List.idxOf_lt_length_of_mem hn) (List.getElem?_eq_some_iff.mpr ⟨List.idxOf_lt_length_of_mem hn, List.getElem_idxOf (List.idxOf_lt_length_of_mem hn)⟩)
          · have := N.glD (i := 0) (by decide)
            rw [eA] at this
            exact this
          · have := N.glD (i := 1) (by decide)
            rw [eA] at this
            exact this
          · have := N.glD (i := 2) (by decide)
            rw [eA] at this
            exact this
          · have := N.glD (i := 3) (by decide)
            rw [eA] at this
            exact this
end
end TG

/-! The program's defs: Bed, what it tells. -/
namespace TG
open PySem PySem.Spec L2 TGr LamX
open PyProof.Rows hiding St

structure TxtB (K : PySem.W.Frag) (mg : Str → Option Value) (CB : Addr) : Prop where
  cl : Cls K CB
  mg : mg "Bed" = some (.ref CB)
  nS : NoAttr K CB "tile_set"
  nP : NoAttr K CB "seed_place"
  nN : NoAttr K CB "seed_name"
  nL : NoAttr K CB "lying"
  nC : NoAttr K CB "coming"
def bdFs (vt vp vn vl vc : V) : List (Str × V) := putF "coming" vc (putF "lying" vl (putF "seed_name" vn (putF "seed_place" vp (putF "tile_set" vt []))))
section
variable {vt vp vn vl vc : V}
theorem bd_set : (bdFs vt vp vn vl vc).lookup ("tile_set" : Str) = some vt := by
  unfold bdFs
  rw [lookup_putF, if_neg (by decide +kernel), lookup_putF, if_neg (by decide +kernel), lookup_putF, if_neg (by decide +kernel), lookup_putF, if_neg (by decide +kernel), lookup_putF, if_pos rfl]
theorem bd_place : (bdFs vt vp vn vl vc).lookup ("seed_place" : Str) = some vp := by
  unfold bdFs
  rw [lookup_putF, if_neg (by decide +kernel), lookup_putF, if_neg (by decide +kernel), lookup_putF, if_neg (by decide +kernel), lookup_putF, if_pos rfl]
theorem bd_name : (bdFs vt vp vn vl vc).lookup ("seed_name" : Str) = some vn := by
  unfold bdFs
  rw [lookup_putF, if_neg (by decide +kernel), lookup_putF, if_neg (by decide +kernel), lookup_putF, if_pos rfl]
theorem bd_lying : (bdFs vt vp vn vl vc).lookup ("lying" : Str) = some vl := by
  unfold bdFs
  rw [lookup_putF, if_neg (by decide +kernel), lookup_putF, if_pos rfl]
theorem bd_coming : (bdFs vt vp vn vl vc).lookup ("coming" : Str) = some vc := by
  unfold bdFs
  rw [lookup_putF, if_pos rfl]
theorem bd_no {m : Str} (h1 : ¬ m = "coming") (h2 : ¬ m = "lying") (h3 : ¬ m = "seed_name") (h4 : ¬ m = "seed_place") (h5 : ¬ m = "tile_set") : (bdFs vt vp vn vl vc).lookup m = none := by
  unfold bdFs
  rw [lookup_putF, if_neg h1, lookup_putF, if_neg h2, lookup_putF, if_neg h3, lookup_putF, if_neg h4, lookup_putF, if_neg h5]
  rfl
end
/-- the world: a tile set that stays, the tables -/
structure Wo (K : PySem.W.Frag) (w : World) (Tb' : Tb) (CT CS : Addr) (ts : Addr) (T : Ts) (H0 H : Hp) : Prop where
  ts0 : TsAt K w CT CS H0 ts T
  go : Go Tb' [] H0 H
  tb : Tabs Tb' H
/-- a bed stands at b -/
structure BedAt (K : PySem.W.Frag) (w : World) (CB : Addr) (H0 H : Hp) (b ts : Addr) (T : Ts) (sp : Pl) (sn : Dm) (dl dc : Addr) (es cs : Es) : Prop where
  ins : ∃ dx vp vn, H b = some (.ins CB dx (bdFs (.ref ts) vp vn (.ref dl) (.ref dc))) ∧ Dat K H (pd sp) vp ∧ Dat K H sn vn
  L : DicW K w H dl es
  C : DicW K w H dc cs
  nl : Nw H0 dl
  nc : Nw H0 dc
  ne : dl ≠ dc
  bo : BedOk T es
  sm : es.length ≤ 200
section
variable {K : PySem.W.Frag} {w : World} {H0 H H' : Hp} {Tb' : Tb} {CT CS CB ts b dl dc : Addr} {T : Ts} {sp : Pl} {sn : Dm} {es cs : Es} {S : List Addr}
theorem Room.units10 {A : Around} {k : Nat} (hr : Room k A) : A.units + 10 < cLine := by have := hr.un; omega
theorem Wo.tsa (W : Wo K w Tb' CT CS ts T H0 H) : TsAt K w CT CS H ts T := W.ts0.go W.go
theorem Wo.ok (W : Wo K w Tb' CT CS ts T H0 H) : T.Ok := W.ts0.ok
theorem Wo.step (W : Wo K w Tb' CT CS ts T H0 H) (g : Go Tb' S H H') (h : ∀ a ∈ S, Nw H0 a) : Wo K w Tb' CT CS ts T H0 H' := by
  refine ⟨W.ts0, ?_, g.tabs W.tb⟩
  have g' : Go Tb' S H0 H' := W.go.up.trans g
  clear g W
  induction S with
  | nil => exact g'
  | cons a S ih => exact ih (fun x hx => h x (List.mem_cons_of_mem _ hx)) (g'.dropN (h a List.mem_cons_self))
theorem Wo.up (W : Wo K w Tb' CT CS ts T H0 H) (g : Go Tb' [] H H') : Wo K w Tb' CT CS ts T H0 H' := W.step g fun _ z => nomatch z
theorem BedAt.b_ne (B : BedAt K w CB H0 H b ts T sp sn dl dc es cs) : b ≠ dl ∧ b ≠ dc := by
  obtain ⟨dx, vp, vn, h, _⟩ := B.ins
  constructor
  · obtain ⟨xs, q, _⟩ := B.L.ex
    exact ne_of h q fun z => by unfold DicO at z; cases z
  · obtain ⟨xs, q, _⟩ := B.C.ex
    exact ne_of h q fun z => by unfold DicO at z; cases z
theorem BedAt.go (B : BedAt K w CB H0 H b ts T sp sn dl dc es cs) (g : Go Tb' S H H') (h1 : b ∉ S) (h2 : dl ∉ S) (h3 : dc ∉ S) : BedAt K w CB H0 H' b ts T sp sn dl dc es cs := by
  obtain ⟨dx, vp, vn, h, hp, hn⟩ := B.ins
  exact ⟨⟨dx, vp, vn, g.ins h h1, g.dat hp, g.dat hn⟩, B.L.go g h2, B.C.go g h3, B.nl, B.nc, B.ne, B.bo, B.sm⟩
theorem BedAt.up (B : BedAt K w CB H0 H b ts T sp sn dl dc es cs) (g : Go Tb' [] H H') : BedAt K w CB H0 H' b ts T sp sn dl dc es cs := B.go g (by simp) (by simp) (by simp)
end
abbrev bM (i : Nat) : Stmt := inClass (top 19) i
section
variable {P : Program} {w : World} {K : PySem.W.Frag} {mg : Str → Option Value} {base : Heap} {f fC fG fB fO fW fS : Addr} {fd fdC fdG fdB fdO fdW fdS : FuncData} {CT CS CB : Addr}
/-! ### pairs -/
abbrev sPairs : Stmt := bM 3
theorem scPairs : FnScope ["self", "place"] ["self"] (defScope sPairs) := ⟨rfl, rfl, rfl, by decide +kernel, rfl, by decide +kernel, by decide +kernel⟩
def spPairs (K : PySem.W.Frag) (w : World) (Tb' : Tb) (CB : Addr) : Sp := fun vs H Q _ => ∃ (H0 : Hp) (b ts : Addr) (T : Ts) (sp : Pl) (sn : Dm) (dl dc : Addr) (es cs : Es), vs = [.ref b] ∧ BedAt K w CB H0 H b ts T sp sn dl dc es cs ∧
  ∀ a (ps : List Pl) H', es.map (·.1) = ps.map pd → Go Tb' [] H H' → Dat K H' (.tup (prL es (ps.mergeSort plLe))) (.ref a) → Q (.ref a) H'
theorem ok_pairs (Tb' : Tb) (F : Fun K "pairs" "Bed.pairs" sPairs f fd) (X : TxtB K mg CB) (B : Blt mg) : FnOk P w K mg base CX0 1 f fd ["self"] (spPairs K w Tb' CB) := by
  refine F.ok scPairs (fun vs H Q E h => ?_) (fun cdv A outer s H vs Q E hr h => ?_)
  · obtain ⟨_, b, _, _, _, _, _, _, _, _, rfl, _⟩ := h
    rfl
  · obtain ⟨H0, b, ts, T, sp, sn, dl, dc, es, cs, rfl, hB, q⟩ := h
    obtain ⟨dx, vp, vn, hb, hp, hn⟩ := hB.ins
    obtain ⟨ps, hps⟩ := hB.bo.key
    refine ⟨_, pss_one (ps_ret (pe_callTy (call_tupL Tb') (by rfl) B.tuple boot_tuple (pa_cons (pe_lc (own := [("place", 1)]) (g := gName 1) (te := tTupD K Tb' (tCons (tVar 1) (tCons (tOp (rIxD K w) (tFld K (tVar 0) "lying") (tVar 1)) tNil))) (by rfl) scPairs.nd
        (pi_list (pe_callB (cr_sortP Tb' (Room.units10 hr)) (by rfl) B.sorted boot_sorted (pa_cons (pe_callTy (call_listDD Tb' hr.hd) (by rfl) B.list (by decide +kernel) (pa_cons (pe_fld (pv 0) rfl) pa_nil)) pa_nil)))
        (blkOk_by (own := [("place", 1)]) (N := ["self", "place"]) (sc := defScope sPairs) (by decide +kernel)) (fun _ _ _ _ _ => pg_name (i := 1) scPairs.nd rfl (Or.inl rfl)) (fun _ _ _ _ _ => pts_nil)
        (fun _ _ _ _ _ => pe_tupD Tb' (pa_cons (pv 1) (pa_cons (pe_ix (ix_D (Room.u9 hr)) (pe_fld (pv 0) rfl) (pv 1) (fun _ _ => rfl)) pa_nil)))) pa_nil))), ?_⟩
    refine ⟨_, rfl, b, CB, dx, _, _, rfl, hb, X.cl, X.nL, bd_lying, dl, es, rfl, hB.L.toD, fun p H1 x1 n1 g1 l1 a1 => ?_⟩
    refine ⟨ps, .ref p, rfl, ⟨p, x1, rfl, .inl (.inl l1), hps ▸ a1⟩, fun p2 H2 n2 g2 L2 => ?_⟩
    refine ⟨p2, rfl, (let ⟨xs, h, _⟩ := L2.ex; ⟨xs, .inl (.inl h)⟩), fun D nD => ?_⟩
    have ms : ∀ r, r ∈ ps.mergeSort plLe → ∃ n, at' es r = some n := fun r hr => by
      have := (mem_keys hps r).mp (sorted_mem.mp hr)
      exact Option.isSome_iff_exists.mp this
    have hb2 := hB.up (g1.trans g2)
    obtain ⟨dx2, vp2, vn2, hb', _⟩ := hb2.ins
    have ln : ps.length ≤ 200 := by
      have e := congrArg List.length hps
      rw [List.length_map, List.length_map] at e
      rw [← e]
      exact hB.sm
    refine lc_D (K := K) Tb' (walk_L (ds := (ps.mergeSort plLe).map pd)) nD (fun i ds H3 => Go Tb' [D] H2 H3 ∧ ds = (prL es (ps.mergeSort plLe)).take i) (fun H3 g _ => ⟨g.up, rfl⟩) (fun i ds H3 _ ⟨g, _⟩ => (L2.go g fun z => L2.ne nD (List.mem_singleton.mp z)).ls) ?_ ?_
    · rintro i ds x H3 H4 hi ⟨g3, rfl⟩ L3 ⟨rfl, d, hd, hx⟩
      have hi' : i < (ps.mergeSort plLe).length := by simpa using hi
      obtain ⟨r, hr, hr2⟩ : ∃ r, (ps.mergeSort plLe)[i]? = some r ∧ d = pd r := by
        rw [List.getElem?_map] at hd
        obtain ⟨r, h1, h2⟩ := Option.map_eq_some_iff.mp hd
        exact ⟨r, h1, h2.symm⟩
      subst hr2
      obtain ⟨n, hn'⟩ := ms r (List.mem_of_getElem? hr)
      have nb : b ∉ [D] := fun z => ne_of_none hb' nD (List.mem_singleton.mp z)
      have ndl : dl ∉ [D] := fun z => hb2.L.ne nD (List.mem_singleton.mp z)
      refine ⟨rfl, yesT ⟨_, rfl, _, rfl, b, CB, dx2, _, _, rfl, g3.ins hb' nb, X.cl, X.nL, bd_lying, _, rfl, dl, es, pd r, n, rfl, (hb2.L.toD.go g3 ndl), hx, pd_depth r, hn', fun v hv => ⟨[pd r, n], .cons hx (.cons hv .nil), sz2, fun p5 H5 n5 g5 d5 => ?_⟩⟩⟩
      refine lcN Tb' (L3.go g5 (by simp)) d5 ?_ fun H6 g6 L6 => ⟨(g3.trans g5.up).trans g6, ?_⟩
      · rw [List.length_take]
        unfold prL
        rw [List.length_map, List.length_mergeSort]
        exact lsz (by omega)
      · rw [List.take_succ]
        congr 1
        unfold prL
        rw [List.getElem?_map, hr, Option.map_some, hn']
        rfl
    · rintro ds H3 ⟨g3, rfl⟩ L3
      have e1 : ((ps.mergeSort plLe).map pd).length = (prL es (ps.mergeSort plLe)).length := by unfold prL; rw [List.length_map, List.length_map]
      rw [e1, List.take_length] at L3
      refine ⟨_, .ref D, rfl, .inl L3.ls, fun v H4 g4 d4 => ?_⟩
      obtain ⟨a, _, rfl, _, _⟩ := d4.tupI
      exact q a ps H4 hps (g1.trans (g2.trans ((g3.drop nD).trans g4))) d4
/-! ### how_many -/
abbrev sMany : Stmt := bM 4
theorem scMany : FnScope ["self"] ["self"] (defScope sMany) := ⟨rfl, rfl, rfl, by decide +kernel, rfl, by decide +kernel, by decide +kernel⟩
def spMany (K : PySem.W.Frag) (w : World) (CB : Addr) : Sp := fun vs H Q _ => ∃ (H0 : Hp) (b ts : Addr) (T : Ts) (sp : Pl) (sn : Dm) (dl dc : Addr) (es cs : Es), vs = [.ref b] ∧ BedAt K w CB H0 H b ts T sp sn dl dc es cs ∧ Q (.int es.length) H
theorem ok_many (F : Fun K "how_many" "Bed.how_many" sMany f fd) (X : TxtB K mg CB) (B : Blt mg) : FnOk P w K mg base CX0 1 f fd ["self"] (spMany K w CB) := by
  refine F.ok scMany (fun vs H Q E h => ?_) (fun cdv A outer s H vs Q E hr h => ?_)
  · obtain ⟨_, b, _, _, _, _, _, _, _, _, rfl, _⟩ := h
    rfl
  · obtain ⟨H0, b, ts, T, sp, sn, dl, dc, es, cs, rfl, hB, q⟩ := h
    obtain ⟨dx, vp, vn, hb, hp, hn⟩ := hB.ins
    refine ⟨_, pss_one (ps_ret (pe_callB call_lenDD (by rfl) B.len boot_len (pa_cons (pe_fld (pv 0) rfl) pa_nil))), ?_⟩
    exact ⟨_, rfl, b, CB, dx, _, _, rfl, hb, X.cl, X.nL, bd_lying, dl, es, rfl, hB.L.toD, q⟩
end
end TG

/-! The program's defs: Bed: shown_glues, bonds, fitting. -/
namespace TG
open PySem PySem.Spec L2 TGr LamX
open PyProof.Rows hiding St

/-- the defs that a bed's methods call -/
structure CallsB (P : Program) (w : World) (K : PySem.W.Frag) (mg : Str → Option Value) (base : Heap) (Tb' : Tb) (CT CS : Addr) (fCk fBe fOf fGl fWi fOr : Addr) (dCk dBe dOf dGl dWi dOr : FuncData) : Prop where
  ck : TopF K mg "check_place" sCkPl ["value"] fCk dCk
  ckG : FnOk P w K mg base CX0 3 fCk dCk ["value"] (spCkPl K)
  be : TopF K mg "beside" sBes ["place"] fBe dBe
  beG : FnOk P w K mg base CX0 4 fBe dBe ["place"] (spBes K Tb')
  of : MetF K CS "tile_of" "TileSet.tile_of" sTsOf ["self", "name"] fOf dOf
  ofG : FnOk P w K mg base CX0 1 fOf dOf ["self", "name"] (spTsOf K w CT CS)
  gl : MetF K CT "glue_at" "Tile.glue_at" sTiG ["self", "side"] fGl dGl
  glG : FnOk P w K mg base CX0 3 fGl dGl ["self", "side"] (spTiG K Tb' CT)
  wi : MetF K CS "with_glue" "TileSet.with_glue" sTsW ["self", "side", "glue"] fWi dWi
  wiG : FnOk P w K mg base CX0 3 fWi dWi ["self", "side", "glue"] (spTsW K w Tb' CT CS)
  or : Meth K CS "in_order" fOr
  orB : Binds K dOr ["self", "names"] []
  orG : FnOk P w K mg base CX0 1 fOr dOr ["self", "names"] (spTsO K w Tb' CT CS)
theorem ti_no {vn v0 v1 v2 v3 : V} : (putF "north" v3 (putF "east" v2 (putF "south" v1 (putF "west" v0 (putF "name" vn []))))).lookup ("glue_at" : Str) = none := by
  rw [lookup_putF, if_neg (by decide +kernel), lookup_putF, if_neg (by decide +kernel), lookup_putF, if_neg (by decide +kernel), lookup_putF, if_neg (by decide +kernel), lookup_putF, if_neg (by decide +kernel)]
  rfl
def encG (x : Nat × Dm) : Dm := .tup [.num x.1, x.2]
/-- what the first k sides show -/
def shK (T : Ts) (es : Es) (p : Pl) (k : Nat) : List (Nat × Dm) := ([0, 1, 2, 3].take k).filterMap fun i => (at' es (nb p i)).map fun m => (i, T.gl m (opp i))
theorem shK4 (T : Ts) (es : Es) (p : Pl) : shK T es p 4 = shownL T es p := rfl
theorem shK_succ (T : Ts) (es : Es) (p : Pl) {k : Nat} (hk : k < 4) : shK T es p (k + 1) = shK T es p k ++ (match at' es (nb p k) with | none => [] | some m => [(k, T.gl m (opp k))]) := by
  rcases four hk with rfl | rfl | rfl | rfl <;> (unfold shK; simp only [List.take, List.filterMap_cons, List.filterMap_nil]; repeat (cases at' es (nb p _) <;> simp))
theorem shK_len (T : Ts) (es : Es) (p : Pl) (k : Nat) : (shK T es p k).length ≤ 4 := by
  unfold shK
  refine Nat.le_trans (List.length_filterMap_le _ _) ?_
  rw [List.length_take]
  exact Nat.min_le_right _ _
theorem bes_get (p : Pl) {k : Nat} {d : Dm} (h : (bes p)[k]? = some d) : k < 4 ∧ d = pd (nb p k) := by
  have hk : k < 4 := by
    obtain ⟨h1, _⟩ := List.getElem?_eq_some_iff.mp h
    exact h1
  refine ⟨hk, ?_⟩
  rcases four hk with rfl | rfl | rfl | rfl <;> exact (Option.some.inj h).symm
theorem opp_bit {k : Nat} (hk : k < 4) : Builtin.bitAnd ((k : Int) + 2) 3 = (opp k : Nat) := by
  rcases four hk with rfl | rfl | rfl | rfl <;> decide +kernel
section
variable {P : Program} {w : World} {K : PySem.W.Frag} {mg : Str → Option Value} {base : Heap} {f fS fCk fBe fOf fGl fWi fOr : Addr} {fd fdS dCk dBe dOf dGl dWi dOr : FuncData} {CT CS CB : Addr}
/-! ### shown_glues -/
abbrev sShow : Stmt := bM 6
theorem scShow : FnScope ["self", "place", "found", "side", "other", "tile"] ["self", "place"] (defScope sShow) := ⟨rfl, rfl, rfl, by decide +kernel, rfl, by decide +kernel, by decide +kernel⟩
def spShow (K : PySem.W.Frag) (w : World) (Tb' : Tb) (CT CS CB : Addr) : Sp := fun vs H Q _ => ∃ (H0 : Hp) (b ts : Addr) (T : Ts) (sp : Pl) (sn : Dm) (dl dc : Addr) (es cs : Es) (p : Pl) (x : V), vs = [.ref b, x] ∧ BedAt K w CB H0 H b ts T sp sn dl dc es cs ∧ Wo K w Tb' CT CS ts T H0 H ∧ Dat K H (pd p) x ∧
  ∀ l H', H l = none → Go Tb' [] H H' → LstW K H' l ((shownL T es p).map encG) → Q (.ref l) H'
theorem ok_show (Tb' : Tb) (F : Fun K "shown_glues" "Bed.shown_glues" sShow f fd) (X : TxtB K mg CB) (XS : TxtS K mg CS) (XT : TxtT K mg CT) (B : Blt mg) (C : CallsB P w K mg base Tb' CT CS fCk fBe fOf fGl fWi fOr dCk dBe dOf dGl dWi dOr) :
    FnOk P w K mg base CX0 5 f fd ["self", "place"] (spShow K w Tb' CT CS CB) := by
  refine F.ok scShow (fun vs H Q E h => ?_) (fun cdv A outer s H vs Q E hr h => ?_)
  · obtain ⟨_, b, _, _, _, _, _, _, _, _, _, _, rfl, _⟩ := h
    rfl
  · obtain ⟨H0, b, ts, T, sp, sn, dl, dc, es, cs, p, x, rfl, hB, hW, hx, q⟩ := h
    refine ⟨_, pss_cons (ps_set (i := 2) scShow.nd rfl (Or.inl rfl) (pe_lstD Tb' pa_nil))
      (pss_cons (ps_for PassesOwn.never rfl (pi_enumT (by rfl) B.enumerate (pa_cons (pe_call C.beG hr (by rfl) C.be.mg C.be.fn.kp C.be.b .nil pass0 (pa_cons (pv 1) pa_nil)) pa_nil)) (pg_tup (by rfl) (pgs_cons (pg_name (i := 3) scShow.nd rfl (.inl rfl)) (pgs_cons (pg_name (i := 4) scShow.nd rfl (.inl rfl)) pgs_nil)))
        (pss_one (ps_if (pt_cmpR (op_inD (Room.u9 hr)) (pv 4) (pe_fld (pv 0) rfl) rfl)
          (pss_cons (ps_set (i := 5) scShow.nd rfl (Or.inl rfl) (pe_meth (pe_fld (pv 0) rfl) XS.cl C.of.me C.ofG (hr.mono (by decide)) C.of.b .nil pass0 (pa_cons (pe_ix (ix_D (Room.u9 hr)) (pe_fld (pv 0) rfl) (pv 4) (fun _ _ => rfl)) pa_nil)))
          (pss_one (ps_expr (pe_bm PySem.F.plainAttrs_list PySem.F.slot_list_append PySem.F.type_list_append (mt_appD Tb') (pv 2) (pa_cons (pe_tupD Tb' (pa_cons (pv 3) (pa_cons (pe_meth (pv 5) XT.cl C.gl.me C.glG (hr.mono (by decide)) C.gl.b .nil pass0 (pa_cons (pe_op op_and (pe_op op_add (pv 3) pe_int) pe_int) pa_nil)) pa_nil))) pa_nil)))))
          pss_nil)))
      (pss_one (ps_ret (pv 2)))), ?_⟩
    refine ⟨[], .nil, sz0, fun l H1 nl g1 L1 => ?_⟩
    refine ⟨_, rfl, p, x, rfl, g1.dat hx, fun a H2 g2 d2 => ?_⟩
    obtain ⟨_, xa, ea, sa, _⟩ := d2.tupI
    cases ea
    have hB2 := hB.up (g1.trans g2)
    have hW2 := hW.up (g1.trans g2)
    refine ⟨a, xa, rfl, sa, for_it (walk_ED (ds := bes p) Tb') (fun k σ H3 => (∃ o3 o4 o5, σ = [some (.ref b), some x, some (.ref l), o3, o4, o5]) ∧ Go Tb' [l] H2 H3 ∧ LstW K H3 l ((shK T es p k).map encG)) ⟨⟨_, _, _, rfl⟩, .refl, L1.go g2 (by simp)⟩ (fun k σ H3 _ ⟨_, g, _⟩ => g.dat d2) ?_ ?_⟩
    · rintro k y σ H3 H4 hk ⟨⟨o3, o4, o5, rfl⟩, g3, L3⟩ ⟨d, hd, g4, hy⟩
      obtain ⟨hk4, rfl⟩ := bes_get p hd
      obtain ⟨pa, y1, y2, rfl, hs, hy1, hy2⟩ := hy.two
      obtain rfl := hy1.numI
      have g24 : Go Tb' [l] H2 H4 := g3.trans g4.up
      have lo : ∀ {a : Addr} {o : HO}, H a = some o → a ∉ [l] := fun {a o} e z => ne_of_none e nl (List.mem_singleton.mp z)
      obtain ⟨dx, vp, vn, hb, _⟩ := hB.ins
      have hB4 := hB2.go g24 (lo hb) (fun z => hB.L.ne nl (List.mem_singleton.mp z)) (fun z => hB.C.ne nl (List.mem_singleton.mp z))
      have hW4 : Wo K w Tb' CT CS ts T H0 H4 := (hW.up .refl).up ((((g1.trans g2).up (S := [l])).trans g24).drop nl)
      obtain ⟨dx, vp, vn, hb, _⟩ := hB4.ins
      have L4 := L3.go g4 (by simp)
      refine ⟨pa, _, rfl, hs, rfl, _, _, rfl, _, _, rfl, rfl, ?_⟩
      refine ⟨_, rfl, _, rfl, b, CB, dx, _, _, rfl, hb, X.cl, X.nL, bd_lying, dl, es, pd (nb p k), rfl, hB4.L.toD, hy2, pd_depth _, _, rfl, ?_⟩
      cases e : at' es (nb p k) with
      | none =>
        rw [show look es (pd (nb p k)) = none from e]
        refine iteF ⟨⟨_, _, _, rfl⟩, g24, ?_⟩
        rw [shK_succ T es p hk4, e, List.append_nil]
        exact L4
      | some m =>
        rw [show look es (pd (nb p k)) = some m from e]
        have hm : m ∈ T.ns := hB.bo.nam _ _ e
        obtain ⟨tx, db, dr, lg, a0, a1, a2, a3, vt, vo, xs, es', t1, _⟩ := hW4.tsa.ex
        refine iteT ⟨_, rfl, b, CB, dx, _, _, rfl, hb, X.cl, X.nS, bd_set, ts, tx, _, rfl, t1, ts_no (by decide +kernel) (by decide +kernel) (by decide +kernel) (by decide +kernel) (by decide +kernel), _, rfl, b, CB, dx, _, _, rfl, hb, X.cl, X.nL, bd_lying, _, rfl, dl, es, pd (nb p k), m, rfl, hB4.L.toD, hy2, pd_depth _, e,
          fun v hv => ⟨ts, T, m, v, rfl, hW4.tsa, hm, hv, fun t ht => ?_⟩⟩
        obtain ⟨dt, _, _, _, _, _, te, _⟩ := id ht.ex
        obtain ⟨ys, lh, _⟩ := id L4.ex
        refine ⟨_, rfl, .inl ⟨rfl, _, .inl (.inl lh)⟩, _, rfl, _, rfl, t, dt, _, rfl, te, ti_no, _, rfl, _, _, rfl, rfl, _, _, rfl, rfl, t, m, T.gl m, opp k, by show [V.ref t, V.int (Builtin.bitAnd ((k : Int) + 2) 3)] = _; rw [opp_bit hk4], opp_lt hk4, ht, fun v H5 g5 hv5 => ?_⟩
        refine ⟨[.num k, T.gl m (opp k)], .cons (.num _) (.cons hv5 .nil), sz2, fun p6 H6 n6 g6 d6 => ?_⟩
        refine ⟨l, _, _, .ref p6, rfl, rfl, L4.go (g5.trans g6) (by simp), d6, ?_, fun H7 g7 L7 => ⟨⟨_, _, _, rfl⟩, (g24.trans (g5.trans g6).up).trans g7, ?_⟩⟩
        · rw [List.length_map]
          exact lsz (Nat.le_trans (shK_len _ _ _ _) (by decide))
        · rw [shK_succ T es p hk4, e, List.map_append]
          exact L7
    · rintro σ H3 ⟨⟨o3, o4, o5, rfl⟩, g3, L3⟩
      exact ⟨_, rfl, q l H3 nl (((g1.trans g2).up.trans g3).drop nl) L3⟩
theorem iteTp {p : Prop} [Decidable p] {A B : Prop} (h : p) (a : A) : if decide p = true then A else B := by
  rw [decide_eq_true h, if_pos rfl]
  exact a
theorem iteFp {p : Prop} [Decidable p] {A B : Prop} (h : ¬ p) (b : B) : if decide p = true then A else B := by
  rw [decide_eq_false h, if_neg Bool.false_ne_true]
  exact b
/-! ### bonds -/
abbrev sBonds : Stmt := bM 5
theorem scBonds : FnScope ["self", "place", "name", "tile", "total", "side", "label", "strength"] ["self", "place", "name"] (defScope sBonds) := ⟨rfl, rfl, rfl, by decide +kernel, rfl, by decide +kernel, by decide +kernel⟩
def spBonds (K : PySem.W.Frag) (w : World) (Tb' : Tb) (CT CS CB : Addr) : Sp := fun vs H Q _ => ∃ (H0 : Hp) (b ts : Addr) (T : Ts) (sp : Pl) (sn : Dm) (dl dc : Addr) (es cs : Es) (p : Pl) (x : V) (n : Dm) (y : V), vs = [.ref b, x, y] ∧ BedAt K w CB H0 H b ts T sp sn dl dc es cs ∧ Wo K w Tb' CT CS ts T H0 H ∧ Dat K H (pd p) x ∧ n ∈ T.ns ∧ Dat K H n y ∧
  ∀ H', Go Tb' [] H H' → Q (.int (bnd T es p n)) H'
theorem bd_m {vt vp vn vl vc : V} {m : Str} (h : (decide (m = "coming") || decide (m = "lying") || decide (m = "seed_name") || decide (m = "seed_place") || decide (m = "tile_set")) = false) : (bdFs vt vp vn vl vc).lookup m = none := by
  simp only [Bool.or_eq_false_iff, decide_eq_false_iff_not] at h
  exact bd_no h.1.1.1.1 h.1.1.1.2 h.1.1.2 h.1.2 h.2
theorem ts_m {vt vb vo vr vg : V} {m : Str} (h : (decide (m = "names_by_glue") || decide (m = "ranks") || decide (m = "ordered_names") || decide (m = "tiles_by_name") || decide (m = "tiles")) = false) : (tsFs vt vb vo vr vg).lookup m = none := by
  simp only [Bool.or_eq_false_iff, decide_eq_false_iff_not] at h
  exact ts_no h.1.1.1.1 h.1.1.1.2 h.1.1.2 h.1.2 h.2
theorem shownL_ok {T : Ts} {es : Es} {p : Pl} (hT : T.Ok) (hE : BedOk T es) {i : Nat} {g : Dm} (h : (i, g) ∈ shownL T es p) : i < 4 ∧ Glue g := by
  unfold shownL at h
  obtain ⟨k, hk, e⟩ := List.mem_filterMap.mp h
  have hk4 : k < 4 := by simp at hk; omega
  cases q : at' es (nb p k) with
  | none => rw [q] at e; cases e
  | some m =>
    rw [q] at e
    cases e
    exact ⟨hk4, hT.glu m (hE.nam _ _ q) _ (opp_lt hk4)⟩
theorem ok_bonds (Tb' : Tb) (F : Fun K "bonds" "Bed.bonds" sBonds f fd) (X : TxtB K mg CB) (XS : TxtS K mg CS) (XT : TxtT K mg CT) (C : CallsB P w K mg base Tb' CT CS fCk fBe fOf fGl fWi fOr dCk dBe dOf dGl dWi dOr)
    (MS : MetF K CB "shown_glues" "Bed.shown_glues" sShow ["self", "place"] fS fdS) (GS : FnOk P w K mg base CX0 5 fS fdS ["self", "place"] (spShow K w Tb' CT CS CB)) :
    FnOk P w K mg base CX0 6 f fd ["self", "place", "name"] (spBonds K w Tb' CT CS CB) := by
  refine F.ok scBonds (fun vs H Q E h => ?_) (fun cdv A outer s H vs Q E hr h => ?_)
  · obtain ⟨_, b, _, _, _, _, _, _, _, _, _, _, _, _, rfl, _⟩ := h
    rfl
  · obtain ⟨H0, b, ts, T, sp, sn, dl, dc, es, cs, p, x, n, y, rfl, hB, hW, hx, hn, hy, q⟩ := h
    obtain ⟨dx, vp, vn, hb, _⟩ := id hB.ins
    obtain ⟨tx, db, dr, lg, a0, a1, a2, a3, vt, vo, xs, es', t1, _⟩ := id hW.tsa.ex
    refine ⟨_, pss_cons (ps_expr (pe_call C.ckG (hr.mono (by decide)) (by rfl) C.ck.mg C.ck.fn.kp C.ck.b .nil pass0 (pa_cons (pv 1) pa_nil)))
      (pss_cons (ps_set (i := 3) scBonds.nd rfl (Or.inl rfl) (pe_meth (pe_fld (pv 0) rfl) XS.cl C.of.me C.ofG (hr.mono (by decide)) C.of.b .nil pass0 (pa_cons (pv 2) pa_nil)))
      (pss_cons (ps_set (i := 4) scBonds.nd rfl (Or.inl rfl) pe_int)
      (pss_cons (ps_for PassesOwn.never rfl (pi_list (pe_meth (pv 0) X.cl MS.me GS hr MS.b .nil pass0 (pa_cons (pv 1) pa_nil)))
        (pg_tup (by rfl) (pgs_cons (pg_name (i := 5) scBonds.nd rfl (.inl rfl)) (pgs_cons (pg_tup (by rfl) (pgs_cons (pg_name (i := 6) scBonds.nd rfl (.inl rfl)) (pgs_cons (pg_name (i := 7) scBonds.nd rfl (.inl rfl)) pgs_nil))) pgs_nil)))
        (pss_one (ps_if (pt_cmpR (op_eqT hr.units) (pe_meth (pv 3) XT.cl C.gl.me C.glG (hr.mono (by decide)) C.gl.b .nil pass0 (pa_cons (pv 5) pa_nil)) (pe_tupD Tb' (pa_cons (pv 6) (pa_cons (pv 7) pa_nil))) (nomark _))
          (pss_one (ps_aug (i := 4) scBonds.nd rfl (.inl rfl) (pv 7) ip_add)) pss_nil)))
      (pss_one (ps_ret (pv 4)))))), ?_⟩
    refine ⟨_, rfl, p, x, rfl, hx, ?_⟩
    refine ⟨_, rfl, b, CB, dx, _, _, rfl, hb, X.cl, X.nS, bd_set, ts, tx, _, rfl, t1, ts_m (by decide +kernel), _, rfl, ts, T, n, y, rfl, hW.tsa, hn, hy, fun t ht => ?_⟩
    refine ⟨_, rfl, b, dx, _, rfl, hb, bd_m (by decide +kernel), _, rfl, H0, b, ts, T, sp, sn, dl, dc, es, cs, p, x, rfl, hB, hW, hx, fun l H1 nl g1 L1 => ?_⟩
    refine ⟨l, rfl, (let ⟨xs, h, _⟩ := L1.ex; ⟨xs, .inl (.inl h)⟩), for_it (walk_L (ds := (shownL T es p).map encG)) (fun k σ H3 => (∃ o5 o6 o7, σ = [some (.ref b), some x, some y, some (.ref t), some (.int (bondsOf T n ((shownL T es p).take k))), o5, o6, o7]) ∧ Go Tb' [] H1 H3) ⟨⟨_, _, _, rfl⟩, .refl⟩ (fun k σ H3 _ ⟨_, g⟩ => (L1.go g (by simp)).ls) ?_ ?_⟩
    · rintro k z σ H3 H4 hk ⟨⟨o5, o6, o7, rfl⟩, g3⟩ ⟨rfl, d, hd, hz⟩
      obtain ⟨⟨i, g⟩, hig, rfl⟩ : ∃ ig, (shownL T es p)[k]? = some ig ∧ encG ig = d := by
        rw [List.getElem?_map] at hd
        obtain ⟨r, h1, h2⟩ := Option.map_eq_some_iff.mp hd
        exact ⟨r, h1, h2⟩
      obtain ⟨hi4, hg⟩ := shownL_ok hW.ok hB.bo (List.mem_of_getElem? hig)
      obtain ⟨lb, st, rfl, hl6, hs0, hs2⟩ := id hg
      obtain ⟨pa, y1, y2, rfl, hs, hy1, hy2⟩ := hz.two
      obtain rfl := hy1.numI
      obtain ⟨pb, z1, z2, rfl, hs', hz1, hz2⟩ := hy2.two
      obtain rfl := hz2.numI
      have ht3 := ht.go (g1.trans g3) (by simp)
      obtain ⟨dt, _, _, _, _, _, te, _⟩ := id ht3.ex
      have gdep := (hW.ok.glu n hn i hi4).depth
      have gdep2 := hg.depth
      refine ⟨pa, _, rfl, hs, rfl, _, _, rfl, _, _, rfl, ⟨pb, _, rfl, hs', rfl, _, _, rfl, _, _, rfl, rfl, ?_⟩⟩
      have hstep : bondsOf T n ((shownL T es p).take (k + 1)) = bondsOf T n ((shownL T es p).take k) + (if T.gl n i = .tup [lb, .num st] then st else 0) := by
        rw [List.take_succ, hig, Option.toList, bondsOf_app]
        show _ + ((if T.gl n i = .tup [lb, .num st] then st else 0) + 0) = _
        omega
      refine ⟨rfl, _, rfl, t, dt, _, rfl, te, ti_no, _, rfl, t, n, T.gl n, i, rfl, hi4, ht3, fun v H5 g5 hv5 => ⟨_, rfl, _, rfl, [lb, .num st], .cons (g5.dat hz1) (.cons (.num _) .nil), sz2, fun p6 H6 n6 g6 d6 => ⟨T.gl n i, .tup [lb, .num st], g6.dat hv5, d6, by omega, by omega, _, rfl, ?_⟩⟩⟩
      by_cases c : T.gl n i = .tup [lb, .num st]
      · rw [if_pos c] at hstep
        refine iteTp c ?_
        refine ⟨_, rfl, _, rfl, _, _, rfl, rfl, ⟨some (.int i), some z1, some (.int st), ?_⟩, (g3.trans g5).trans g6⟩
        rw [hstep]
        rfl
      · rw [if_neg c] at hstep
        refine iteFp c ⟨⟨some (.int i), some z1, some (.int st), ?_⟩, (g3.trans g5).trans g6⟩
        rw [hstep, Int.add_zero]
        rfl
    · rintro σ H3 ⟨⟨o5, o6, o7, rfl⟩, g3⟩
      rw [List.length_map, List.take_length]
      exact ⟨_, rfl, q H3 (g1.trans g3)⟩
end
end TG

/-! The program's defs: Bed.fitting. -/
namespace TG
open PySem PySem.Spec L2 TGr LamX
open PyProof.Rows hiding St

/-! ### a dict under a lock -/
theorem tabs_upd {T : Tb} {H : Hp} {a : Addr} {o o' : HO} (h : H a = some o) (ht : ∀ ps, o ≠ .tbl ps) (hc : ∀ q, o ≠ CodeO a q) (t : Tabs T H) : Tabs T (upd H a o') := by
  have ne : ∀ b u, H b = some u → u ≠ o → b ≠ a := fun b u e d z => by rw [z, h] at e; exact d (Option.some.inj e).symm
  intro p hp
  obtain ⟨ps, h1, h2, h3⟩ := t p hp
  refine ⟨ps, by rw [upd_ne (ne _ _ h1 fun z => ht ps z.symm)]; exact h1, h2, fun pos cv hv => ?_⟩
  obtain ⟨c, e1, e2⟩ := h3 pos cv hv
  refine ⟨c, e1, ?_⟩
  rw [upd_ne]
  · exact e2
  · rintro rfl
    rw [h] at e2
    exact hc _ (Option.some.inj e2)
section
variable {K : PySem.W.Frag} {w : World} {T : Tb} {S : List Addr} {H H' : Hp} {d : Addr} {od : Obj} {xs : List Ent}
theorem frz_ne (e : H' d = some (.frz od (DicO w d xs))) {a : Addr} {o : HO} (h : H' a = some o) (n : ∀ od' xs', o ≠ .frz od' (DicO w d xs')) : a ≠ d := fun z => by
  rw [z, e] at h
  exact n _ _ (Option.some.inj h).symm
theorem Go.lockd (h : H d = some (DicO w d xs)) : Go T [d] H (upd H d (.frz od (DicO w d xs))) := .setD h
theorem Go.unlock (h : H d = some (DicO w d xs)) (g : Go T S (upd H d (.frz od (DicO w d xs))) H') (e : H' d = some (.frz od (DicO w d xs))) : Go T S H (upd H' d (DicO w d xs)) := by
  refine ⟨fun b o hb c n => ?_, fun t => ?_⟩
  · by_cases z : b = d
    · subst z
      rw [h] at hb
      cases hb
      exact upd_same
    · rw [upd_ne z]
      exact g.keep b o (by rw [upd_ne z]; exact hb) c n
  · exact tabs_upd e (fun _ z => nomatch z) (fun _ z => by unfold CodeO at z; cases z) (g.tabs ((Go.lockd (T := T) (od := od) h).tabs t))
theorem unlock_sqT (e : H' d = some (.frz od (DicO w d xs))) {a : Addr} {ys : List V} (h : SqT K H' a ys) : SqT K (upd H' d (DicO w d xs)) a ys := by
  rcases h with (h | ⟨o, h⟩) | h
  · exact .inl (.inl (by rw [upd_ne (frz_ne e h fun _ _ z => nomatch z)]; exact h))
  · exact .inl (.inr ⟨o, by rw [upd_ne (frz_ne e h fun _ _ z => by unfold DicO at z; cases z)]; exact h⟩)
  · exact .inr h
theorem unlock_dat (e : H' d = some (.frz od (DicO w d xs))) {k : Dm} {x : V} (h : Dat K H' k x) : Dat K (upd H' d (DicO w d xs)) k x := Dat.up (fun _ _ q => unlock_sqT e q) k x h
theorem unlock_lst (e : H' d = some (.frz od (DicO w d xs))) {a : Addr} {ds : List Dm} (h : LstW K H' a ds) : LstW K (upd H' d (DicO w d xs)) a ds := by
  obtain ⟨ys, h1, h2⟩ := h.ex
  exact ⟨ys, by rw [upd_ne (frz_ne e h1 fun _ _ z => nomatch z)]; exact h1, DatA.up (fun _ _ q => unlock_sqT e q) ds ys h2⟩
theorem Dic.locked (D : Dic K w H d xs) (h : H d = some (DicO w d xs)) : Dic K w (upd H d (.frz od (DicO w d xs))) d xs :=
  ⟨.inr ⟨od, upd_same⟩, fun x hx => ⟨(Go.lockd (T := []) (od := od) h).dat (D.key x hx).1, (D.key x hx).2⟩, D.nd, D.sz, D.sys⟩
end
/-! ### the totals -/
/-- what each name has so far -/
def TotOk (T : Ts) (es : Es) (f : Dm → Int) : Prop := (∀ n d, look es n = some d → n ∈ T.ns ∧ d = .num (f n)) ∧ ∀ n, n ∈ T.ns → look es n = none → f n = 0
theorem TotOk.put {T : Ts} {es : Es} {f : Dm → Int} (h : TotOk T es f) {n : Dm} (hn : n ∈ T.ns) (v : Int) : TotOk T (putD es n (.num v)) (fun m => if m = n then v else f m) := by
  refine ⟨fun m d e => ?_, fun m hm e => ?_⟩ <;> dsimp only
  · rw [look_putD] at e
    by_cases c : m = n
    · rw [if_pos c] at e
      rw [if_pos c]
      exact ⟨c ▸ hn, (Option.some.inj e).symm⟩
    · rw [if_neg c] at e
      rw [if_neg c]
      exact h.1 m d e
  · rw [look_putD] at e
    by_cases c : m = n
    · rw [if_pos c] at e; cases e
    · rw [if_neg c] at e
      rw [if_neg c]
      exact h.2 m hm e
theorem nodup_sub_len {α : Type} [DecidableEq α] : ∀ {l m : List α}, l.Nodup → (∀ x ∈ l, x ∈ m) → l.length ≤ m.length
  | [], _, _, _ => Nat.zero_le _
  | a :: l, m, hn, hs => by
    obtain ⟨h1, h2⟩ := List.nodup_cons.mp hn
    have ha := hs a List.mem_cons_self
    have := nodup_sub_len (m := m.erase a) h2 fun x hx => (List.mem_erase_of_ne fun (z : x = a) => h1 (z ▸ hx)).mpr (hs x (List.mem_cons_of_mem _ hx))
    rw [List.length_erase_of_mem ha] at this
    have := List.length_pos_of_mem ha
    simp only [List.length_cons]
    omega
theorem TotOk.len {T : Ts} (hT : T.Ok) {es : Es} {f : Dm → Int} (h : TotOk T es f) (hn : (es.map (·.1)).Nodup) : es.length ≤ 20 := by
  rw [← List.length_map (f := (·.1))]
  refine Nat.le_trans (nodup_sub_len hn fun x hx => ?_) hT.len
  cases e : look es x with
  | none => exact absurd hx (look_none_iff.mp e)
  | some d => exact (h.1 x d e).1
theorem TotOk.fit {T : Ts} {es es' : Es} {p : Pl} (h : TotOk T es' fun n => bnd T es p n) : T.ns.filter (fun n => decide (n ∈ (es'.map (·.1)).filter fun n => decide (2 ≤ bnd T es p n))) = fit T es p := by
  unfold TG.fit
  refine List.filter_congr fun n hn => ?_
  rw [decide_eq_decide]
  rw [List.mem_filter]
  simp only [decide_eq_true_eq]
  refine ⟨fun z => z.2, fun z => ⟨?_, z⟩⟩
  cases e : look es' n with
  | none =>
    have := h.2 n hn e
    dsimp only at this
    omega
  | some d => exact List.mem_map.mpr ⟨_, look_mem e, rfl⟩
section
variable {P : Program} {w : World} {K : PySem.W.Frag} {mg : Str → Option Value} {base : Heap} {f fS fCk fBe fOf fGl fWi fOr : Addr} {fd fdS dCk dBe dOf dGl dWi dOr : FuncData} {CT CS CB : Addr}
abbrev sFit : Stmt := bM 7
theorem scFit : FnScope ["self", "place", "totals", "side", "glue", "name"] ["self", "place"] (defScope sFit) := ⟨rfl, rfl, rfl, by decide +kernel, rfl, by decide +kernel, by decide +kernel⟩
def spFit (K : PySem.W.Frag) (w : World) (Tb' : Tb) (CT CS CB : Addr) : Sp := fun vs H Q _ => ∃ (H0 : Hp) (b ts : Addr) (T : Ts) (sp : Pl) (sn : Dm) (dl dc : Addr) (es cs : Es) (p : Pl) (x : V), vs = [.ref b, x] ∧ BedAt K w CB H0 H b ts T sp sn dl dc es cs ∧ Wo K w Tb' CT CS ts T H0 H ∧ Dat K H (pd p) x ∧
  ∀ a H', Go Tb' [] H H' → Dat K H' (.tup (fit T es p)) (.ref a) → Q (.ref a) H'
theorem ok_fit (Tb' : Tb) (F : Fun K "fitting" "Bed.fitting" sFit f fd) (X : TxtB K mg CB) (XS : TxtS K mg CS) (C : CallsB P w K mg base Tb' CT CS fCk fBe fOf fGl fWi fOr dCk dBe dOf dGl dWi dOr)
    (MS : MetF K CB "shown_glues" "Bed.shown_glues" sShow ["self", "place"] fS fdS) (GS : FnOk P w K mg base CX0 5 fS fdS ["self", "place"] (spShow K w Tb' CT CS CB)) :
    FnOk P w K mg base CX0 6 f fd ["self", "place"] (spFit K w Tb' CT CS CB) := by
  refine F.ok scFit (fun vs H Q E h => ?_) (fun cdv A outer s H vs Q E hr h => ?_)
  · obtain ⟨_, b, _, _, _, _, _, _, _, _, _, _, rfl, _⟩ := h
    rfl
  · obtain ⟨H0, b, ts, T, sp, sn, dl, dc, es, cs, p, x, rfl, hB, hW, hx, q⟩ := h
    obtain ⟨dx, vp, vn, hb, _⟩ := id hB.ins
    obtain ⟨tx, db, dr, lg, a0, a1, a2, a3, vt, vo, xs, es', t1, _⟩ := id hW.tsa.ex
    refine ⟨_, pss_cons (ps_expr (pe_call C.ckG (hr.mono (by decide)) (by rfl) C.ck.mg C.ck.fn.kp C.ck.b .nil pass0 (pa_cons (pv 1) pa_nil)))
      (pss_cons (ps_set (i := 2) scFit.nd rfl (Or.inr rfl) (pe_dnew Tb'))
      (pss_cons (ps_for PassesOwn.never rfl (pi_list (pe_meth (pv 0) X.cl MS.me GS hr MS.b .nil pass0 (pa_cons (pv 1) pa_nil)))
        (pg_tup (by rfl) (pgs_cons (pg_name (i := 3) scFit.nd rfl (.inl rfl)) (pgs_cons (pg_name (i := 4) scFit.nd rfl (.inl rfl)) pgs_nil)))
        (pss_one (ps_if (pt_cmpR op_gt (pe_ix ix_DL (pv 4) pe_int (fun _ _ => rfl)) pe_int (nomark _))
          (pss_one (ps_for PassesOwn.never rfl (pi_tup (pe_meth (pe_fld (pv 0) rfl) XS.cl C.wi.me C.wiG (hr.mono (by decide)) C.wi.b .nil pass0 (pa_cons (pv 3) (pa_cons (pv 4) pa_nil)))) (pg_name (i := 5) scFit.nd rfl (.inl rfl))
            (pss_one (ps_asg (pe_op op_add (pe_dm PySem.F.slot_dict_get PySem.F.type_dict_get (mt_get2D (Room.u9 hr)) (pv 2) (pa_cons (pv 5) (pa_cons pe_int pa_nil))) (pe_ix ix_DL (pv 4) pe_int (fun _ _ => rfl))) (pg_sub (pv 2) (pv 5) (put_D Tb' (Room.u9 hr)))))))
          pss_nil)))
      (pss_one (ps_ret (pe_meth (pe_fld (pv 0) rfl) XS.cl C.or C.orG (hr.mono (by decide)) C.orB .nil pass0 (pa_cons (pe_lock (pe_lc (own := [("name", 5)]) (g := gName 5) (tt := tTest (tOp (rI0 fun i j => .bl (decide (j ≤ i))) (tOp (rIxD K w) (tVar 2) (tVar 5)) (tC (.int 2)))) (te := tVar 5) (by rfl) scFit.nd (pi_keysX (pv 2))
        (blkOk_by (own := [("name", 5)]) (N := ["self", "place", "totals", "side", "glue", "name"]) (sc := defScope sFit) (by decide +kernel)) (fun _ _ _ _ _ => pg_name (i := 5) scFit.nd rfl (Or.inl rfl))
        (fun _ _ _ _ _ => pts_one (pt_cmpR op_ge (pe_ix (ix_D (Room.u9 hr)) (pv 2) (pv 5) (fun _ _ => rfl)) pe_int (nomark _))) (fun _ _ _ _ _ => pv 5))) pa_nil)))))), ?_⟩
    refine ⟨_, rfl, p, x, rfl, hx, ?_⟩
    refine fun dt H1 ndt g1 W1 => ?_
    have hB1 := hB.up g1
    have hW1 := hW.up g1
    obtain ⟨dx1, vp1, vn1, hb1, _⟩ := id hB1.ins
    refine ⟨_, rfl, b, dx1, _, rfl, hb1, bd_m (by decide +kernel), _, rfl, H0, b, ts, T, sp, sn, dl, dc, es, cs, p, x, rfl, hB1, hW1, g1.dat hx, fun l H2 nl g2 L2 => ?_⟩
    have hB2 := hB1.up g2
    have W2 := W1.go g2 (by simp)
    have gH2 : Go Tb' [] H H2 := g1.trans g2
    have old : ∀ {a : Addr} {o : HO}, H a = some o → a ∉ [dt] := fun {a o} e z => ne_of_none e ndt (List.mem_singleton.mp z)
    have bdt : b ∉ [dt] := old hb
    have ldt : dl ∉ [dt] := fun z => hB.L.ne ndt (List.mem_singleton.mp z)
    have cdt : dc ∉ [dt] := fun z => hB.C.ne ndt (List.mem_singleton.mp z)
    have wat : ∀ {H' : Hp}, Go Tb' [dt] H2 H' → Wo K w Tb' CT CS ts T H0 H' := fun {H'} g => hW.up ((gH2.up.trans g).drop ndt)
    have l1 : l ∉ [dt] := fun z => W1.ne nl (List.mem_singleton.mp z).symm
    refine ⟨l, rfl, (let ⟨xs, h, _⟩ := L2.ex; ⟨xs, .inl (.inl h)⟩), for_it (walk_L (ds := (shownL T es p).map encG)) (fun k σ H3 => (∃ o3 o4 o5, σ = [some (.ref b), some x, some (.ref dt), o3, o4, o5]) ∧ Go Tb' [dt] H2 H3 ∧ ∃ et, DicW K w H3 dt et ∧ TotOk T et fun n => bondsOf T n ((shownL T es p).take k)) ⟨⟨_, _, _, rfl⟩, .refl, [], W2, fun _ _ z => (nomatch z), fun _ _ _ => rfl⟩ (fun k σ H3 _ ⟨_, g, _⟩ => (L2.go g l1).ls) ?_ ?_⟩
    · rintro k z σ H3 H4 hk ⟨⟨o3, o4, o5, rfl⟩, g3, et, W3, ht⟩ ⟨rfl, d, hd, hz⟩
      obtain ⟨⟨i, g⟩, hig, rfl⟩ : ∃ ig, (shownL T es p)[k]? = some ig ∧ encG ig = d := by
        rw [List.getElem?_map] at hd
        obtain ⟨r, h1, h2⟩ := Option.map_eq_some_iff.mp hd
        exact ⟨r, h1, h2⟩
      obtain ⟨hi4, hg⟩ := shownL_ok hW.ok hB.bo (List.mem_of_getElem? hig)
      obtain ⟨lb, st, rfl, hl6, hs0, hs2⟩ := id hg
      obtain ⟨pa, y1, y2, rfl, hs, hy1, hy2⟩ := hz.two
      obtain rfl := hy1.numI
      have hstep : ∀ n, bondsOf T n ((shownL T es p).take (k + 1)) = bondsOf T n ((shownL T es p).take k) + (if T.gl n i = .tup [lb, .num st] then st else 0) := fun n => by
        rw [List.take_succ, hig, Option.toList, bondsOf_app]
        show _ + ((if T.gl n i = .tup [lb, .num st] then st else 0) + 0) = _
        omega
      have gdep2 := hg.depth
      refine ⟨pa, _, rfl, hs, rfl, _, _, rfl, _, _, rfl, rfl, ?_⟩
      have d2 : Dat K H4 (.tup [lb, .num st]) y2 := hy2
      refine ⟨_, rfl, [lb, .num st], 1, .num st, .inr d2, rfl, rfl, fun v hv => ?_⟩
      obtain rfl := hv.numI
      refine ⟨_, _, rfl, rfl, _, rfl, ?_⟩
      by_cases c : 0 < st
      · refine iteTp c ?_
        have hB3 := hB2.go g3 bdt ldt cdt
        have hW3 := wat g3
        obtain ⟨dx3, vp3, vn3, hb3, _⟩ := id hB3.ins
        obtain ⟨tx3, _, _, _, _, _, _, _, _, _, _, _, t3, _⟩ := id hW3.tsa.ex
        refine ⟨_, rfl, b, CB, dx3, _, _, rfl, hb3, X.cl, X.nS, bd_set, ts, tx3, _, rfl, t3, ts_m (by decide +kernel), _, rfl, _, rfl, ts, T, i, .tup [lb, .num st], y2, rfl, hW3.tsa, hi4, by omega, d2, fun a H5 g5 d5 => ?_⟩
        obtain ⟨_, xa, ea, sa, da⟩ := d5.tupI
        cases ea
        have fnd : (T.ns.filter fun n => decide (T.gl n i = .tup [lb, .num st])).Nodup := hW.ok.nd.sublist List.filter_sublist
        refine ⟨a, rfl, ⟨xa, sa⟩, for_it (walk_Tp (ds := T.ns.filter fun n => decide (T.gl n i = .tup [lb, .num st]))) (fun j σ H6 => (∃ o5, σ = [some (.ref b), some x, some (.ref dt), some (.int i), some y2, o5]) ∧ Go Tb' [dt] H2 H6 ∧ Go Tb' [dt] H5 H6 ∧ ∃ et, DicW K w H6 dt et ∧ TotOk T et fun n => bondsOf T n ((shownL T es p).take k) + (if n ∈ (T.ns.filter fun n => decide (T.gl n i = .tup [lb, .num st])).take j then st else 0)) ⟨⟨_, rfl⟩, g3.trans g5.up, .refl, et, W3.go g5 (by simp), ?_⟩ (fun j σ H6 _ ⟨_, _, g, _⟩ => g.dat d5) ?_ ?_⟩
        · simpa using ht
        · rintro j x6 σ H6 H7 hj ⟨⟨o5, rfl⟩, g6, g56, e6, W6, ht6⟩ ⟨rfl, n, hn, hx6⟩
          have hnf := List.mem_of_getElem? hn
          have hns : n ∈ T.ns := (List.mem_filter.mp hnf).1
          have e20 := ht6.len hW.ok W6.nd
          have njf : n ∉ (T.ns.filter fun n => decide (T.gl n i = .tup [lb, .num st])).take j := fun z => by
            obtain ⟨j', hj', e⟩ := List.getElem_of_mem z
            rw [List.getElem_take] at e
            rw [List.length_take] at hj'
            obtain ⟨hi, e'⟩ := List.getElem?_eq_some_iff.mp hn
            have := (List.getElem_inj fnd (i := j') (j := j) (h₀ := by omega) (h₁ := hi)).mp (e.trans e'.symm)
            omega
          refine ⟨_, rfl, ⟨_, _, rfl, W6.toD.ex.choose_spec.1⟩, _, rfl, dt, e6, n, x6, _, rfl, rfl, W6.toD, hx6, hW.ok.d8 hns, fun v hv => ?_⟩
          obtain ⟨m0, rfl, em⟩ : ∃ m0 : Int, v = .int m0 ∧ m0 = bondsOf T n ((shownL T es p).take k) := by
            cases el : look e6 n with
            | none =>
              rw [el] at hv
              have := ht6.2 n hns el
              dsimp only at this
              rw [if_neg njf] at this
              exact ⟨0, hv, by omega⟩
            | some d =>
              rw [el] at hv
              obtain ⟨_, rfl⟩ := ht6.1 n d el
              have hv : Dat K _ (.num _) v := hv
              obtain rfl := hv.numI
              refine ⟨_, rfl, ?_⟩
              dsimp only
              rw [if_neg njf]
              omega
          subst em
          refine ⟨_, rfl, [lb, .num st], 1, .num st, .inr (g56.dat (g5.dat d2)), rfl, rfl, fun v hv => ?_⟩
          obtain rfl := hv.numI
          refine ⟨_, _, rfl, rfl, _, rfl, _, rfl, dt, e6, n, .num (bondsOf T n ((shownL T es p).take k) + st), rfl, W6, hx6, hW.ok.d8 hns, .num _, lsz (by omega), fun H8 g8 W8 => ⟨⟨_, rfl⟩, g6.trans g8, g56.trans g8, _, W8, ?_⟩⟩
          have := ht6.put hns (bondsOf T n ((shownL T es p).take k) + st)
          refine (congrArg (TotOk T _) (funext fun m => ?_)).mp this
          rw [List.take_succ, hn]
          by_cases cm : m = n
          · subst cm
            simp
          · rw [if_neg cm]
            simp [cm]
        · rintro σ H6 ⟨⟨o5, rfl⟩, g6, g56, e6, W6, ht6⟩
          refine ⟨⟨_, _, _, rfl⟩, g6, e6, W6, ?_⟩
          rw [List.take_length] at ht6
          refine ⟨fun n d e => ?_, fun n hn e => ?_⟩
          · obtain ⟨h1, h2⟩ := ht6.1 n d e
            refine ⟨h1, h2.trans ?_⟩
            dsimp only
            rw [hstep n]
            congr 2
            simp [List.mem_filter, h1]
          · have := ht6.2 n hn e
            dsimp only at this ⊢
            have e1 : (if n ∈ T.ns.filter (fun n => decide (T.gl n i = .tup [lb, .num st])) then st else 0) = (if T.gl n i = .tup [lb, .num st] then st else 0) := by simp [List.mem_filter, hn]
            rw [hstep n, ← e1]
            exact this
      · refine iteFp c ⟨⟨_, _, _, rfl⟩, g3, et, W3, ?_⟩
        have hst : st = 0 := by omega
        subst hst
        refine (congrArg (TotOk T et) (funext fun n => ?_)).mp ht
        rw [hstep n]
        simp
    · rintro σ H3 ⟨⟨o3, o4, o5, rfl⟩, g3, et, W3, ht⟩
      rw [List.length_map, List.take_length] at ht
      have ht : TotOk T et fun n => bnd T es p n := ht
      have hB3 := hB2.go g3 bdt ldt cdt
      have hW3 := wat g3
      obtain ⟨dx3, vp3, vn3, hb3, _⟩ := id hB3.ins
      obtain ⟨tx3, _, _, _, _, _, _, _, _, _, _, _, t3, _⟩ := id hW3.tsa.ex
      obtain ⟨xs3, e3, D3, en3⟩ := id W3.ex
      have gH3 : Go Tb' [dt] H H3 := gH2.up.trans g3
      refine ⟨_, rfl, b, CB, dx3, _, _, rfl, hb3, X.cl, X.nS, bd_set, ts, tx3, _, rfl, t3, ts_m (by decide +kernel), dt, _, e3, trivial, fun od => ?_⟩
      have Dl : Dic K w (upd H3 dt (.frz od (DicO w dt xs3))) dt xs3 := D3.locked e3
      have hkeys : ∀ e ∈ xs3, Dat K (upd H3 dt (.frz od (DicO w dt xs3))) e.1 e.2.1 := fun e he => (Dl.key e he).1
      have ek := en3.keys
      have e20 := ht.len hW.ok W3.nd
      have Wl : DicD K w (upd H3 dt (.frz od (DicO w dt xs3))) dt et := ⟨xs3, Dl, en3.up fun _ _ => (Go.lockd (T := []) (od := od) e3).dat⟩
      refine ⟨_, rfl, dt, od, xs3, rfl, upd_same, D3.sys, fun D nD => ?_⟩
      have dD : dt ≠ D := ne_of_none upd_same nD
      refine lc_D (K := K) Tb' (walk_keysD (K := K) (w := w) (a := dt) (o := od) (xs := xs3)) nD (fun i ds H5 => Go Tb' [D] (upd H3 dt (.frz od (DicO w dt xs3))) H5 ∧ ds = ((xs3.map (·.1)).take i).filter fun n => decide (2 ≤ bnd T es p n)) (fun H5 g _ => ⟨g.up, by simp⟩) (fun i ds H5 _ ⟨g, _⟩ => ⟨g.frz upd_same, fun e he => g.dat (hkeys e he)⟩) ?_ ?_
      · rintro i ds x5 H5 H6 hi ⟨g5, rfl⟩ L5 ⟨rfl, n, hn, hx5⟩
        have hne : n ∈ et.map (·.1) := by rw [← ek]; exact List.mem_of_getElem? hn
        obtain ⟨d, hd⟩ : ∃ d, look et n = some d := by
          cases e : look et n with
          | none => exact absurd hne (look_none_iff.mp e)
          | some d => exact ⟨d, rfl⟩
        obtain ⟨hns, rfl⟩ := ht.1 n d hd
        have W5 := Wl.go g5 fun z => dD (List.mem_singleton.mp z)
        refine ⟨rfl, _, rfl, _, rfl, dt, et, n, _, rfl, W5, hx5, hW.ok.d8 hns, hd, fun v hv => ?_⟩
        obtain rfl := hv.numI
        have tk : ((xs3.map (·.1)).take (i + 1)).filter (fun n => decide (2 ≤ bnd T es p n)) = ((xs3.map (·.1)).take i).filter (fun n => decide (2 ≤ bnd T es p n)) ++ if 2 ≤ bnd T es p n then [n] else [] := by
          rw [List.take_succ, hn, Option.toList, List.filter_append]
          congr 1
          by_cases c : 2 ≤ bnd T es p n <;> simp [c]
        refine ⟨_, _, rfl, rfl, _, rfl, ?_⟩
        by_cases c : 2 ≤ bnd T es p n
        · rw [if_pos c] at tk
          refine iteTp c ⟨_, rfl, lcN Tb' L5 hx5 ?_ fun H6 g6 L6 => ⟨g5.trans g6, tk.symm⟩⟩
          refine lsz (Nat.le_trans (List.length_filter_le _ _) ?_)
          rw [List.length_take, List.length_map, en3.length]
          omega
        · rw [if_neg c, List.append_nil] at tk
          exact iteFp c ⟨_, ⟨g5, tk.symm⟩, L5⟩
      · rintro ds H5 ⟨g5, rfl⟩ L5
        rw [← List.length_map (f := (·.1)) (as := xs3), List.take_length] at L5
        have g5 := g5.drop nD
        have fz := g5.frz (upd_same (H := H3) (a := dt) (o := .frz od (DicO w dt xs3)))
        have gu : Go Tb' [] H3 (upd H5 dt (DicO w dt xs3)) := g5.unlock e3 fz
        have Lu := unlock_lst fz L5
        refine ⟨fz, ts, T, _, .ref D, rfl, (hW3.up gu).tsa, (hW3.up gu).tb, Lu.ls, ?_, fun d hd => ?_, fun a H6 g6 d6 => ?_⟩
        · rw [ek]
          exact W3.nd.sublist List.filter_sublist
        · have := (List.mem_filter.mp hd).1
          rw [ek] at this
          cases e : look et d with
          | none => exact absurd this (look_none_iff.mp e)
          | some y => exact (ht.1 d y e).1
        · rw [ek] at d6
          rw [ht.fit] at d6
          exact q a H6 (((gH3.trans gu.up).trans g6.up).drop ndt) d6
end
end TG

/-! The program's defs: Bed.lay. -/
namespace TG
open PySem PySem.Spec L2 TGr LamX
open PyProof.Rows hiding St

/-! ### the coming ones, while lay walks -/
def ones (p : Pl) : List Pl := [p, nb p 0, nb p 1, nb p 2, nb p 3]
structure MidOk (T : Ts) (es' cs : Es) (p : Pl) (k : Nat) (ck : Es) : Prop where
  key : ∃ ps : List Pl, ck.map (·.1) = ps.map pd
  nd : (ck.map (·.1)).Nodup
  all : ∀ q, at' ck q = if q ∈ (ones p).take k then (comes T es' q).map .tup else at' cs q
  len : ck.length ≤ cs.length + k
theorem MidOk.start {T : Ts} {es es' cs : Es} {p : Pl} (h : ComOk T es cs) : MidOk T es' cs p 0 cs := ⟨h.key, h.nd, fun q => by simp, Nat.le_refl _⟩
theorem MidOk.step {T : Ts} {es' cs ck ck' : Es} {p q0 : Pl} {k : Nat} (h : MidOk T es' cs p k ck) (hq : (ones p)[k]? = some q0) (key : ∃ ps : List Pl, ck'.map (·.1) = ps.map pd) (nd : (ck'.map (·.1)).Nodup)
    (all : ∀ q, at' ck' q = if q = q0 then (comes T es' q0).map .tup else at' ck q) (len : ck'.length ≤ ck.length + 1) : MidOk T es' cs p (k + 1) ck' := by
  refine ⟨key, nd, fun q => ?_, by have := h.len; omega⟩
  rw [all, h.all, List.take_succ, hq]
  by_cases c : q = q0
  · subst c
    simp
  · rw [if_neg c]
    simp [c]
theorem ones_mem {p q : Pl} : q ∈ ones p ↔ q = p ∨ ∃ i, i < 4 ∧ q = nb p i := by
  unfold ones
  simp only [List.mem_cons, List.not_mem_nil, or_false]
  constructor
  · rintro (h | h | h | h | h)
    · exact .inl h
    · exact .inr ⟨0, by decide, h⟩
    · exact .inr ⟨1, by decide, h⟩
    · exact .inr ⟨2, by decide, h⟩
    · exact .inr ⟨3, by decide, h⟩
  · rintro (h | ⟨i, hi, h⟩)
    · exact .inl h
    · rcases four hi with rfl | rfl | rfl | rfl
      · exact .inr (.inl h)
      · exact .inr (.inr (.inl h))
      · exact .inr (.inr (.inr (.inl h)))
      · exact .inr (.inr (.inr (.inr h)))
theorem MidOk.fin {T : Ts} {es es' cs ck : Es} {p : Pl} (h : MidOk T es' cs p 5 ck) (hc : ComOk T es cs) (he : ∀ r, r ≠ p → at' es r = at' es' r) : ComOk T es' ck := by
  refine ⟨h.key, h.nd, fun q => ?_⟩
  rw [h.all]
  by_cases c : q ∈ ones p
  · rw [show (ones p).take 5 = ones p from rfl, if_pos c]
  · rw [show (ones p).take 5 = ones p from rfl, if_neg c, hc.all]
    rw [ones_mem] at c
    rw [comes_far he (fun z => c (.inl z)) fun i hi z => c (.inr ⟨i, hi, z⟩)]
theorem ComOk.len {T : Ts} {es cs : Es} (h : ComOk T es cs) (he : BedOk T es) : cs.length ≤ 4 * es.length := by
  obtain ⟨ps, hp⟩ := he.key
  obtain ⟨qs, hq⟩ := h.key
  have l1 : qs.length = cs.length := by rw [← List.length_map (f := pd) (as := qs), ← hq, List.length_map]
  have l2 : ps.length = es.length := by rw [← List.length_map (f := pd) (as := ps), ← hp, List.length_map]
  have hn := nd_keys hq h.nd
  have e4 : ∀ l : List Pl, (l.flatMap fun p => [nb p 0, nb p 1, nb p 2, nb p 3]).length = 4 * l.length := fun l => by
    induction l with
    | nil => rfl
    | cons a l ih => rw [List.flatMap_cons, List.length_append, ih, List.length_cons]; simp; omega
  rw [← l1, ← l2, ← e4 ps]
  refine nodup_sub_len hn fun q hq' => ?_
  have h1 := (mem_keys hq q).mp hq'
  rw [h.all] at h1
  have h2 : fit T es q ≠ [] := fun z => by
    unfold comes at h1
    rw [z, if_pos rfl] at h1
    split at h1 <;> cases h1
  obtain ⟨i, hi, h3⟩ := fit_near h2
  have h4 := (mem_keys hp _).mpr h3
  refine List.mem_flatMap.mpr ⟨_, h4, ?_⟩
  have e := nb_back (p := q) hi
  have : q ∈ ones (nb q i) := ones_mem.mpr (.inr ⟨opp i, opp_lt hi, e.symm⟩)
  unfold ones at this
  rcases List.mem_cons.mp this with z | z
  · exact absurd z.symm nb_ne
  · exact z
/-- the bed behind lay -/
def layE (es : Es) (p : Pl) : Option Dm → Es
  | some n => putD es (pd p) n
  | none => delX es (pd p)
theorem layE_far (es : Es) (p : Pl) (no : Option Dm) : ∀ r, r ≠ p → at' es r = at' (layE es p no) r := fun r hr => by
  cases no with
  | none => show _ = at' (delX es (pd p)) r; rw [at_del, if_neg hr]
  | some n => show _ = at' (putD es (pd p) n) r; rw [at_put, if_neg hr]
theorem layE_ok {T : Ts} {es : Es} (h : BedOk T es) {p : Pl} {no : Option Dm} (hn : ∀ n, no = some n → n ∈ T.ns) : BedOk T (layE es p no) := by
  cases no with
  | none => exact h.del
  | some n => exact h.put (hn n rfl)
theorem putD_length_old {es : Es} {k d : Dm} (h : (look es k).isSome = true) : (putD es k d).length = es.length := by
  unfold putD
  rw [if_pos h, List.length_map]
theorem seq_key {s1 s2 : TS} {D : Ends} {σ : L2.St} {H : Hp} (Pr : Hp → Prop) (h2 : ∀ H1, Pr H1 → s2 D σ H1) (h1 : (∀ H1, Pr H1 → s2 D σ H1) → s1 { D with nx := s2 D } σ H) : tSeq s1 s2 D σ H := h1 h2
theorem seq_key2 {s1 s2 : TS} {D : Ends} {σ : L2.St} {H : Hp} (Pr : L2.St → Hp → Prop) (h2 : ∀ σ1 H1, Pr σ1 H1 → s2 D σ1 H1) (h1 : (∀ σ1 H1, Pr σ1 H1 → s2 D σ1 H1) → s1 { D with nx := s2 D } σ H) : tSeq s1 s2 D σ H := h1 h2
section
variable {K : PySem.W.Frag} {w : World} {H0 H H' : Hp} {Tb' : Tb} {CB ts b dl dc : Addr} {T : Ts} {sp : Pl} {sn : Dm} {es cs es' cs' : Es}
theorem BedAt.newC (B : BedAt K w CB H0 H b ts T sp sn dl dc es cs) (g : Go Tb' [dc] H H') (W : DicW K w H' dc cs') : BedAt K w CB H0 H' b ts T sp sn dl dc es cs' := by
  obtain ⟨dx, vp, vn, h, hp, hn⟩ := B.ins
  exact ⟨⟨dx, vp, vn, g.ins h fun z => B.b_ne.2 (List.mem_singleton.mp z), g.dat hp, g.dat hn⟩, B.L.go g fun z => B.ne (List.mem_singleton.mp z), W, B.nl, B.nc, B.ne, B.bo, B.sm⟩
end
section
variable {P : Program} {w : World} {K : PySem.W.Frag} {mg : Str → Option Value} {base : Heap} {f fF fCk fBe fOf fGl fWi fOr : Addr} {fd fdF dCk dBe dOf dGl dWi dOr : FuncData} {CT CS CB : Addr}
abbrev sLay : Stmt := bM 15
theorem scLay : FnScope ["self", "place", "name", "one", "names"] ["self", "place", "name"] (defScope sLay) := ⟨rfl, rfl, rfl, by decide +kernel, rfl, by decide +kernel, by decide +kernel⟩
def spLay (K : PySem.W.Frag) (w : World) (Tb' : Tb) (CT CS CB : Addr) : Sp := fun vs H Q _ => ∃ (H0 : Hp) (b ts : Addr) (T : Ts) (sp : Pl) (sn : Dm) (dl dc : Addr) (es cs : Es) (p : Pl) (x : V) (no : Option Dm) (y : V), vs = [.ref b, x, y] ∧ BedAt K w CB H0 H b ts T sp sn dl dc es cs ∧ ComOk T es cs ∧ Wo K w Tb' CT CS ts T H0 H ∧ Dat K H (pd p) x ∧
  (∀ n, no = some n → n ∈ T.ns ∧ Dat K H n y) ∧ (no = none → y = .non ∧ (at' es p).isSome = true) ∧ es.length < 200 ∧
  ∀ H' cs', Go Tb' [dl, dc] H H' → BedAt K w CB H0 H' b ts T sp sn dl dc (layE es p no) cs' → ComOk T (layE es p no) cs' → Q .non H'
theorem ok_lay (Tb' : Tb) (F : Fun K "lay" "Bed.lay" sLay f fd) (X : TxtB K mg CB) (C : CallsB P w K mg base Tb' CT CS fCk fBe fOf fGl fWi fOr dCk dBe dOf dGl dWi dOr)
    (MF : MetF K CB "fitting" "Bed.fitting" sFit ["self", "place"] fF fdF) (GF : FnOk P w K mg base CX0 6 fF fdF ["self", "place"] (spFit K w Tb' CT CS CB)) :
    FnOk P w K mg base CX0 7 f fd ["self", "place", "name"] (spLay K w Tb' CT CS CB) := by
  refine F.ok scLay (fun vs H Q E h => ?_) (fun cdv A outer s H vs Q E hr h => ?_)
  · obtain ⟨_, b, _, _, _, _, _, _, _, _, _, _, _, _, rfl, _⟩ := h
    rfl
  · obtain ⟨H0, b, ts, T, sp, sn, dl, dc, es, cs, p, x, no, y, rfl, hB, hC, hW, hx, hs, hnn, h200, q⟩ := h
    obtain ⟨dx, vp, vn, hb, hvp, hvn⟩ := id hB.ins
    refine ⟨_, pss_cons (ps_if (pt_cmpR op_isN (pv 2) pe_non (nomark _)) (pss_one (ps_delD Tb' (Room.u9 hr) (pe_fld (pv 0) rfl) (pv 1))) (pss_one (ps_asg (pv 2) (pg_sub (pe_fld (pv 0) rfl) (pv 1) (put_D Tb' (Room.u9 hr))))))
      (pss_one (ps_for PassesOwn.never rfl (pi_tup (pe_tupD Tb' (pa_cons (pv 1) (StX.pa_star (pe_call C.beG (hr.mono (by decide)) (by rfl) C.be.mg C.be.fn.kp C.be.b .nil pass0 (pa_cons (pv 1) pa_nil)) pa_nil)))) (pg_name (i := 3) scLay.nd rfl (.inl rfl))
        (pss_cons (ps_set (i := 4) scLay.nd rfl (.inl rfl) (pe_ifExp (pt_cmpR (op_inD (Room.u9 hr)) (pv 3) (pe_fld (pv 0) rfl) rfl) (pe_tupD Tb' pa_nil) (pe_meth (pv 0) X.cl MF.me GF hr MF.b .nil pass0 (pa_cons (pv 3) pa_nil))))
        (pss_one (ps_if (pt_truth (pv 4) (by intro _; rfl)) (pss_one (ps_asg (pv 4) (pg_sub (pe_fld (pv 0) rfl) (pv 3) (put_D Tb' (Room.u9 hr)))))
          (pss_one (ps_if (pt_cmpR (op_inD (Room.u9 hr)) (pv 3) (pe_fld (pv 0) rfl) rfl) (pss_one (ps_delD Tb' (Room.u9 hr) (pe_fld (pv 0) rfl) (pv 3))) pss_nil))))))), ?_⟩
    have hbo : BedOk T (layE es p no) := layE_ok hB.bo fun n e => (hs n e).1
    refine seq_key (fun H1 => Go Tb' [dl] H H1 ∧ DicW K w H1 dl (layE es p no)) ?_ fun key => ?_
    rotate_left
    · refine ⟨_, rfl, rfl, _, rfl, ?_⟩
      by_cases hno : no = none
      · obtain ⟨hy, hsome⟩ := hnn hno
        refine iteTp hy ⟨_, rfl, b, CB, dx, _, _, rfl, hb, X.cl, X.nL, bd_lying, _, rfl, dl, es, pd p, rfl, hB.L, hx, pd_depth p, hsome, fun H1 g1 W1 => key H1 ⟨g1, ?_⟩⟩
        rw [hno]
        exact W1
      · obtain ⟨n, hn⟩ := Option.ne_none_iff_exists'.mp hno
        obtain ⟨hns, hyn⟩ := hs n hn
        have hy : ¬ y = .non := fun z => by
          have := hyn.nn (hW.ok.nam n hns).1
          rw [z] at this
          simp at this
        refine iteFp hy ⟨_, rfl, _, rfl, b, CB, dx, _, _, rfl, hb, X.cl, X.nL, bd_lying, _, rfl, dl, es, pd p, n, rfl, hB.L, hx, pd_depth p, hyn, lsz (by omega), fun H1 g1 W1 => key H1 ⟨g1, ?_⟩⟩
        rw [hn]
        exact W1
    · rintro H1 ⟨g1, W1⟩
      obtain ⟨es', ees⟩ : ∃ es', es' = layE es p no := ⟨_, rfl⟩
      rw [← ees] at W1 hbo q
      have nbl : b ∉ [dl] := fun z => hB.b_ne.1 (List.mem_singleton.mp z)
      have sm' : es'.length ≤ es.length + 1 := by
        rw [ees]
        cases no with
        | none => exact Nat.le_succ_of_le (List.length_filter_le _ _)
        | some n => exact putD_len _ _ _
      have hB1 : BedAt K w CB H0 H1 b ts T sp sn dl dc es' cs := ⟨⟨dx, vp, vn, g1.ins hb nbl, g1.dat hvp, g1.dat hvn⟩, W1, hB.C.go g1 fun z => hB.ne (List.mem_singleton.mp z).symm, hB.nl, hB.nc, hB.ne, hbo, by omega⟩
      have hW1 := hW.step g1 fun a ha => by rw [List.mem_singleton.mp ha]; exact hB.nl
      refine ⟨_, rfl, _, rfl, p, x, rfl, g1.dat hx, fun a H2 g2 d2 => ?_⟩
      obtain ⟨_, xa, ea, sa, da⟩ := d2.tupI
      cases ea
      have dxa : DatA K H2 ((ones p).map pd) (x :: (xa ++ [])) := .cons (g2.dat (g1.dat hx)) (by rw [List.append_nil]; exact da)
      refine ⟨a, xa, rfl, .inl sa, (ones p).map pd, dxa, sz5, fun pt H3 n3 g3 d3 => ?_⟩
      obtain ⟨_, xb, eb, sb, db⟩ := d3.tupI
      cases eb
      have c20 := hC.len hB.bo
      refine ⟨pt, rfl, ⟨xb, sb⟩, for_it (walk_Tp (ds := (ones p).map pd)) (fun k σ H4 => (∃ o3 o4, σ = [some (.ref b), some x, some y, o3, o4]) ∧ Go Tb' [dc] H3 H4 ∧ ∃ ck, BedAt K w CB H0 H4 b ts T sp sn dl dc es' ck ∧ MidOk T es' cs p k ck) ⟨⟨_, _, rfl⟩, .refl, cs, hB1.up (g2.trans g3), .start hC⟩ (fun k σ H4 _ ⟨_, g, _⟩ => g.dat d3) ?_ ?_⟩
      · rintro k x4 σ H4 H4' hk ⟨⟨o3, o4, rfl⟩, g4, ck, hB4, hM⟩ ⟨rfl, d, hd, hx4⟩
        obtain ⟨q0, hq0, rfl⟩ : ∃ q0, (ones p)[k]? = some q0 ∧ pd q0 = d := by
          rw [List.getElem?_map] at hd
          obtain ⟨r, h1, h2⟩ := Option.map_eq_some_iff.mp hd
          exact ⟨r, h1, h2⟩
        have hW4 : Wo K w Tb' CT CS ts T H0 H4' := (hW1.up (g2.trans g3)).step g4 fun a ha => by rw [List.mem_singleton.mp ha]; exact hB.nc
        obtain ⟨dx4, vp4, vn4, hb4, _⟩ := id hB4.ins
        have hk5 : k < 5 := by simpa [ones] using hk
        have ckl := hM.len
        obtain ⟨nm, enm⟩ : ∃ nm, nm = if (at' es' q0).isSome then [] else fit T es' q0 := ⟨_, rfl⟩
        have hcom : comes T es' q0 = if nm = [] then none else some nm := by
          unfold comes
          rw [enm]
          cases (at' es' q0).isSome <;> simp
        refine seq_key2 (fun σ1 H5 => ∃ a, σ1 = [some (.ref b), some x, some y, some x4, some (.ref a)] ∧ Go Tb' [] H4' H5 ∧ Dat K H5 (.tup nm) (.ref a)) ?_ fun key => ?_
        rotate_left
        · refine ⟨_, rfl, _, rfl, b, CB, dx4, _, _, rfl, hb4, X.cl, X.nL, bd_lying, dl, es', pd q0, rfl, hB4.L.toD, hx4, pd_depth _, _, rfl, ?_⟩
          cases e : at' es' q0 with
          | some m =>
            rw [show look es' (pd q0) = some m from e]
            rw [e] at enm
            have enm : nm = [] := enm
            subst enm
            refine iteT ⟨[], .nil, sz0, fun pn H5 n5 g5 d5 => key _ _ ⟨pn, rfl, g5, d5⟩⟩
          | none =>
            rw [show look es' (pd q0) = none from e]
            rw [e] at enm
            have enm : nm = fit T es' q0 := enm
            subst enm
            refine iteF ⟨_, rfl, b, dx4, _, rfl, hb4, bd_m (by decide +kernel), _, rfl, H0, b, ts, T, sp, sn, dl, dc, es', ck, q0, x4, rfl, hB4, hW4, hx4, fun a H5 g5 d5 => key _ _ ⟨a, rfl, g5, d5⟩⟩
        · rintro _ H5 ⟨an, rfl, g5, d5⟩
          have hB5 := hB4.up g5
          obtain ⟨dx5, vp5, vn5, hb5, _⟩ := id hB5.ins
          obtain ⟨_, xn, en, sn', dn⟩ := d5.tupI
          cases en
          have hx5 := g5.dat hx4
          refine ⟨_, rfl, !xn.isEmpty, .inr (.inl ⟨xn, sn', rfl⟩), ?_⟩
          by_cases cn : nm = []
          · subst cn
            rw [if_pos rfl] at hcom
            cases dn
            refine iteF ⟨_, rfl, _, rfl, b, CB, dx5, _, _, rfl, hb5, X.cl, X.nC, bd_coming, dc, ck, pd q0, rfl, hB5.C.toD, hx5, pd_depth _, _, rfl, ?_⟩
            cases e : at' ck q0 with
            | none =>
              rw [show look ck (pd q0) = none from e]
              refine iteF ⟨⟨_, _, rfl⟩, g4.trans g5.up, ck, hB5, hM.step hq0 hM.key hM.nd (fun q => ?_) (Nat.le_succ _)⟩
              by_cases c : q = q0
              · rw [if_pos c, hcom, c, e]
                rfl
              · rw [if_neg c]
            | some d =>
              rw [show look ck (pd q0) = some d from e]
              refine iteT ⟨_, rfl, b, CB, dx5, _, _, rfl, hb5, X.cl, X.nC, bd_coming, _, rfl, dc, ck, pd q0, rfl, hB5.C, hx5, pd_depth _, by rw [show look ck (pd q0) = some d from e]; rfl, fun H6 g6 W6 => ⟨⟨_, _, rfl⟩, (g4.trans g5.up).trans g6, _, hB5.newC g6 W6, hM.step hq0 (keys_del hM.key) (nodup_delX hM.nd _) (fun q => ?_) (Nat.le_succ_of_le (List.length_filter_le _ _))⟩⟩
              rw [at_del, hcom]
              rfl
          · rw [if_neg cn] at hcom
            have xne : xn.isEmpty = false := by
              cases dn with
              | nil => exact absurd rfl cn
              | cons _ _ => rfl
            rw [xne]
            refine iteT ⟨_, rfl, _, rfl, b, CB, dx5, _, _, rfl, hb5, X.cl, X.nC, bd_coming, _, rfl, dc, ck, pd q0, .tup nm, rfl, hB5.C, hx5, pd_depth _, d5, lsz (by omega), fun H6 g6 W6 => ⟨⟨_, _, rfl⟩, (g4.trans g5.up).trans g6, _, hB5.newC g6 W6, hM.step hq0 (keys_put hM.key) (nd_put hM.nd) (fun q => ?_) (putD_len _ _ _)⟩⟩
            rw [at_put, hcom]
            rfl
      · rintro σ H4 ⟨⟨o3, o4, rfl⟩, g4, ck, hB4, hM⟩
        have hM := hM.fin hC (ees ▸ layE_far es p no)
        refine q H4 ck ?_ hB4 hM
        exact ((g1.mono (by simp)).trans (g2.trans g3).up).trans (g4.mono (by simp))
end
end TG

/-! The program's defs: Bed.may_come, check_empty, come, slip. -/
namespace TG
open PySem PySem.Spec L2 TGr LamX
open PyProof.Rows hiding St

theorem szM {n : Nat} (h : n ≤ 100000) : n < sizeLine := Nat.lt_of_le_of_lt h (by decide)
/-- a walk by the heap alone -/
theorem walk_gen {J : It} {n : Nat} {G : Hp → Prop} {Y : Nat → Hp → V → Hp → Prop} (w : Walk J n G Y) {B : (Hp → Prop) → V → Hp → Prop} {Qd : Hp → Prop} {H1 : Hp} (Pv : Nat → Hp → Prop) (h0 : Pv 0 H1) (hG : ∀ i H, i ≤ n → Pv i H → G H)
    (hs : ∀ i x H H', i < n → Pv i H → Y i H x H' → B (Pv (i + 1)) x H') (hd : ∀ H, Pv n H → Qd H) :
    ∃ W : Nat → Nat → Hp → Prop, (∃ m, W 0 m H1) ∧ ∀ i m H, W i m H → (J.stop i H ∧ Qd H) ∨ (J.go i H ∧ ∃ Nx : Hp → Prop, (∀ H', Nx H' → ∃ m', m' < m ∧ W (i + 1) m' H') ∧ ∀ x H', J.yld i H x H' → B Nx x H') := by
  refine ⟨fun i m H => m = n - i ∧ i ≤ n ∧ Pv i H, ⟨n, by simp, Nat.zero_le _, h0⟩, ?_⟩
  rintro i m H ⟨rfl, hi, p⟩
  have q := hG i H hi p
  by_cases hlt : i < n
  · refine .inr ⟨w.goes i H hlt q, Pv (i + 1), fun H' p' => ⟨n - (i + 1), by omega, rfl, hlt, p'⟩, fun x H' y => hs i x H H' hlt p (w.yields i H x H' hlt q y)⟩
  · have e : i = n := by omega
    subst e
    exact .inl ⟨w.stops H q, hd H p⟩
theorem mcL_len (T : Ts) (hT : T.Ok) (es : Es) : ∀ ks : List Pl, (mcL T es ks).length ≤ 20 * ks.length
  | [] => Nat.le_refl _
  | k :: ks => by
    have ih := mcL_len T hT es ks
    have h1 : (fit T es k).length ≤ 20 := Nat.le_trans (List.length_filter_le _ _) hT.len
    unfold mcL at *
    rw [List.flatMap_cons, List.length_append, List.length_map, List.length_cons]
    omega
theorem mcL_snoc (T : Ts) (es : Es) (ks : List Pl) (r : Pl) : mcL T es (ks ++ [r]) = mcL T es ks ++ (fit T es r).map fun n => .tup [pd r, n] := by
  unfold mcL
  rw [List.flatMap_append]
  simp
section
variable {P : Program} {w : World} {K : PySem.W.Frag} {mg : Str → Option Value} {base : Heap} {f fE fB fL fCk fBe fOf fGl fWi fOr : Addr} {fd fdE fdB fdL dCk dBe dOf dGl dWi dOr : FuncData} {CT CS CB : Addr}
/-! ### may_come -/
abbrev sMay : Stmt := bM 9
theorem scMay : FnScope ["self", "place", "name"] ["self"] (defScope sMay) := ⟨rfl, rfl, rfl, by decide +kernel, rfl, by decide +kernel, by decide +kernel⟩
def spMay (K : PySem.W.Frag) (w : World) (Tb' : Tb) (CB : Addr) : Sp := fun vs H Q _ => ∃ (H0 : Hp) (b ts : Addr) (T : Ts) (sp : Pl) (sn : Dm) (dl dc : Addr) (es cs : Es), vs = [.ref b] ∧ BedAt K w CB H0 H b ts T sp sn dl dc es cs ∧ ComOk T es cs ∧ T.Ok ∧
  ∀ a ks H', McOk T es ks → Go Tb' [] H H' → Dat K H' (.tup (mcL T es ks)) (.ref a) → Q (.ref a) H'
theorem ok_may (Tb' : Tb) (F : Fun K "may_come" "Bed.may_come" sMay f fd) (X : TxtB K mg CB) (B : Blt mg) : FnOk P w K mg base CX0 1 f fd ["self"] (spMay K w Tb' CB) := by
  refine F.ok scMay (fun vs H Q E h => ?_) (fun cdv A outer s H vs Q E hr h => ?_)
  · obtain ⟨_, b, _, _, _, _, _, _, _, _, rfl, _⟩ := h
    rfl
  · obtain ⟨H0, b, ts, T, sp, sn, dl, dc, es, cs, rfl, hB, hC, hT, q⟩ := h
    obtain ⟨dx, vp, vn, hb, hp, hn⟩ := hB.ins
    obtain ⟨ps, hps⟩ := hC.key
    refine ⟨_, pss_one (ps_ret (pe_callTy (call_tupL Tb') (by rfl) B.tuple boot_tuple (pa_cons (pe_lc2 (own := [("place", 1), ("name", 2)]) (vs1 := [2]) (g := gName 1) (g1 := gName 2) (wi1 := iTup K (tOp (rIxD K w) (tFld K (tVar 0) "coming") (tVar 1))) (te := tTupD K Tb' (tCons (tVar 1) (tCons (tVar 2) tNil))) (by rfl) scMay.nd
        (pi_list (pe_callB (cr_sortP Tb' (Room.units10 hr)) (by rfl) B.sorted boot_sorted (pa_cons (pe_callTy (call_listDD Tb' hr.hd) (by rfl) B.list (by decide +kernel) (pa_cons (pe_fld (pv 0) rfl) pa_nil)) pa_nil)))
        (blkOk_by (own := [("place", 1), ("name", 2)]) (N := ["self", "place", "name"]) (sc := defScope sMay) (by decide +kernel)) (by simp) (fun _ _ _ _ _ => pg_name (i := 1) scMay.nd rfl (Or.inl rfl)) (fun _ _ _ _ _ => pts_nil)
        (fun _ _ _ _ _ => pi_tup (pe_ix (ix_D (Room.u9 hr)) (pe_fld (pv 0) rfl) (pv 1) (fun _ _ => rfl))) (fun _ _ _ _ _ => pg_name (i := 2) scMay.nd rfl (Or.inl rfl)) (fun _ _ _ _ _ => pts_nil)
        (fun _ _ _ _ _ => pe_tupD Tb' (pa_cons (pv 1) (pa_cons (pv 2) pa_nil)))) pa_nil))), ?_⟩
    refine ⟨_, rfl, b, CB, dx, _, _, rfl, hb, X.cl, X.nC, bd_coming, dc, cs, rfl, hB.C.toD, fun p H1 x1 n1 g1 l1 a1 => ?_⟩
    refine ⟨ps, .ref p, rfl, ⟨p, x1, rfl, .inl (.inl l1), hps ▸ a1⟩, fun p2 H2 n2 g2 L2 => ?_⟩
    refine ⟨p2, rfl, (let ⟨xs, h, _⟩ := L2.ex; ⟨xs, .inl (.inl h)⟩), fun D nD => ?_⟩
    have hMc := com_mc hC hps
    obtain ⟨ks, eks⟩ : ∃ ks, ks = ps.mergeSort plLe := ⟨_, rfl⟩
    rw [← eks] at hMc L2
    have lk : ks.length ≤ 800 := by
      have h1 := hC.len hB.bo
      have h2 := hB.sm
      have h3 : ps.length = cs.length := by rw [← List.length_map (f := pd) (as := ps), ← hps, List.length_map]
      rw [eks, List.length_mergeSort]
      omega
    have hb2 := hB.up (g1.trans g2)
    obtain ⟨dx2, vp2, vn2, hb', _⟩ := hb2.ins
    have gD : Go Tb' [] H2 (upd H2 D (.lst [])) := .new nD
    have sz : ∀ {n i j : Nat}, n ≤ 20 * i + j → i ≤ 800 → j ≤ 20 → n < sizeLine := fun {n i j} h1 h2 h3 => szM (by omega)
    refine walk_gen (walk_L (ds := ks.map pd)) (fun i H3 => Go Tb' [D] H2 H3 ∧ LstW K H3 D (mcL T es (ks.take i))) ⟨gD.up, [], upd_same, .nil⟩ (fun i H3 _ ⟨g, _⟩ => (L2.go g fun z => L2.ne nD (List.mem_singleton.mp z)).ls) ?_ ?_
    · rintro i x H3 H4 hi ⟨g3, L3⟩ ⟨rfl, d, hd, hx⟩
      have hi' : i < ks.length := by simpa using hi
      obtain ⟨r, hr, rfl⟩ : ∃ r, ks[i]? = some r ∧ pd r = d := by
        rw [List.getElem?_map] at hd
        obtain ⟨r, h1, h2⟩ := Option.map_eq_some_iff.mp hd
        exact ⟨r, h1, h2⟩
      obtain ⟨e1, e2⟩ := (hMc.mem r).mp (List.mem_of_getElem? hr)
      have ec : at' cs r = some (.tup (fit T es r)) := by
        rw [hC.all]
        unfold comes
        rw [e1, if_neg Bool.false_ne_true, if_neg e2]
        rfl
      have nb : b ∉ [D] := fun z => ne_of_none hb' nD (List.mem_singleton.mp z)
      have ndc : dc ∉ [D] := fun z => hb2.C.ne nD (List.mem_singleton.mp z)
      have f20 : (fit T es r).length ≤ 20 := Nat.le_trans (List.length_filter_le _ _) hT.len
      refine ⟨rfl, yesT ⟨_, rfl, b, CB, dx2, _, _, rfl, g3.ins hb' nb, X.cl, X.nC, bd_coming, _, rfl, dc, cs, pd r, .tup (fit T es r), rfl, hb2.C.toD.go g3 ndc, hx, pd_depth r, ec, fun v hv => ?_⟩⟩
      obtain ⟨a, xa, rfl, sa, da⟩ := hv.tupI
      have snoc : mcL T es (ks.take (i + 1)) = mcL T es (ks.take i) ++ (fit T es r).map fun n => .tup [pd r, n] := by
        rw [List.take_succ, hr, Option.toList, mcL_snoc]
      refine ⟨a, rfl, ⟨xa, sa⟩, ?_⟩
      refine walk_gen (walk_Tp (ds := fit T es r)) (fun j H5 => Go Tb' [D] H2 H5 ∧ Go Tb' [D] H4 H5 ∧ LstW K H5 D (mcL T es (ks.take i) ++ ((fit T es r).take j).map fun n => .tup [pd r, n])) ⟨g3, .refl, by simpa using L3⟩ (fun j H5 _ ⟨_, g, _⟩ => g.dat hv) ?_ ?_
      · rintro j y H5 H6 hj ⟨g5, g45, L5⟩ ⟨rfl, n, hn, hy⟩
        refine ⟨rfl, yesT ⟨_, rfl, _, rfl, [pd r, n], .cons (g45.dat hx) (.cons hy .nil), sz2, fun p7 H7 n7 g7 d7 => ?_⟩⟩
        have L7 := L5.go g7 (by simp)
        obtain ⟨zs, h7, hz⟩ := id L7.ex
        have g8 : Go Tb' [D] H7 (upd H7 D (.lst (zs ++ [.ref p7]))) := .setL h7
        refine ⟨zs, h7, ?_, (g5.trans g7.up).trans g8, (g45.trans g7.up).trans g8, zs ++ [.ref p7], upd_same, g8.datA ?_⟩
        · have h1 := hz.length
          rw [← h1, List.length_append, List.length_map, List.length_take]
          have h2 := mcL_len T hT es (ks.take i)
          rw [List.length_take] at h2
          exact szM (by omega)
        · have : mcL T es (ks.take i) ++ ((fit T es r).take (j + 1)).map (fun n => .tup [pd r, n]) = (mcL T es (ks.take i) ++ ((fit T es r).take j).map fun n => .tup [pd r, n]) ++ [.tup [pd r, n]] := by
            rw [List.take_succ, hn, Option.toList, List.map_append, List.append_assoc]
            rfl
          rw [this]
          exact hz.append (.one d7)
      · rintro H5 ⟨g5, _, L5⟩
        rw [List.take_length] at L5
        exact ⟨g5, snoc ▸ L5⟩
    · rintro H3 ⟨g3, L3⟩
      rw [List.length_map, List.take_length] at L3
      refine ⟨_, .ref D, rfl, .inl L3.ls, fun v H4 g4 d4 => ?_⟩
      obtain ⟨a, _, rfl, _, _⟩ := d4.tupI
      exact q a ks H4 hMc (g1.trans (g2.trans ((g3.drop nD).trans g4))) d4
end
end TG

/-! The program's defs: Bed.check_empty, come, slip. -/
namespace TG
open PySem PySem.Spec L2 TGr LamX
open PyProof.Rows hiding St
section
variable {P : Program} {w : World} {K : PySem.W.Frag} {mg : Str → Option Value} {base : Heap} {f fE fB fL fCk fBe fOf fGl fWi fOr : Addr} {fd fdE fdB fdL dCk dBe dOf dGl dWi dOr : FuncData} {CT CS CB : Addr}
/-! ### check_empty -/
abbrev sEmp : Stmt := bM 11
theorem scEmp : FnScope ["self", "place", "name"] ["self", "place", "name"] (defScope sEmp) := ⟨rfl, rfl, rfl, by decide +kernel, rfl, by decide +kernel, by decide +kernel⟩
def spEmp (K : PySem.W.Frag) (w : World) (Tb' : Tb) (CT CS CB : Addr) : Sp := fun vs H Q _ => ∃ (H0 : Hp) (b ts : Addr) (T : Ts) (sp : Pl) (sn : Dm) (dl dc : Addr) (es cs : Es) (p : Pl) (x : V) (n : Dm) (y : V), vs = [.ref b, x, y] ∧ BedAt K w CB H0 H b ts T sp sn dl dc es cs ∧ Wo K w Tb' CT CS ts T H0 H ∧ Dat K H (pd p) x ∧ n ∈ T.ns ∧ Dat K H n y ∧ at' es p = none ∧ Q .non H
theorem ok_emp (Tb' : Tb) (F : Fun K "check_empty" "Bed.check_empty" sEmp f fd) (X : TxtB K mg CB) (XS : TxtS K mg CS) (C : CallsB P w K mg base Tb' CT CS fCk fBe fOf fGl fWi fOr dCk dBe dOf dGl dWi dOr) :
    FnOk P w K mg base CX0 4 f fd ["self", "place", "name"] (spEmp K w Tb' CT CS CB) := by
  refine F.ok scEmp (fun vs H Q E h => ?_) (fun cdv A outer s H vs Q E hr h => ?_)
  · obtain ⟨_, b, _, _, _, _, _, _, _, _, _, _, _, _, rfl, _⟩ := h
    rfl
  · obtain ⟨H0, b, ts, T, sp, sn, dl, dc, es, cs, p, x, n, y, rfl, hB, hW, hx, hn, hy, hp, q⟩ := h
    obtain ⟨dx, vp, vn, hb, _⟩ := id hB.ins
    obtain ⟨tx, _, _, _, _, _, _, _, _, _, _, _, t1, _⟩ := id hW.tsa.ex
    refine ⟨_, pss_cons (ps_expr (pe_call C.ckG hr (by rfl) C.ck.mg C.ck.fn.kp C.ck.b .nil pass0 (pa_cons (pv 1) pa_nil)))
      (pss_cons (ps_expr (pe_meth (pe_fld (pv 0) rfl) XS.cl C.of.me C.ofG (hr.mono (by decide)) C.of.b .nil pass0 (pa_cons (pv 2) pa_nil)))
      (pss_one (ps_if (pt_cmpR (op_inD (Room.u9 hr)) (pv 1) (pe_fld (pv 0) rfl) rfl) (pss_one ps_never) pss_nil))), ?_⟩
    refine ⟨_, rfl, p, x, rfl, hx, ?_⟩
    refine ⟨_, rfl, b, CB, dx, _, _, rfl, hb, X.cl, X.nS, bd_set, ts, tx, _, rfl, t1, ts_m (by decide +kernel), _, rfl, ts, T, n, y, rfl, hW.tsa, hn, hy, fun t ht => ?_⟩
    refine ⟨_, rfl, _, rfl, b, CB, dx, _, _, rfl, hb, X.cl, X.nL, bd_lying, dl, es, pd p, rfl, hB.L.toD, hx, pd_depth p, _, rfl, ?_⟩
    rw [show look es (pd p) = none from hp]
    exact iteF q
/-! ### come -/
abbrev sCome : Stmt := bM 12
theorem scCome : FnScope ["self", "place", "name", "bonds"] ["self", "place", "name"] (defScope sCome) := ⟨rfl, rfl, rfl, by decide +kernel, rfl, by decide +kernel, by decide +kernel⟩
def spPut (K : PySem.W.Frag) (w : World) (Tb' : Tb) (CT CS CB : Addr) (co : Bool) : Sp := fun vs H Q _ => ∃ (H0 : Hp) (b ts : Addr) (T : Ts) (sp : Pl) (sn : Dm) (dl dc : Addr) (es cs : Es) (p : Pl) (x : V) (n : Dm) (y : V), vs = [.ref b, x, y] ∧ BedAt K w CB H0 H b ts T sp sn dl dc es cs ∧ ComOk T es cs ∧ Wo K w Tb' CT CS ts T H0 H ∧ Dat K H (pd p) x ∧ n ∈ T.ns ∧ Dat K H n y ∧ at' es p = none ∧ (co = true → 2 ≤ bnd T es p n) ∧ es.length < 200 ∧
  ∀ H' cs', Go Tb' [dl, dc] H H' → BedAt K w CB H0 H' b ts T sp sn dl dc (putD es (pd p) n) cs' → ComOk T (putD es (pd p) n) cs' → Q .non H'
theorem ok_come (Tb' : Tb) (F : Fun K "come" "Bed.come" sCome f fd) (X : TxtB K mg CB)
    (ME : MetF K CB "check_empty" "Bed.check_empty" sEmp ["self", "place", "name"] fE fdE) (GE : FnOk P w K mg base CX0 4 fE fdE ["self", "place", "name"] (spEmp K w Tb' CT CS CB))
    (MB : MetF K CB "bonds" "Bed.bonds" sBonds ["self", "place", "name"] fB fdB) (GB : FnOk P w K mg base CX0 6 fB fdB ["self", "place", "name"] (spBonds K w Tb' CT CS CB))
    (ML : MetF K CB "lay" "Bed.lay" sLay ["self", "place", "name"] fL fdL) (GL : FnOk P w K mg base CX0 7 fL fdL ["self", "place", "name"] (spLay K w Tb' CT CS CB)) :
    FnOk P w K mg base CX0 8 f fd ["self", "place", "name"] (spPut K w Tb' CT CS CB true) := by
  refine F.ok scCome (fun vs H Q E h => ?_) (fun cdv A outer s H vs Q E hr h => ?_)
  · obtain ⟨_, b, _, _, _, _, _, _, _, _, _, _, _, _, rfl, _⟩ := h
    rfl
  · obtain ⟨H0, b, ts, T, sp, sn, dl, dc, es, cs, p, x, n, y, rfl, hB, hC, hW, hx, hn, hy, hp, h2, h200, q⟩ := h
    obtain ⟨dx, vp, vn, hb, _⟩ := id hB.ins
    refine ⟨_, pss_cons (ps_expr (pe_meth (pv 0) X.cl ME.me GE (hr.mono (by decide)) ME.b .nil pass0 (pa_cons (pv 1) (pa_cons (pv 2) pa_nil))))
      (pss_cons (ps_set (i := 3) scCome.nd rfl (.inl rfl) (pe_meth (pv 0) X.cl MB.me GB (hr.mono (by decide)) MB.b .nil pass0 (pa_cons (pv 1) (pa_cons (pv 2) pa_nil))))
      (pss_cons (ps_if (pt_cmpR op_lt (pv 3) pe_int (nomark _)) (pss_one ps_never) pss_nil)
      (pss_one (ps_expr (pe_meth (pv 0) X.cl ML.me GL hr ML.b .nil pass0 (pa_cons (pv 1) (pa_cons (pv 2) pa_nil))))))), ?_⟩
    refine ⟨_, rfl, b, dx, _, rfl, hb, bd_m (by decide +kernel), _, rfl, _, rfl, H0, b, ts, T, sp, sn, dl, dc, es, cs, p, x, n, y, rfl, hB, hW, hx, hn, hy, hp, ?_⟩
    refine ⟨_, rfl, b, dx, _, rfl, hb, bd_m (by decide +kernel), _, rfl, _, rfl, H0, b, ts, T, sp, sn, dl, dc, es, cs, p, x, n, y, rfl, hB, hW, hx, hn, hy, fun H1 g1 => ?_⟩
    have hB1 := hB.up g1
    obtain ⟨dx1, _, _, hb1, _⟩ := id hB1.ins
    have h2 := h2 rfl
    refine ⟨_, rfl, _, _, rfl, rfl, _, rfl, iteFp (by omega) ?_⟩
    refine ⟨_, rfl, b, dx1, _, rfl, hb1, bd_m (by decide +kernel), _, rfl, _, rfl, H0, b, ts, T, sp, sn, dl, dc, es, cs, p, x, some n, y, rfl, hB1, hC, hW.up g1, g1.dat hx, fun m hm => ?_, fun z => (nomatch z), h200, fun H2 cs' g2 hB2 hC2 => ?_⟩
    · cases hm
      exact ⟨hn, g1.dat hy⟩
    · exact q H2 cs' (g1.up.trans g2) hB2 hC2
/-! ### slip -/
abbrev sSlip : Stmt := bM 13
theorem scSlip : FnScope ["self", "place", "name"] ["self", "place", "name"] (defScope sSlip) := ⟨rfl, rfl, rfl, by decide +kernel, rfl, by decide +kernel, by decide +kernel⟩
theorem ok_slip (Tb' : Tb) (F : Fun K "slip" "Bed.slip" sSlip f fd) (X : TxtB K mg CB)
    (ME : MetF K CB "check_empty" "Bed.check_empty" sEmp ["self", "place", "name"] fE fdE) (GE : FnOk P w K mg base CX0 4 fE fdE ["self", "place", "name"] (spEmp K w Tb' CT CS CB))
    (ML : MetF K CB "lay" "Bed.lay" sLay ["self", "place", "name"] fL fdL) (GL : FnOk P w K mg base CX0 7 fL fdL ["self", "place", "name"] (spLay K w Tb' CT CS CB)) :
    FnOk P w K mg base CX0 8 f fd ["self", "place", "name"] (spPut K w Tb' CT CS CB false) := by
  refine F.ok scSlip (fun vs H Q E h => ?_) (fun cdv A outer s H vs Q E hr h => ?_)
  · obtain ⟨_, b, _, _, _, _, _, _, _, _, _, _, _, _, rfl, _⟩ := h
    rfl
  · obtain ⟨H0, b, ts, T, sp, sn, dl, dc, es, cs, p, x, n, y, rfl, hB, hC, hW, hx, hn, hy, hp, h2, h200, q⟩ := h
    obtain ⟨dx, vp, vn, hb, _⟩ := id hB.ins
    refine ⟨_, pss_cons (ps_expr (pe_meth (pv 0) X.cl ME.me GE (hr.mono (by decide)) ME.b .nil pass0 (pa_cons (pv 1) (pa_cons (pv 2) pa_nil))))
      (pss_one (ps_expr (pe_meth (pv 0) X.cl ML.me GL hr ML.b .nil pass0 (pa_cons (pv 1) (pa_cons (pv 2) pa_nil))))), ?_⟩
    refine ⟨_, rfl, b, dx, _, rfl, hb, bd_m (by decide +kernel), _, rfl, _, rfl, H0, b, ts, T, sp, sn, dl, dc, es, cs, p, x, n, y, rfl, hB, hW, hx, hn, hy, hp, ?_⟩
    refine ⟨_, rfl, b, dx, _, rfl, hb, bd_m (by decide +kernel), _, rfl, _, rfl, H0, b, ts, T, sp, sn, dl, dc, es, cs, p, x, some n, y, rfl, hB, hC, hW, hx, fun m hm => ?_, fun z => (nomatch z), h200, fun H2 cs' g2 hB2 hC2 => q H2 cs' g2 hB2 hC2⟩
    cases hm
    exact ⟨hn, hy⟩
end
end TG

/-! The program's defs: Bed.cut. -/
namespace TG
open PySem PySem.Spec L2 TGr LamX
open PyProof.Rows hiding St
theorem LsD.goD {K : PySem.W.Frag} {T : Tb} {H H' : Hp} {D : Addr} {ds : List Dm} {x : V} (h : LsD K H ds x) (g : Go T [D] H H') (n : H D = none) : LsD K H' ds x := by
  obtain ⟨a, xs, rfl, hs, hd⟩ := h
  refine ⟨a, xs, rfl, ?_, g.datA hd⟩
  rcases hs with hs | hs
  · refine .inl (g.rd hs (fun z => ?_) fun _ z => nomatch z)
    rcases hs with e | ⟨_, e⟩
    · exact ne_of_none e n (List.mem_singleton.mp z)
    · exact ne_of_none e n (List.mem_singleton.mp z)
  · exact .inr hs
section
variable {P : Program} {w : World} {K : PySem.W.Frag} {mg : Str → Option Value} {base : Heap} {f fP fL : Addr} {fd fdP fdL : FuncData} {CT CS CB : Addr}
abbrev sCut : Stmt := bM 14
theorem scCut : FnScope ["self", "places", "place", "gone"] ["self", "places"] (defScope sCut) := ⟨rfl, rfl, rfl, by decide +kernel, rfl, by decide +kernel, by decide +kernel⟩
def spCut (K : PySem.W.Frag) (w : World) (Tb' : Tb) (CT CS CB : Addr) : Sp := fun vs H Q _ => ∃ (H0 : Hp) (b ts : Addr) (T : Ts) (sp : Pl) (sn : Dm) (dl dc : Addr) (es cs : Es) (qs : List Pl) (x : V), vs = [.ref b, x] ∧ BedAt K w CB H0 H b ts T sp sn dl dc es cs ∧ ComOk T es cs ∧ Wo K w Tb' CT CS ts T H0 H ∧ LsD K H (qs.map pd) x ∧ (∀ q ∈ qs, q ≠ sp) ∧ qs.length ≤ 60 ∧ es.length < 200 ∧
  ∀ (n : Nat) H' es' cs', Go Tb' [dl, dc] H H' → BedAt K w CB H0 H' b ts T sp sn dl dc es' cs' → ComOk T es' cs' → (∀ r, at' es' r = if r ∈ qs then none else at' es r) → es'.length ≤ es.length → Q (.int n) H'
theorem ok_cut (Tb' : Tb) (F : Fun K "cut" "Bed.cut" sCut f fd) (X : TxtB K mg CB) (B : Blt mg) (FP : TopF K mg "is_place" sIsPl ["value"] fP fdP) (GP : FnOk P w K mg base CX0 2 fP fdP ["value"] (spIsPl K))
    (ML : MetF K CB "lay" "Bed.lay" sLay ["self", "place", "name"] fL fdL) (GL : FnOk P w K mg base CX0 7 fL fdL ["self", "place", "name"] (spLay K w Tb' CT CS CB)) :
    FnOk P w K mg base CX0 8 f fd ["self", "places"] (spCut K w Tb' CT CS CB) := by
  refine F.ok scCut (fun vs H Q E h => ?_) (fun cdv A outer s H vs Q E hr h => ?_)
  · obtain ⟨_, b, _, _, _, _, _, _, _, _, _, _, rfl, _⟩ := h
    rfl
  · obtain ⟨H0, b, ts, T, sp, sn, dl, dc, es, cs, qs, x, rfl, hB, hC, hW, hx, hne, hq60, h200, q⟩ := h
    obtain ⟨dx, vp, vn, hb, hvp, _⟩ := id hB.ins
    refine ⟨_, pss_cons (ps_for PassesOwn.never rfl (pi_list (pv 1)) (pg_name (i := 2) scCut.nd rfl (.inl rfl))
        (pss_one (ps_if (PW.pt (pw_or (pt_not (pt_val (pe_call GP (hr.mono (by decide)) (by rfl) FP.mg FP.fn.kp FP.b .nil pass0 (pa_cons (pv 2) pa_nil)))) (pw_or1 (pt_cmpR (op_eqT hr.units) (pv 2) (pe_fld (pv 0) rfl) (nomark _))))) (pss_one ps_never) pss_nil)))
      (pss_cons (ps_set (i := 3) scCut.nd rfl (.inl rfl) (pe_callB (cr_sortE Tb' hr.hd (Room.units10 hr)) (by rfl) B.sorted boot_sorted (pa_cons (pe_scE Tb' (own := [("place", 2)]) (g := gName 2) (tt := tTest (tOp (rInD K w) (tVar 2) (tFld K (tVar 0) "lying"))) (te := tVar 2) (Room.u9 hr) (by rfl) scCut.nd (pi_list (pv 1))
          (blkOk_by (own := [("place", 2)]) (N := ["self", "places", "place", "gone"]) (sc := defScope sCut) (by decide +kernel)) (fun _ _ _ _ _ => pg_name (i := 2) scCut.nd rfl (Or.inl rfl)) (fun _ _ _ _ _ => pts_one (pt_cmpR (op_inD (Room.u9 hr)) (pv 2) (pe_fld (pv 0) rfl) rfl)) (fun _ _ _ _ _ => pv 2)) pa_nil)))
      (pss_cons (ps_for PassesOwn.never rfl (pi_list (pv 3)) (pg_name (i := 2) scCut.nd rfl (.inl rfl))
        (pss_one (ps_expr (pe_meth (pv 0) X.cl ML.me GL hr ML.b .nil pass0 (pa_cons (pv 2) (pa_cons pe_non pa_nil))))))
      (pss_one (ps_ret (pe_callB call_lenL (by rfl) B.len boot_len (pa_cons (pv 3) pa_nil)))))), ?_⟩
    obtain ⟨a, xs, rfl, hsl, hda⟩ := id hx
    refine ⟨_, rfl, a, rfl, ⟨xs, hsl⟩, for_it (walk_L (ds := qs.map pd)) (fun k σ H1 => H1 = H ∧ ∃ o, σ = [some (.ref b), some (.ref a), o, none]) ⟨rfl, _, rfl⟩ (fun k σ H1 _ ⟨e, _⟩ => e ▸ hx) ?_ ?_⟩
    · rintro k y σ H1 H2 hk ⟨rfl, o, rfl⟩ ⟨rfl, d, hd, hy⟩
      obtain ⟨r, hr', rfl⟩ : ∃ r, qs[k]? = some r ∧ pd r = d := by
        rw [List.getElem?_map] at hd
        obtain ⟨r, h1, h2⟩ := Option.map_eq_some_iff.mp hd
        exact ⟨r, h1, h2⟩
      have hne' : ¬ pd r = pd sp := fun z => hne r (List.mem_of_getElem? hr') (pd_inj z)
      refine ⟨_, rfl, r, y, rfl, hy, true, rfl, iteF ?_⟩
      exact ⟨_, rfl, _, rfl, b, CB, dx, _, _, rfl, hb, X.cl, X.nP, bd_place, pd r, pd sp, hy, hvp, pd_depth60 _, pd_depth60 _, _, rfl, iteFp hne' ⟨rfl, _, rfl⟩⟩
    · rintro σ H1 ⟨rfl, o, rfl⟩
      refine ⟨_, rfl, a, rfl, ⟨xs, hsl⟩, fun D nD sD => ?_⟩
      have old : ∀ {a : Addr} {u : HO}, H1 a = some u → a ∉ [D] := fun {a u} e z => ne_of_none e nD (List.mem_singleton.mp z)
      refine sc_D (K := K) (P := P) (w := w) Tb' (walk_L (ds := qs.map pd)) nD (fun i gs H2 => Go Tb' [D] H1 H2 ∧ gs.Nodup ∧ gs.length ≤ i ∧ (∀ g ∈ gs, g ∈ qs ∧ (at' es g).isSome = true) ∧ ∀ g ∈ qs.take i, (at' es g).isSome = true → g ∈ gs) (fun H2 g _ => ⟨g.up, List.nodup_nil, Nat.le_refl _, fun _ z => (nomatch z), fun _ z => by simp at z⟩) (fun i gs H2 _ ⟨g, _⟩ => hx.goD g nD) ?_ ?_
      · rintro i gs y H2 H3 hi ⟨g2, nd2, l2, m2, c2⟩ S2 ⟨rfl, d, hd, hy⟩
        obtain ⟨r, hr', rfl⟩ : ∃ r, qs[i]? = some r ∧ pd r = d := by
          rw [List.getElem?_map] at hd
          obtain ⟨r, h1, h2⟩ := Option.map_eq_some_iff.mp hd
          exact ⟨r, h1, h2⟩
        have hi' : i < qs.length := by simpa using hi
        have hB2 := hB.go g2 (old hb) (fun z => hB.L.ne nD (List.mem_singleton.mp z)) (fun z => hB.C.ne nD (List.mem_singleton.mp z))
        obtain ⟨dx2, _, _, hb2, _⟩ := id hB2.ins
        refine ⟨rfl, _, rfl, _, rfl, b, CB, dx2, _, _, rfl, hb2, X.cl, X.nL, bd_lying, dl, es, pd r, rfl, hB2.L.toD, hy, pd_depth r, _, rfl, ?_⟩
        cases e : at' es r with
        | none =>
          rw [show look es (pd r) = none from e]
          refine iteF ⟨gs, ⟨g2, nd2, Nat.le_succ_of_le l2, m2, fun g hg hs => ?_⟩, S2⟩
          rw [List.take_succ, hr'] at hg
          rcases List.mem_append.mp hg with hg | hg
          · exact c2 g hg hs
          · rw [List.mem_singleton.mp hg, e] at hs
            cases hs
        | some n =>
          rw [show look es (pd r) = some n from e]
          refine iteT ⟨_, rfl, gs, r, S2, hy, by omega, fun H4 g4 S4 => ⟨_, ⟨g2.trans g4, ?_, ?_, ?_, fun g hg hs => ?_⟩, S4⟩⟩
          · by_cases c : r ∈ gs
            · rw [if_pos c]; exact nd2
            · rw [if_neg c, List.nodup_append]
              exact ⟨nd2, by simp, fun a ha b hb => by rw [List.mem_singleton.mp hb]; exact fun z => c (z ▸ ha)⟩
          · by_cases c : r ∈ gs
            · rw [if_pos c]; omega
            · rw [if_neg c, List.length_append, List.length_singleton]; omega
          · intro g hg
            by_cases c : r ∈ gs
            · rw [if_pos c] at hg; exact m2 g hg
            · rw [if_neg c] at hg
              rcases List.mem_append.mp hg with hg | hg
              · exact m2 g hg
              · rw [List.mem_singleton.mp hg, e]
                exact ⟨List.mem_of_getElem? hr', rfl⟩
          · rw [List.take_succ, hr'] at hg
            have hin : g ∈ gs ∨ g = r := by
              rcases List.mem_append.mp hg with hg | hg
              · exact .inl (c2 g hg hs)
              · exact .inr (List.mem_singleton.mp hg)
            by_cases c : r ∈ gs
            · rw [if_pos c]
              rcases hin with z | z
              · exact z
              · exact z ▸ c
            · rw [if_neg c]
              rcases hin with z | z
              · exact List.mem_append_left _ z
              · rw [z]; simp
      · rintro gs H2 ⟨g2, nd2, l2, m2, c2⟩ S2
        rw [List.length_map] at c2
        rw [List.take_length] at c2
        have g2 := g2.drop nD
        refine ⟨D, gs, rfl, S2, fun p3 H3 hs n3 g3 hp L3 => ?_⟩
        have hB3 := hB.up (g2.trans g3)
        have hW3 := hW.up (g2.trans g3)
        have hsm : ∀ r, r ∈ hs ↔ r ∈ qs ∧ (at' es r).isSome = true := fun r => by
          rw [hp.mem_iff]
          exact ⟨m2 r, fun z => c2 r z.1 z.2⟩
        have hnd : hs.Nodup := hp.nodup_iff.mpr nd2
        have no : p3 ∉ [dl, dc] := fun z => by
          obtain ⟨ys, e, _⟩ := L3.ex
          rcases List.mem_cons.mp z with z | z
          · obtain ⟨zs, e2, _⟩ := hB3.L.ex
            rw [← z, e] at e2
            unfold DicO at e2
            cases e2
          · obtain ⟨zs, e2, _⟩ := hB3.C.ex
            rw [← List.mem_singleton.mp z, e] at e2
            unfold DicO at e2
            cases e2
        refine ⟨_, rfl, p3, rfl, (let ⟨ys, h, _⟩ := L3.ex; ⟨ys, .inl (.inl h)⟩), for_it (walk_L (ds := hs.map pd)) (fun k σ H4 => (∃ o, σ = [some (.ref b), some (.ref a), o, some (.ref p3)]) ∧ Go Tb' [dl, dc] H3 H4 ∧ ∃ es' cs', BedAt K w CB H0 H4 b ts T sp sn dl dc es' cs' ∧ ComOk T es' cs' ∧ (∀ r, at' es' r = if r ∈ hs.take k then none else at' es r) ∧ es'.length ≤ es.length) ⟨⟨_, rfl⟩, .refl, es, cs, hB3, hC, fun r => by simp, Nat.le_refl _⟩ (fun k σ H4 _ ⟨_, g, _⟩ => (L3.go g no).ls) ?_ ?_⟩
        · rintro k y σ H4 H5 hk ⟨⟨o, rfl⟩, g4, es', cs', hB4, hC4, hat, hl⟩ ⟨rfl, d, hd, hy⟩
          obtain ⟨r, hr', rfl⟩ : ∃ r, hs[k]? = some r ∧ pd r = d := by
            rw [List.getElem?_map] at hd
            obtain ⟨r, h1, h2⟩ := Option.map_eq_some_iff.mp hd
            exact ⟨r, h1, h2⟩
          have hW4 : Wo K w Tb' CT CS ts T H0 H5 := hW3.step g4 fun a ha => by
            rcases List.mem_cons.mp ha with z | z
            · rw [z]; exact hB.nl
            · rw [List.mem_singleton.mp z]; exact hB.nc
          obtain ⟨dx4, _, _, hb4, _⟩ := id hB4.ins
          have nk : r ∉ hs.take k := fun z => by
            obtain ⟨j, hj, e⟩ := List.getElem_of_mem z
            rw [List.getElem_take] at e
            rw [List.length_take] at hj
            obtain ⟨hi, e'⟩ := List.getElem?_eq_some_iff.mp hr'
            have := (List.getElem_inj hnd (i := j) (j := k) (h₀ := by omega) (h₁ := hi)).mp (e.trans e'.symm)
            omega
          refine ⟨_, rfl, b, dx4, _, rfl, hb4, bd_m (by decide +kernel), _, rfl, H0, b, ts, T, sp, sn, dl, dc, es', cs', r, y, none, .non, rfl, hB4, hC4, hW4, hy, fun n z => (nomatch z), fun _ => ⟨rfl, ?_⟩, by omega, fun H6 cs6 g6 hB6 hC6 => ⟨⟨_, rfl⟩, g4.trans g6, _, cs6, hB6, hC6, fun r' => ?_, ?_⟩⟩
          · rw [hat, if_neg nk]
            exact ((hsm r).mp (List.mem_of_getElem? hr')).2
          · show at' (delX es' (pd r)) r' = _
            rw [at_del, hat, List.take_succ, hr']
            by_cases c : r' = r
            · rw [if_pos c, if_pos (by simp [c])]
            · rw [if_neg c]
              simp [c]
          · show (delX es' (pd r)).length ≤ _
            exact Nat.le_trans (List.length_filter_le _ _) hl
        · rintro σ H4 ⟨⟨o, rfl⟩, g4, es', cs', hB4, hC4, hat, hl⟩
          rw [List.length_map, List.take_length] at hat
          refine ⟨_, rfl, _, .ref p3, rfl, .inl (L3.go g4 no).ls, ?_⟩
          rw [List.length_map]
          refine q _ H4 es' cs' ((g2.trans g3).up.trans g4) hB4 hC4 (fun r => ?_) hl
          rw [hat]
          by_cases c : r ∈ qs
          · rw [if_pos c]
            by_cases c2 : (at' es r).isSome = true
            · rw [if_pos ((hsm r).mpr ⟨c, c2⟩)]
            · rw [if_neg fun z => c2 ((hsm r).mp z).2]
              cases e : at' es r with
              | none => rfl
              | some _ => rw [e] at c2; exact absurd rfl c2
          · rw [if_neg c, if_neg fun z => c ((hsm r).mp z).1]
end
end TG

/-! The program's defs: Bed.__init__, twin. -/
namespace TG
open PySem PySem.Spec L2 TGr LamX
open PyProof.Rows hiding St
theorem Nw.ne {H : Hp} {p a : Addr} {o : HO} (h : Nw H p) (e : H a = some o) (n : ∀ ps, o ≠ .tbl ps) : a ≠ p := fun z => by
  subst z
  obtain ⟨ps, q⟩ := h o e
  exact n ps q
theorem bdFs_eq (vt vp vn vl vc : V) : bdFs vt vp vn vl vc = ([("tile_set", vt), ("seed_place", vp), ("seed_name", vn), ("lying", vl), ("coming", vc)] : List (Str × V)) := by
  have h1 : ¬ ("tile_set" : Str) = "seed_place" := by decide +kernel
  have h2 : ¬ ("tile_set" : Str) = "seed_name" := by decide +kernel
  have h3 : ¬ ("tile_set" : Str) = "lying" := by decide +kernel
  have h4 : ¬ ("tile_set" : Str) = "coming" := by decide +kernel
  have h5 : ¬ ("seed_place" : Str) = "seed_name" := by decide +kernel
  have h6 : ¬ ("seed_place" : Str) = "lying" := by decide +kernel
  have h7 : ¬ ("seed_place" : Str) = "coming" := by decide +kernel
  have h8 : ¬ ("seed_name" : Str) = "lying" := by decide +kernel
  have h9 : ¬ ("seed_name" : Str) = "coming" := by decide +kernel
  have h10 : ¬ ("lying" : Str) = "coming" := by decide +kernel
  unfold bdFs
  simp only [putF, if_neg h1, if_neg h2, if_neg h3, if_neg h4, if_neg h5, if_neg h6, if_neg h7, if_neg h8, if_neg h9, if_neg h10]
theorem bd_put_lying (vt vp vn vl vc v : V) : putF "lying" v (bdFs vt vp vn vl vc) = bdFs vt vp vn v vc := by
  have h3 : ¬ ("tile_set" : Str) = "lying" := by decide +kernel
  have h6 : ¬ ("seed_place" : Str) = "lying" := by decide +kernel
  have h8 : ¬ ("seed_name" : Str) = "lying" := by decide +kernel
  rw [bdFs_eq, bdFs_eq]
  simp only [putF, if_neg h3, if_neg h6, if_neg h8, if_pos]
theorem bd_put_coming (vt vp vn vl vc v : V) : putF "coming" v (bdFs vt vp vn vl vc) = bdFs vt vp vn vl v := by
  have h4 : ¬ ("tile_set" : Str) = "coming" := by decide +kernel
  have h7 : ¬ ("seed_place" : Str) = "coming" := by decide +kernel
  have h9 : ¬ ("seed_name" : Str) = "coming" := by decide +kernel
  have h10 : ¬ ("lying" : Str) = "coming" := by decide +kernel
  rw [bdFs_eq, bdFs_eq]
  simp only [putF, if_neg h4, if_neg h7, if_neg h9, if_neg h10, if_pos]
theorem comOk_nil (T : Ts) : ComOk T [] [] := by
  refine ⟨⟨[], rfl⟩, List.nodup_nil, fun p => ?_⟩
  have e : fit T [] p = [] := Classical.byContradiction fun c => by
    obtain ⟨i, _, h⟩ := fit_near c
    cases h
  show none = _
  unfold comes
  rw [e]
  rfl
theorem take_put {es : Es} (hn : (es.map (·.1)).Nodup) {i : Nat} {k d : Dm} (h : es[i]? = some (k, d)) : putD (es.take i) k d = es.take (i + 1) := by
  have hk : k ∉ (es.take i).map (·.1) := fun z => by
    rw [List.map_take] at z
    obtain ⟨j, hj, e⟩ := List.getElem_of_mem z
    rw [List.getElem_take] at e
    rw [List.length_take] at hj
    have hi : (es.map (·.1))[i]? = some k := by rw [List.getElem?_map, h]; rfl
    obtain ⟨hi, e'⟩ := List.getElem?_eq_some_iff.mp hi
    have := (List.getElem_inj hn (i := j) (j := i) (h₀ := by omega) (h₁ := hi)).mp (e.trans e'.symm)
    omega
  unfold putD
  rw [look_none_iff.mpr hk, List.take_succ, h]
  rfl
section
variable {K : PySem.W.Frag} {w : World} {Tb' : Tb} {H H' : Hp} {d : Addr} {od : Obj} {xs : List Ent}
theorem unlock_dicW (e : H' d = some (.frz od (DicO w d xs))) {a : Addr} {es : Es} (h : DicW K w H' a es) : DicW K w (upd H' d (DicO w d xs)) a es := by
  obtain ⟨ys, h1, D, en⟩ := h.ex
  have ne : a ≠ d := fun z => by
    rw [z, e] at h1
    unfold DicO at h1
    cases h1
  refine ⟨ys, by rw [upd_ne ne]; exact h1, ⟨.inl (by rw [upd_ne ne]; exact h1), fun x hx => ⟨unlock_dat e (D.key x hx).1, (D.key x hx).2⟩, D.nd, D.sz, D.sys⟩, en.up fun _ _ => unlock_dat e⟩
theorem fld_seq {T : Tb} {ta tv : TE} {f : Str} {u : TS} {D : Ends} {σ : L2.St} (h : tv σ H fun y H1 => ta σ H1 fun x H2 => ∃ a C dx fs, x = .ref a ∧ H2 a = some (.ins C dx fs) ∧ Cls K C ∧ NoAttr K C f ∧ fs.length < 1000 ∧ ∀ H', Go T [a] H2 H' → H' a = some (.ins C dx (putF f y fs)) → u D σ H') :
    tSeq (sFldG K T ta tv f) u D σ H := h
/-- {k: self.f[k] for k in self.f} -/
theorem copy_ok {b dx CB : Addr} {fs : List (Str × V)} {fld : Str} {σ : L2.St} {es : Es} {Q : VK} (h0 : (wipe σ [2])[0]? = some (some (.ref b))) (h0' : σ[0]? = some (some (.ref b))) (hσ : σ.length = 3) (hb : H b = some (.ins CB dx fs)) (cl : Cls K CB) (na : NoAttr K CB fld) (l : fs.lookup fld = some (.ref d)) (W : DicW K w H d es) (hz : es.length < sizeLine)
    (q : ∀ D H', H D = none → Go Tb' [] H H' → DicW K w H' D es → Q (.ref D) H') :
    tLockE (tCol (fun D => DicO w D []) (iKeysX w (tFld K (tVar 0) fld)) (gName 2) tYes (taDic K w Tb' (tVar 2) (tOp (rIxD K w) (tFld K (tVar 0) fld) (tVar 2))) ([(("place" : Str), 2)].map (·.2))) σ H Q := by
  obtain ⟨ys, e3, Dx, en⟩ := id W.ex
  have bd : b ≠ d := ne_of hb e3 fun z => by unfold DicO at z; cases z
  refine ⟨d, _, e3, trivial, fun od => ?_⟩
  have hb' : upd H d (.frz od (DicO w d ys)) b = some (.ins CB dx fs) := by rw [upd_ne bd]; exact hb
  refine ⟨_, h0', b, CB, dx, fs, _, rfl, hb', cl, na, l, d, od, ys, rfl, upd_same, Dx.sys, fun D nD sD => ?_⟩
  have Dl : Dic K w (upd H d (.frz od (DicO w d ys))) d ys := Dx.locked e3
  have hkeys : ∀ e ∈ ys, Dat K (upd H d (.frz od (DicO w d ys))) e.1 e.2.1 := fun e he => (Dl.key e he).1
  have Wl : DicD K w (upd H d (.frz od (DicO w d ys))) d es := ⟨ys, Dl, en.up fun _ _ => (Go.lockd (T := []) (od := od) e3).dat⟩
  have dD : d ≠ D := ne_of_none upd_same nD
  have bD : b ≠ D := ne_of_none hb' nD
  have HD : H D = none := by rw [upd_ne dD.symm] at nD; exact nD
  refine dc_D (K := K) (w := w) Tb' (walk_keysD (K := K) (w := w) (a := d) (o := od) (xs := ys)) nD sD (fun i ei H5 => Go Tb' [D] (upd H d (.frz od (DicO w d ys))) H5 ∧ ei = es.take i) (fun H5 g _ => ⟨g.up, rfl⟩) (fun i ei H5 _ ⟨g, _⟩ => ⟨g.frz upd_same, fun e he => g.dat (hkeys e he)⟩) ?_ ?_
  · rintro i ei x H5 H6 hi ⟨g5, rfl⟩ W5 ⟨rfl, k, hk, hx⟩
    rw [en.keys, List.getElem?_map] at hk
    obtain ⟨⟨k', v⟩, hkv, rfl⟩ := Option.map_eq_some_iff.mp hk
    have kd : k'.depth ≤ 8 := by
      have h1 : k' ∈ ys.map (·.1) := by rw [en.keys]; exact List.mem_map.mpr ⟨_, List.mem_of_getElem? hkv, rfl⟩
      obtain ⟨e, he, rfl⟩ := List.mem_map.mp h1
      exact (Dl.key e he).2
    have lk : look es k' = some v := look_of_mem W.nd (List.mem_of_getElem? hkv)
    have s2 : ((wipe σ [2]).set 2 (some x))[2]? = some (some x) := by
      rw [List.getElem?_set_self]
      have : (wipe σ [2]).length = σ.length := by simp [wipe]
      omega
    have s0 : ((wipe σ [2]).set 2 (some x))[0]? = some (some (.ref b)) := by
      rw [List.getElem?_set_ne (by decide)]
      exact h0
    refine ⟨?_, yesT ⟨_, s2, _, s0, b, CB, dx, fs, _, rfl, g5.ins hb' (fun z => bD (List.mem_singleton.mp z)), cl, na, l, _, s2, d, es, k', v, rfl, Wl.go g5 (fun z => dD (List.mem_singleton.mp z)), hx, kd, lk, fun u hu => ⟨_, k', v, W5, hx, kd, hu, ?_, fun H7 g7 W7 => ⟨_, ⟨g5.trans g7, ?_⟩, W7⟩⟩⟩⟩
    · simp [wipe]
    · rw [List.length_take]
      omega
    · exact take_put W.nd hkv
  · rintro ei H5 ⟨g5, rfl⟩ W5
    rw [en.length, List.take_length] at W5
    have fz := g5.frz (upd_same (H := H) (a := d) (o := .frz od (DicO w d ys)))
    exact ⟨fz, q D _ HD ((g5.unlock e3 fz).drop HD) (unlock_dicW fz W5)⟩
end
section
variable {P : Program} {w : World} {K : PySem.W.Frag} {mg : Str → Option Value} {base : Heap} {f fI fL fCk fBe fOf fGl fWi fOr : Addr} {fd fdI fdL dCk dBe dOf dGl dWi dOr : FuncData} {CT CS CB : Addr}
/-! ### __init__ -/
abbrev sBI : Stmt := bM 0
theorem scBI : FnScope ["self", "tile_set", "seed_place", "seed_name"] ["self", "tile_set", "seed_place", "seed_name"] (defScope sBI) := ⟨rfl, rfl, rfl, by decide +kernel, rfl, by decide +kernel, by decide +kernel⟩
def spBI (K : PySem.W.Frag) (w : World) (Tb' : Tb) (CT CS CB : Addr) : Sp := fun vs H Q _ => ∃ (H0 : Hp) (b dx ts : Addr) (T : Ts) (sp : Pl) (sn : Dm) (x y : V), vs = [.ref b, .ref ts, x, y] ∧ H b = some (.ins CB dx []) ∧ Nw H0 b ∧ Wo K w Tb' CT CS ts T H0 H ∧ Dat K H (pd sp) x ∧ sn ∈ T.ns ∧ Dat K H sn y ∧
  ∀ dl dc cs H', Nw H dl → Nw H dc → Go Tb' [b] H H' → BedAt K w CB H0 H' b ts T sp sn dl dc [(pd sp, sn)] cs → ComOk T [(pd sp, sn)] cs → Q .non H'
theorem ok_bI (Tb' : Tb) (F : Fun K "__init__" "Bed.__init__" sBI f fd) (X : TxtB K mg CB) (XS : TxtS K mg CS) (C : CallsB P w K mg base Tb' CT CS fCk fBe fOf fGl fWi fOr dCk dBe dOf dGl dWi dOr)
    (ML : MetF K CB "lay" "Bed.lay" sLay ["self", "place", "name"] fL fdL) (GL : FnOk P w K mg base CX0 7 fL fdL ["self", "place", "name"] (spLay K w Tb' CT CS CB)) :
    FnOk P w K mg base CX0 8 f fd ["self", "tile_set", "seed_place", "seed_name"] (spBI K w Tb' CT CS CB) := by
  refine F.ok scBI (fun vs H Q E h => ?_) (fun cdv A outer s H vs Q E hr h => ?_)
  · obtain ⟨_, b, _, _, _, _, _, _, _, rfl, _⟩ := h
    rfl
  · obtain ⟨H0, b, dx, ts, T, sp, sn, x, y, rfl, hb, nwb, hW, hx, hn, hy, q⟩ := h
    obtain ⟨tx, _, _, _, _, _, _, _, _, _, _, _, t1, _⟩ := id hW.tsa.ex
    refine ⟨_, pss_cons (ps_expr (pe_call C.ckG (hr.mono (by decide)) (by rfl) C.ck.mg C.ck.fn.kp C.ck.b .nil pass0 (pa_cons (pv 2) pa_nil)))
      (pss_cons (ps_expr (pe_meth (pv 1) XS.cl C.of.me C.ofG (hr.mono (by decide)) C.of.b .nil pass0 (pa_cons (pv 3) pa_nil)))
      (pss_cons (ps_fldG Tb' (pv 0) (pv 1) rfl) (pss_cons (ps_fldG Tb' (pv 0) (pv 2) rfl) (pss_cons (ps_fldG Tb' (pv 0) (pv 3) rfl)
      (pss_cons (ps_fldG Tb' (pv 0) (pe_dnew Tb') rfl) (pss_cons (ps_fldG Tb' (pv 0) (pe_dnew Tb') rfl)
      (pss_one (ps_expr (pe_meth (pv 0) X.cl ML.me GL hr ML.b .nil pass0 (pa_cons (pv 2) (pa_cons (pv 3) pa_nil))))))))))), ?_⟩
    refine ⟨_, rfl, sp, x, rfl, hx, ?_⟩
    refine ⟨_, rfl, ts, tx, _, rfl, t1, ts_m (by decide +kernel), _, rfl, ts, T, sn, y, rfl, hW.tsa, hn, hy, fun t ht => ?_⟩
    have lt : ∀ {n : Nat}, n ≤ 10 → n < 1000 := fun h => by omega
    have p1 := putF_len "tile_set" (V.ref ts) []
    have p2 := putF_len "seed_place" x (putF "tile_set" (V.ref ts) [])
    have p3 := putF_len "seed_name" y (putF "seed_place" x (putF "tile_set" (V.ref ts) []))
    simp only [List.length_nil] at p1
    refine ⟨_, rfl, _, rfl, b, CB, dx, [], rfl, hb, X.cl, X.nS, by decide, fun H1 g1 h1 => ?_⟩
    refine ⟨_, rfl, _, rfl, b, CB, dx, _, rfl, h1, X.cl, X.nP, by omega, fun H2 g2 h2 => ?_⟩
    refine ⟨_, rfl, _, rfl, b, CB, dx, _, rfl, h2, X.cl, X.nN, by omega, fun H3 g3 h3 => ?_⟩
    intro dl H4 nl g4 W4
    have bdl : b ≠ dl := ne_of_none h3 nl
    refine ⟨_, rfl, b, CB, dx, _, rfl, g4.ins h3 (by simp), X.cl, X.nL, by omega, fun H5 g5 h5 => ?_⟩
    intro dc H6 nc g6 W6
    have W5 := W4.go g5 fun z => bdl (List.mem_singleton.mp z).symm
    have bdc : b ≠ dc := ne_of_none h5 nc
    have p4 := putF_len "lying" (V.ref dl) (putF "seed_name" y (putF "seed_place" x (putF "tile_set" (V.ref ts) [])))
    refine ⟨_, rfl, b, CB, dx, _, rfl, g6.ins h5 (by simp), X.cl, X.nC, by omega, fun H7 g7 h7 => ?_⟩
    have W7 := W6.go g7 fun z => bdc (List.mem_singleton.mp z).symm
    have L7 := (W5.go g6 (by simp)).go g7 fun z => bdl (List.mem_singleton.mp z).symm
    have g13 : Go Tb' [b] H H3 := g1.trans (g2.trans g3)
    have g15 : Go Tb' [b] H H5 := (g13.trans g4.up).trans g5
    have g17 : Go Tb' [b] H H7 := (g15.trans g6.up).trans g7
    have nlH : Nw H dl := g13.nw (.none nl) fun z => bdl (List.mem_singleton.mp z).symm
    have ncH : Nw H dc := g15.nw (.none nc) fun z => bdc (List.mem_singleton.mp z).symm
    have hB : BedAt K w CB H0 H7 b ts T sp sn dl dc [] [] := ⟨⟨dx, x, y, h7, g17.dat hx, g17.dat hy⟩, L7, W7, hW.go.nw nlH (by simp), hW.go.nw ncH (by simp), W5.ne nc, .nil T, Nat.zero_le _⟩
    have hW7 := hW.step g17 fun a ha => by rw [List.mem_singleton.mp ha]; exact nwb
    refine ⟨_, rfl, b, dx, _, rfl, h7, bd_m (by decide +kernel), _, rfl, _, rfl, H0, b, ts, T, sp, sn, dl, dc, [], [], sp, x, some sn, y, rfl, hB, comOk_nil T, hW7, g17.dat hx, fun m hm => ?_, fun z => (nomatch z), by decide, fun H8 cs' g8 hB8 hC8 => ?_⟩
    · cases hm
      exact ⟨hn, g17.dat hy⟩
    · refine q dl dc cs' H8 nlH ncH ?_ hB8 hC8
      have := (g17.mono (S' := [dl, dc, b]) (by simp)).trans (g8.mono (by simp))
      exact (this.dropN nlH).dropN ncH
/-! ### twin -/
abbrev sTwin : Stmt := bM 16
theorem scTwin : FnScope ["self", "other", "place"] ["self"] (defScope sTwin) := ⟨rfl, rfl, rfl, by decide +kernel, rfl, by decide +kernel, by decide +kernel⟩
def spTwin (K : PySem.W.Frag) (w : World) (Tb' : Tb) (CT CS CB : Addr) : Sp := fun vs H Q _ => ∃ (H0 : Hp) (b ts : Addr) (T : Ts) (sp : Pl) (sn : Dm) (dl dc : Addr) (es cs : Es), vs = [.ref b] ∧ BedAt K w CB H0 H b ts T sp sn dl dc es cs ∧ ComOk T es cs ∧ Wo K w Tb' CT CS ts T H0 H ∧ sn ∈ T.ns ∧
  ∀ b2 dl2 dc2 H', Nw H b2 → Nw H dl2 → Nw H dc2 → Go Tb' [] H H' → BedAt K w CB H0 H' b2 ts T sp sn dl2 dc2 es cs → Q (.ref b2) H'
theorem ok_twin (Tb' : Tb) (F : Fun K "twin" "Bed.twin" sTwin f fd) (X : TxtB K mg CB) (MI : Mk K CB fI) (BI : Binds K fdI ["self", "tile_set", "seed_place", "seed_name"] []) (GI : FnOk P w K mg base CX0 8 fI fdI ["self", "tile_set", "seed_place", "seed_name"] (spBI K w Tb' CT CS CB)) :
    FnOk P w K mg base CX0 10 f fd ["self"] (spTwin K w Tb' CT CS CB) := by
  refine F.ok scTwin (fun vs H Q E h => ?_) (fun cdv A outer s H vs Q E hr h => ?_)
  · obtain ⟨_, b, _, _, _, _, _, _, _, _, rfl, _⟩ := h
    rfl
  · obtain ⟨H0, b, ts, T, sp, sn, dl, dc, es, cs, rfl, hB, hC, hW, hn, q⟩ := h
    obtain ⟨dx, vp, vn, hb, hvp, hvn⟩ := id hB.ins
    refine ⟨_, pss_cons (ps_set (i := 1) scTwin.nd rfl (.inl rfl) (pe_make MI GI hr (by rfl) X.mg BI .nil pass0 (pa_cons (pe_fld (pv 0) rfl) (pa_cons (pe_fld (pv 0) rfl) (pa_cons (pe_fld (pv 0) rfl) pa_nil)))))
      (pss_cons (ps_fldG Tb' (pv 1) (pe_lock (pe_dcD Tb' (own := [("place", 2)]) (g := gName 2) (tk := tVar 2) (tv := tOp (rIxD K w) (tFld K (tVar 0) "lying") (tVar 2)) (Room.u9 hr) (by rfl) scTwin.nd (pi_keysX (pe_fld (pv 0) rfl)) (blkOk_by (own := [("place", 2)]) (N := ["self", "other", "place"]) (sc := defScope sTwin) (by decide +kernel))
          (fun _ _ _ _ _ => pg_name (i := 2) scTwin.nd rfl (Or.inl rfl)) (fun _ _ _ _ _ => pts_nil) (fun _ _ _ _ _ => pv 2) (fun _ _ _ _ _ => pe_ix (ix_D (Room.u9 hr)) (pe_fld (pv 0) rfl) (pv 2) (fun _ _ => rfl)))) rfl)
      (pss_cons (ps_fldG Tb' (pv 1) (pe_lock (pe_dcD Tb' (own := [("place", 2)]) (g := gName 2) (tk := tVar 2) (tv := tOp (rIxD K w) (tFld K (tVar 0) "coming") (tVar 2)) (Room.u9 hr) (by rfl) scTwin.nd (pi_keysX (pe_fld (pv 0) rfl)) (blkOk_by (own := [("place", 2)]) (N := ["self", "other", "place"]) (sc := defScope sTwin) (by decide +kernel))
          (fun _ _ _ _ _ => pg_name (i := 2) scTwin.nd rfl (Or.inl rfl)) (fun _ _ _ _ _ => pts_nil) (fun _ _ _ _ _ => pv 2) (fun _ _ _ _ _ => pe_ix (ix_D (Room.u9 hr)) (pe_fld (pv 0) rfl) (pv 2) (fun _ _ => rfl)))) rfl)
      (pss_one (ps_ret (pv 1))))), ?_⟩
    refine ⟨_, rfl, b, CB, dx, _, _, rfl, hb, X.cl, X.nS, bd_set, _, rfl, b, CB, dx, _, _, rfl, hb, X.cl, X.nP, bd_place, _, rfl, b, CB, dx, _, _, rfl, hb, X.cl, X.nN, bd_name, fun b2 dx2 n2 nd2 ne2 => ?_⟩
    have gm : Go Tb' [] H (upd (upd H dx2 (.own b2)) b2 (.ins CB dx2 [])) := (Go.new nd2).trans (.new (by rw [upd_ne ne2.symm]; exact n2))
    refine ⟨H0, b2, dx2, ts, T, sp, sn, vp, vn, rfl, upd_same, hW.go.nw (.none n2) (by simp), hW.up gm, gm.dat hvp, hn, gm.dat hvn, fun dl2 dc2 cs2 H1 nl2 nc2 g1 hB2 hC2 => ⟨rfl, ?_⟩⟩
    have gH1 : Go Tb' [] H H1 := (gm.up.trans g1).drop n2
    have hB1 := hB.up gH1
    obtain ⟨dx1, vp1, vn1, hb1, _⟩ := id hB1.ins
    obtain ⟨ex2, vp2, vn2, hb2, hvp2, hvn2⟩ := hB2.ins
    have lb : (bdFs (.ref ts) vp2 vn2 (.ref dl2) (.ref dc2)).length < 1000 := by rw [bdFs_eq]; show 5 < 1000; decide
    have nwb2 : Nw H b2 := .none n2
    have bb2 : b ≠ b2 := ne_of_none hb n2
    refine fld_seq (copy_ok (fld := "lying") (by rfl) (by rfl) (by rfl) hb1 X.cl X.nL bd_lying hB1.L (lsz (by have := hB.sm; omega)) fun D1 H2 nD1 g2 W2 => ?_)
    refine ⟨_, rfl, b2, CB, ex2, _, rfl, g2.ins hb2 (by simp), X.cl, X.nL, lb, fun H3 g3 h3 => ?_⟩
    rw [bd_put_lying] at h3
    have nb3 : ∀ {a : Addr}, a ≠ b2 → a ∉ [b2] := fun h z => h (List.mem_singleton.mp z)
    have W3 := W2.go g3 (nb3 fun z => by
      obtain ⟨_, e, _⟩ := W2.ex
      rw [z, g2.ins hb2 (by simp)] at e
      unfold DicO at e
      cases e)
    have hB3 := (hB1.up g2).go g3 (nb3 bb2) (nb3 (hB.L.ne n2)) (nb3 (hB.C.ne n2))
    obtain ⟨dx3, vp3, vn3, hb3, _⟩ := id hB3.ins
    have c200 := hC.len hB.bo
    refine fld_seq (copy_ok (fld := "coming") (by rfl) (by rfl) (by rfl) hb3 X.cl X.nC bd_coming hB3.C (lsz (by have := hB.sm; omega)) fun D2 H4 nD2 g4 W4 => ?_)
    have lb4 : (bdFs (.ref ts) vp2 vn2 (.ref D1) (.ref dc2)).length < 1000 := by rw [bdFs_eq]; show 5 < 1000; decide
    refine ⟨_, rfl, b2, CB, ex2, _, rfl, g4.ins h3 (by simp), X.cl, X.nC, lb4, fun H5 g5 h5 => ⟨_, rfl, ?_⟩⟩
    rw [bd_put_coming] at h5
    have W5 := W4.go g5 (nb3 fun z => by
      obtain ⟨_, e, _⟩ := W4.ex
      rw [z, g4.ins h3 (by simp)] at e
      unfold DicO at e
      cases e)
    have L5 := (W3.go g4 (by simp)).go g5 (nb3 fun z => by
      obtain ⟨_, e, _⟩ := W3.ex
      rw [z, h3] at e
      unfold DicO at e
      cases e)
    have gH3 : Go Tb' [b2] H H3 := (gH1.trans g2).up.trans g3
    have gH5 : Go Tb' [b2] H H5 := (gH3.trans g4.up).trans g5
    have nw1 : Nw H D1 := gH1.nw (.none nD1) (by simp)
    have D2b : D2 ≠ b2 := fun z => by rw [z, h3] at nD2; cases nD2
    have nw2 : Nw H D2 := gH3.nw (.none nD2) (nb3 D2b)
    refine q b2 D1 D2 H5 nwb2 nw1 nw2 (gH5.drop n2) ⟨⟨ex2, vp2, vn2, h5, ?_, ?_⟩, L5, W5, hW.go.nw nw1 (by simp), hW.go.nw nw2 (by simp), W3.ne nD2, hB.bo, hB.sm⟩
    · exact g5.dat (g4.dat (g3.dat (g2.dat hvp2)))
    · exact g5.dat (g4.dat (g3.dat (g2.dat hvn2)))
end
end TG

/-! The law's defs: the pen. -/
namespace TG
open PySem PySem.Spec L2 TGr LamX
open PyProof.Rows hiding St

abbrev kS (x : Str) : Key := .inr x
def penK (cl : Addr) (at_ dg ct fo : Int) : List (Key × V) := [(.inr "cells", .ref cl), (.inr "at", .int at_), (.inr "digits", .int dg), (.inr "count", .int ct), (.inr "fold", .int fo)]
section
variable {cl : Addr} {at_ dg ct fo z : Int}
theorem pk12 : ¬ (kS "cells") = kS "at" := by decide +kernel
theorem pk13 : ¬ (kS "cells") = kS "digits" := by decide +kernel
theorem pk14 : ¬ (kS "cells") = kS "count" := by decide +kernel
theorem pk15 : ¬ (kS "cells") = kS "fold" := by decide +kernel
theorem pk23 : ¬ (kS "at") = kS "digits" := by decide +kernel
theorem pk24 : ¬ (kS "at") = kS "count" := by decide +kernel
theorem pk25 : ¬ (kS "at") = kS "fold" := by decide +kernel
theorem pk34 : ¬ (kS "digits") = kS "count" := by decide +kernel
theorem pk35 : ¬ (kS "digits") = kS "fold" := by decide +kernel
theorem pk45 : ¬ (kS "count") = kS "fold" := by decide +kernel
theorem pk21 : ¬ (kS "at") = kS "cells" := by decide +kernel
theorem pk31 : ¬ (kS "digits") = kS "cells" := by decide +kernel
theorem pk32 : ¬ (kS "digits") = kS "at" := by decide +kernel
theorem pk42 : ¬ (kS "count") = kS "at" := by decide +kernel
theorem pk43 : ¬ (kS "count") = kS "digits" := by decide +kernel
theorem pk52 : ¬ (kS "fold") = kS "at" := by decide +kernel
theorem pk53 : ¬ (kS "fold") = kS "digits" := by decide +kernel
theorem pk54 : ¬ (kS "fold") = kS "count" := by decide +kernel
theorem pv_cells : valV (penK cl at_ dg ct fo) (kS "cells") = some (.ref cl) := valV_pos rfl
theorem pv_at : valV (penK cl at_ dg ct fo) (kS "at") = some (.int at_) := (valV_neg pk12).trans (valV_pos rfl)
theorem pv_digits : valV (penK cl at_ dg ct fo) (kS "digits") = some (.int dg) := (valV_neg pk13).trans ((valV_neg pk23).trans (valV_pos rfl))
theorem pv_count : valV (penK cl at_ dg ct fo) (kS "count") = some (.int ct) := (valV_neg pk14).trans ((valV_neg pk24).trans ((valV_neg pk34).trans (valV_pos rfl)))
theorem pv_fold : valV (penK cl at_ dg ct fo) (kS "fold") = some (.int fo) := (valV_neg pk15).trans ((valV_neg pk25).trans ((valV_neg pk35).trans ((valV_neg pk45).trans (valV_pos rfl))))
theorem pp_at : putK (penK cl at_ dg ct fo) (kS "at") (.int z) = penK cl z dg ct fo := by
  unfold putK
  rw [if_pos (by rw [valV_any, pv_at]; rfl)]
  simp only [penK, List.map_cons, List.map_nil, if_neg pk12, if_neg pk32, if_neg pk42, if_neg pk52, if_pos]
theorem pp_digits : putK (penK cl at_ dg ct fo) (kS "digits") (.int z) = penK cl at_ z ct fo := by
  unfold putK
  rw [if_pos (by rw [valV_any, pv_digits]; rfl)]
  simp only [penK, List.map_cons, List.map_nil, if_neg pk13, if_neg pk23, if_neg pk43, if_neg pk53, if_pos]
theorem pp_count : putK (penK cl at_ dg ct fo) (kS "count") (.int z) = penK cl at_ dg z fo := by
  unfold putK
  rw [if_pos (by rw [valV_any, pv_count]; rfl)]
  simp only [penK, List.map_cons, List.map_nil, if_neg pk14, if_neg pk24, if_neg pk34, if_neg pk54, if_pos]
theorem pp_fold : putK (penK cl at_ dg ct fo) (kS "fold") (.int z) = penK cl at_ dg ct z := by
  unfold putK
  rw [if_pos (by rw [valV_any, pv_fold]; rfl)]
  simp only [penK, List.map_cons, List.map_nil, if_neg pk15, if_neg pk25, if_neg pk35, if_neg pk45, if_pos]
variable {H : Hp} {a : Addr}
theorem dg_cells (h : H a = some (.dK (penK cl at_ dg ct fo))) : DGet H a (.str "cells") (some (.ref cl)) := by have := DGet.k (k := kS "cells") h; rw [pv_cells] at this; exact this
theorem dg_at (h : H a = some (.dK (penK cl at_ dg ct fo))) : DGet H a (.str "at") (some (.int at_)) := by have := DGet.k (k := kS "at") h; rw [pv_at] at this; exact this
theorem dg_digits (h : H a = some (.dK (penK cl at_ dg ct fo))) : DGet H a (.str "digits") (some (.int dg)) := by have := DGet.k (k := kS "digits") h; rw [pv_digits] at this; exact this
theorem dg_count (h : H a = some (.dK (penK cl at_ dg ct fo))) : DGet H a (.str "count") (some (.int ct)) := by have := DGet.k (k := kS "count") h; rw [pv_count] at this; exact this
theorem dg_fold (h : H a = some (.dK (penK cl at_ dg ct fo))) : DGet H a (.str "fold") (some (.int fo)) := by have := DGet.k (k := kS "fold") h; rw [pv_fold] at this; exact this
theorem dp_at (h : H a = some (.dK (penK cl at_ dg ct fo))) : DPut H a (.str "at") (.int z) (upd H a (.dK (penK cl z dg ct fo))) := by have := DPut.k (k := kS "at") (v := .int z) h (show 5 < sizeLine from lsz (by decide)); rw [pp_at] at this; exact this
theorem dp_digits (h : H a = some (.dK (penK cl at_ dg ct fo))) : DPut H a (.str "digits") (.int z) (upd H a (.dK (penK cl at_ z ct fo))) := by have := DPut.k (k := kS "digits") (v := .int z) h (show 5 < sizeLine from lsz (by decide)); rw [pp_digits] at this; exact this
theorem dp_count (h : H a = some (.dK (penK cl at_ dg ct fo))) : DPut H a (.str "count") (.int z) (upd H a (.dK (penK cl at_ dg z fo))) := by have := DPut.k (k := kS "count") (v := .int z) h (show 5 < sizeLine from lsz (by decide)); rw [pp_count] at this; exact this
theorem dp_fold (h : H a = some (.dK (penK cl at_ dg ct fo))) : DPut H a (.str "fold") (.int z) (upd H a (.dK (penK cl at_ dg ct z))) := by have := DPut.k (k := kS "fold") (v := .int z) h (show 5 < sizeLine from lsz (by decide)); rw [pp_fold] at this; exact this
end
/-- the pen's numbers -/
structure PenN (H : Hp) (a cl : Addr) (m : Nat) (cells : List Int) (at_ dg ct fo : Int) : Prop where
  p : H a = some (.dK (penK cl at_ dg ct fo))
  c : H cl = some (.lst (cells.map V.int))
  a0 : 0 ≤ at_
  d0 : 0 ≤ dg
  c0 : 0 ≤ ct
  c1 : ct ≤ m
  f0 : 0 ≤ fo
  f1 : fo < 2147483587
/-- a pen stands at a, its cells at cl; it has drawn at most m times -/
structure PenB (H : Hp) (a cl : Addr) (m : Nat) : Prop where
  ex : ∃ cells at_ dg ct fo, PenN H a cl m cells at_ dg ct fo
section
variable {T : Tb} {S : List Addr} {H H' : Hp} {a cl l : Addr} {m m' : Nat} {cells : List Int} {at_ dg ct fo : Int}
theorem PenN.ne (B : PenN H a cl m cells at_ dg ct fo) : cl ≠ a := ne_of B.c B.p fun z => nomatch z
theorem PenN.go (B : PenN H a cl m cells at_ dg ct fo) (g : Go T S H H') (h1 : a ∉ S) (h2 : cl ∉ S) : PenN H' a cl m cells at_ dg ct fo := ⟨g.dK B.p h1, g.lst B.c h2, B.a0, B.d0, B.c0, B.c1, B.f0, B.f1⟩
theorem PenB.go (B : PenB H a cl m) (g : Go T S H H') (h1 : a ∉ S) (h2 : cl ∉ S) : PenB H' a cl m := let ⟨_, _, _, _, _, h⟩ := B.ex; ⟨_, _, _, _, _, h.go g h1 h2⟩
theorem PenB.up (B : PenB H a cl m) (g : Go T [] H H') : PenB H' a cl m := B.go g (by simp) (by simp)
theorem PenB.le (B : PenB H a cl m) (h : m ≤ m') : PenB H a cl m' := let ⟨_, _, _, _, _, p, c, a0, d0, c0, c1, f0, f1⟩ := B.ex; ⟨_, _, _, _, _, p, c, a0, d0, c0, by omega, f0, f1⟩
theorem PenB.pne (B : PenB H a cl m) (h : H l = none) : a ≠ l := let ⟨_, _, _, _, _, q⟩ := B.ex; ne_of_none q.p h
theorem PenB.cne (B : PenB H a cl m) (h : H l = none) : cl ≠ l := let ⟨_, _, _, _, _, q⟩ := B.ex; ne_of_none q.c h
theorem PenB.goN (B : PenB H a cl m) (g : Go T [l] H H') (h : H l = none) : PenB H' a cl m := B.go g (fun z => B.pne h (List.mem_singleton.mp z)) fun z => B.cne h (List.mem_singleton.mp z)
end
section
variable {P : Program} {w : World} {K : PySem.W.Frag} {mg : Str → Option Value} {base : Heap} {f fD : Addr} {fd fdD : FuncData}
/-! ### _law_draw(pen, many) -/
abbrev sDraw : Stmt := top 22
theorem scDraw : FnScope ["_law_pen_here", "_law_many", "_law_cell", "_law_digit", "_law_blend"] ["_law_pen_here", "_law_many"] (defScope sDraw) := ⟨rfl, rfl, rfl, by decide +kernel, rfl, by decide +kernel, by decide +kernel⟩
def spDraw (T : Tb) : Sp := fun vs H Q _ => ∃ (pn cl : Addr) (m : Nat) (k : Int), vs = [.ref pn, .int k] ∧ PenB H pn cl m ∧ 0 < k ∧ k ≤ 100000 ∧ m ≤ 1000000000 ∧ ∀ (r : Nat) H', (r : Int) < k → Go T [pn] H H' → PenB H' pn cl (m + 1) → Q (.int r) H'
theorem ok_draw (T : Tb) (F : TopF K mg "_law_draw" sDraw ["_law_pen_here", "_law_many"] f fd) (B : Blt mg) : FnOk P w K mg base CX0 1 f fd ["_law_pen_here", "_law_many"] (spDraw T) := by
  refine F.fn.ok scDraw (fun vs H Q E h => ?_) (fun cdv A outer s H vs Q E hr h => ?_)
  · obtain ⟨pn, _, _, k, rfl, _⟩ := h
    rfl
  · obtain ⟨pn, cl, m, k, rfl, ⟨cells, at_, dg, ct, fo, hP⟩, hk0, hk1, hm, q⟩ := h
    have hu := hu_of hr
    refine ⟨_, pss_cons (ps_dput hu (pv 0) pe_str (pe_op op_add (pe_dget hu (pv 0) pe_str (fun _ _ => rfl)) pe_int) rfl)
      (pss_cons (ps_if (PW.pt (pw_and (pt_cmpR op_eq (pe_dget hu (pv 0) pe_str (fun _ _ => rfl)) pe_int (nomark _)) (pw_and1 (pt_cmpR op_lt (pe_dget hu (pv 0) pe_str (fun _ _ => rfl)) (pe_callB call_len_seq (by rfl) B.len boot_len (pa_cons (pe_dget hu (pv 0) pe_str (fun _ _ => rfl)) pa_nil)) (nomark _)))))
        (pss_cons (ps_set (i := 2) scDraw.nd rfl (.inl rfl) (pe_ix ix_list (pe_dget hu (pv 0) pe_str (fun _ _ => rfl)) (pe_dget hu (pv 0) pe_str (fun _ _ => rfl)) (fun _ _ => rfl)))
        (pss_cons (ps_dput hu (pv 0) pe_str (pe_op op_add (pe_dget hu (pv 0) pe_str (fun _ _ => rfl)) pe_int) rfl)
        (pss_one (ps_if (pt_cmpR op_ge (pv 2) (pe_op op_pow pe_int pe_int) (nomark _))
          (pss_one (ps_dput hu (pv 0) pe_str (pe_op op_sub (pv 2) (pe_op op_pow pe_int pe_int)) rfl))
          (pss_one (ps_dput hu (pv 0) pe_str (pe_op op_mod (pe_callTy call_int1 (by rfl) B.int boot_int (pa_cons (pe_op op_add (pe_op op_mul (pe_dget hu (pv 0) pe_str (fun _ _ => rfl)) pe_int) (pv 2)) pa_nil)) pe_int) rfl))))))
        pss_nil)
      (pss_cons (ps_if (pt_cmpR op_gt (pe_dget hu (pv 0) pe_str (fun _ _ => rfl)) pe_int (nomark _))
        (pss_cons (ps_set (i := 3) scDraw.nd rfl (.inl rfl) (pe_op op_mod (pe_callTy call_int1 (by rfl) B.int boot_int (pa_cons (pe_dget hu (pv 0) pe_str (fun _ _ => rfl)) pa_nil)) (pv 1)))
        (pss_cons (ps_dput hu (pv 0) pe_str (pe_op op_fdiv (pe_dget hu (pv 0) pe_str (fun _ _ => rfl)) (pv 1)) rfl)
        (pss_one (ps_ret (pv 3)))))
        pss_nil)
      (pss_cons (ps_set (i := 4) scDraw.nd rfl (.inl rfl) (pe_op op_add (pe_op op_add (pe_dget hu (pv 0) pe_str (fun _ _ => rfl)) (pe_op op_mul (pe_dget hu (pv 0) pe_str (fun _ _ => rfl)) pe_int)) pe_int))
      (pss_one (ps_ret (pe_op op_mod (pe_op op_fdiv (pe_callTy call_int1 (by rfl) B.int boot_int (pa_cons (pe_op op_mod (pe_op op_pow (pv 4) pe_int) pe_int) pa_nil)) pe_int) (pv 1))))))), ?_⟩
    refine ⟨_, rfl, pn, _, rfl, dg_count hP.p, _, _, rfl, rfl, _, rfl, pn, _, rfl, dp_count hP.p, ?_⟩
    have g1 : Go T [pn] H (upd H pn (.dK (penK cl at_ dg (ct + 1) fo))) := .setK hP.p
    have hP1 : PenN (upd H pn (.dK (penK cl at_ dg (ct + 1) fo))) pn cl (m + 1) cells at_ dg (ct + 1) fo := ⟨upd_same, by rw [upd_ne hP.ne]; exact hP.c, hP.a0, hP.d0, by have := hP.c0; omega, by have := hP.c1; omega, hP.f0, hP.f1⟩
    dsimp only
    refine seq_key2 (s1 := tIfS _ _ _) (fun σ1 H5 => ∃ o2, σ1 = [some (.ref pn), some (.int k), o2, none, none] ∧ Go T [pn] H H5 ∧ ∃ at_ dg ct fo, PenN H5 pn cl (m + 1) cells at_ dg ct fo) ?_ fun key => ?_
    rotate_left
    · refine ⟨_, rfl, pn, _, rfl, dg_digits hP1.p, rfl, _, rfl, ?_⟩
      by_cases c0 : (V.int dg) = V.int 0
      rotate_left
      · exact iteFp c0 (key _ _ ⟨_, rfl, g1, _, _, _, _, hP1⟩)
      refine iteTp c0 ⟨_, rfl, pn, _, rfl, dg_at hP1.p, _, rfl, pn, _, rfl, dg_cells hP1.p, cl, _, rfl, .inl (.inl (.inl hP1.c)), _, _, rfl, rfl, _, rfl, ?_⟩
      by_cases c1 : at_ < ((cells.map V.int).length : Int)
      rotate_left
      · exact iteFp c1 (key _ _ ⟨_, rfl, g1, _, _, _, _, hP1⟩)
      obtain ⟨j, hj⟩ : ∃ j : Nat, at_ = j := ⟨at_.toNat, by have := hP.a0; omega⟩
      subst hj
      have hj : j < cells.length := by rw [List.length_map] at c1; omega
      refine iteTp c1 ⟨_, rfl, pn, _, rfl, dg_cells hP1.p, _, rfl, pn, _, rfl, dg_at hP1.p, cl, _, j, .int cells[j], rfl, rfl, .inl (.inl hP1.c), atI_nat (by rw [List.getElem?_map, List.getElem?_eq_getElem hj]; rfl), ?_⟩
      refine ⟨_, rfl, pn, _, rfl, dg_at hP1.p, _, _, rfl, rfl, _, rfl, pn, _, rfl, dp_at hP1.p, ?_⟩
      generalize cells[j] = ce
      have g2 : Go T [pn] H (upd (upd H pn (.dK (penK cl j dg (ct + 1) fo))) pn (.dK (penK cl (j + 1) dg (ct + 1) fo))) := g1.trans (.setK hP1.p)
      have hP2 : PenN (upd (upd H pn (.dK (penK cl j dg (ct + 1) fo))) pn (.dK (penK cl (j + 1) dg (ct + 1) fo))) pn cl (m + 1) cells (j + 1) dg (ct + 1) fo := ⟨upd_same, by rw [upd_ne hP.ne]; exact hP1.c, by omega, hP1.d0, hP1.c0, hP1.c1, hP1.f0, hP1.f1⟩
      refine ⟨_, rfl, _, _, rfl, rfl, ⟨by decide, by decide, by decide⟩, _, _, rfl, rfl, _, rfl, ?_⟩
      by_cases c2 : (10 : Int) ^ (18 : Int).toNat ≤ ce
      · refine iteTp c2 ⟨_, rfl, _, _, rfl, rfl, ⟨by decide, by decide, by decide⟩, _, _, rfl, rfl, _, rfl, pn, _, rfl, dp_digits hP2.p, key _ _ ⟨_, rfl, g2.trans (.setK hP2.p), _, _, _, _, ⟨upd_same, by rw [upd_ne hP.ne]; exact hP2.c, hP2.a0, by omega, hP2.c0, hP2.c1, hP2.f0, hP2.f1⟩⟩⟩
      · have f0 := hP2.f0
        have f1 := hP2.f1
        refine iteFp c2 ⟨_, rfl, pn, _, rfl, dg_fold hP2.p, _, _, rfl, rfl, .inl ⟨by omega, by omega⟩, _, rfl, _, _, rfl, rfl, .inl ⟨_, rfl, ?_⟩⟩
        refine ⟨_, _, rfl, rfl, (by show (0 : Int) < 2147483587; decide), _, rfl, pn, _, rfl, dp_fold hP2.p, key _ _ ⟨_, rfl, g2.trans (.setK hP2.p), _, _, _, _, ⟨upd_same, by rw [upd_ne hP.ne]; exact hP2.c, hP2.a0, hP2.d0, hP2.c0, hP2.c1, Int.emod_nonneg _ (by decide), Int.emod_lt_of_pos _ (by decide)⟩⟩⟩
    · rintro _ H5 ⟨o2, rfl, g5, at_, dg, ct, fo, hP5⟩
      refine ⟨_, rfl, pn, _, rfl, dg_digits hP5.p, _, _, rfl, rfl, _, rfl, ?_⟩
      have d0 := hP5.d0
      by_cases c : 0 < dg
      · refine iteTp c ⟨_, rfl, pn, _, rfl, dg_digits hP5.p, .inl ⟨_, rfl, _, rfl, _, _, rfl, rfl, hk0, ?_⟩⟩
        refine ⟨_, rfl, pn, _, rfl, dg_digits hP5.p, _, rfl, _, _, rfl, rfl, ⟨hk0, by omega⟩, _, rfl, pn, _, rfl, dp_digits hP5.p, _, rfl, ?_⟩
        have e1 : 0 ≤ dg % k := Int.emod_nonneg _ (by omega)
        have e2 : dg % k < k := Int.emod_lt_of_pos _ hk0
        have := q (dg % k).toNat (upd H5 pn (.dK (penK cl at_ (dg / k) ct fo))) (by omega) (g5.trans (.setK hP5.p)) ⟨_, _, _, _, _, ⟨upd_same, by rw [upd_ne hP5.ne]; exact hP5.c, hP5.a0, Int.ediv_nonneg d0 (by omega), hP5.c0, hP5.c1, hP5.f0, hP5.f1⟩⟩
        rw [show ((dg % k).toNat : Int) = dg % k by omega] at this
        exact this
      · refine iteFp c ?_
        have c0 := hP5.c0
        have c1 := hP5.c1
        have f0 := hP5.f0
        have f1 := hP5.f1
        refine ⟨_, rfl, pn, _, rfl, dg_fold hP5.p, _, rfl, pn, _, rfl, dg_count hP5.p, _, _, rfl, rfl, .inl ⟨by omega, by omega⟩, _, _, rfl, rfl, _, _, rfl, rfl, ?_⟩
        refine ⟨_, rfl, _, _, rfl, rfl, ⟨by decide, by decide, by show (fo + ct * 7907 + 37).natAbs < 2 ^ 64; omega⟩, _, _, rfl, rfl, (by show (0 : Int) < 2305843009213693951; decide), .inl ⟨_, rfl, _, _, rfl, rfl, ⟨by decide, by decide⟩, _, rfl, _, _, rfl, rfl, hk0, ?_⟩⟩
        generalize (fo + ct * 7907 + 37) ^ (17 : Int).toNat % 2305843009213693951 / 128 = z
        have e1 : 0 ≤ z % k := Int.emod_nonneg _ (by omega)
        have e2 : z % k < k := Int.emod_lt_of_pos _ hk0
        have := q (z % k).toNat _ (by omega) g5 ⟨_, _, _, _, _, hP5⟩
        rw [show ((z % k).toNat : Int) = z % k by omega] at this
        exact this
end
end TG

/-! The law's defs: a new pen, pick, shuffled, next. -/
namespace TG
open PySem PySem.Spec L2 TGr LamX
open PyProof.Rows hiding St

theorem merge_pen {cl : Addr} {at_ dg ct fo : Int} : mergeK [] (penK cl at_ dg ct fo) = penK cl at_ dg ct fo := by
  unfold mergeK penK
  simp only [List.foldl_cons, List.foldl_nil]
  simp only [putK, List.any_nil, List.any_cons, List.nil_append, List.cons_append, Bool.false_eq_true, if_false, decide_eq_false pk12, decide_eq_false pk13, decide_eq_false pk14, decide_eq_false pk15, decide_eq_false pk23, decide_eq_false pk24, decide_eq_false pk25, decide_eq_false pk34, decide_eq_false pk35, decide_eq_false pk45, Bool.or_false]
theorem sizeLine_nat : (1000 : Nat) < sizeLine := lsz (Nat.le_refl _)
theorem LsD.goK {K : PySem.W.Frag} {T : Tb} {H H' : Hp} {p : Addr} {kvs : List (Key × V)} {ds : List Dm} {x : V} (h : LsD K H ds x) (g : Go T [p] H H') (e : H p = some (.dK kvs)) : LsD K H' ds x := by
  obtain ⟨a, xs, rfl, hs, hd⟩ := h
  refine ⟨a, xs, rfl, ?_, g.datA hd⟩
  rcases hs with hs | hs
  · refine .inl (g.rd hs (fun z => ?_) fun _ z => nomatch z)
    have z := List.mem_singleton.mp z
    rcases hs with e' | ⟨_, e'⟩ <;> (rw [z, e] at e'; cases e')
  · exact .inr hs
theorem SqD.goK {K : PySem.W.Frag} {T : Tb} {H H' : Hp} {p : Addr} {kvs : List (Key × V)} {ds : List Dm} {x : V} (h : SqD K H ds x) (g : Go T [p] H H') (e : H p = some (.dK kvs)) : SqD K H' ds x := by
  rcases h with h | h
  · exact .inl (h.goK g e)
  · exact .inr (g.dat h)
theorem PenB.pd {H : Hp} {a cl : Addr} {m : Nat} (B : PenB H a cl m) : ∃ kvs, H a = some (.dK kvs) := let ⟨_, _, _, _, _, h⟩ := B.ex; ⟨_, h.p⟩
theorem SqD.goP {K : PySem.W.Frag} {T : Tb} {H H' : Hp} {p cl : Addr} {m : Nat} {ds : List Dm} {x : V} (h : SqD K H ds x) (g : Go T [p] H H') (B : PenB H p cl m) : SqD K H' ds x := let ⟨_, e⟩ := B.pd; h.goK g e
theorem LsD.goP {K : PySem.W.Frag} {T : Tb} {H H' : Hp} {p cl : Addr} {m : Nat} {ds : List Dm} {x : V} (h : LsD K H ds x) (g : Go T [p] H H') (B : PenB H p cl m) : LsD K H' ds x := let ⟨_, e⟩ := B.pd; h.goK g e
theorem LstW.pne {K : PySem.W.Frag} {H : Hp} {p cl a : Addr} {m : Nat} {ds : List Dm} (h : LstW K H a ds) (B : PenB H p cl m) : a ≠ p := let ⟨_, e⟩ := B.pd; let ⟨_, q, _⟩ := h.ex; ne_of q e fun z => nomatch z
theorem LstW.goP {K : PySem.W.Frag} {T : Tb} {H H' : Hp} {p cl a : Addr} {m : Nat} {ds : List Dm} (h : LstW K H a ds) (g : Go T [p] H H') (B : PenB H p cl m) : LstW K H' a ds := h.go g fun z => h.pne B (List.mem_singleton.mp z)
theorem cut_to (ds : List Dm) {k : Nat} (h : k ≤ ds.length) : cutL ds none (some (k : Int)) = ds.take k := by
  unfold cutL
  rw [HT.sIx_none, HT.sIx_nat, List.drop_zero, Nat.sub_zero, Nat.min_eq_left h]
theorem cut_from (ds : List Dm) {k : Nat} (h : k ≤ ds.length) : cutL ds (some (k : Int)) none = ds.drop k := by
  unfold cutL
  rw [HT.sIx_nat, HT.sIx_none, Nat.min_eq_left h, List.take_of_length_le]
  rw [List.length_drop]
  exact Nat.le_refl _
section
variable {P : Program} {w : World} {K : PySem.W.Frag} {mg : Str → Option Value} {base : Heap} {f fD : Addr} {fd fdD : FuncData}
/-! ### _law_pen(script) -/
abbrev sPen : Stmt := top 21
theorem scPen : FnScope ["_law_script", "_law_fold", "_law_cell"] ["_law_script"] (defScope sPen) := ⟨rfl, rfl, rfl, by decide +kernel, rfl, by decide +kernel, by decide +kernel⟩
def spPen (K : PySem.W.Frag) (T : Tb) : Sp := fun vs H Q _ => ∃ (a : Addr) (ns : List Int), vs = [.ref a] ∧ SqL K H a (ns.map V.int) ∧ ∀ pn cl H', H pn = none → Go T [] H H' → PenB H' pn cl 0 → Q (.ref pn) H'
theorem ok_pen (T : Tb) (F : TopF K mg "_law_pen" sPen ["_law_script"] f fd) (B : Blt mg) : FnOk P w K mg base CX0 1 f fd ["_law_script"] (spPen K T) := by
  refine F.fn.ok scPen (fun vs H Q E h => ?_) (fun cdv A outer s H vs Q E hr h => ?_)
  · obtain ⟨a, ns, rfl, _⟩ := h
    rfl
  · obtain ⟨a, ns, rfl, hs, q⟩ := h
    refine ⟨_, pss_cons (ps_set (i := 1) scPen.nd rfl (.inl rfl) pe_int)
      (pss_cons (ps_for PassesOwn.never rfl (pi_list (pv 0)) (pg_name (i := 2) scPen.nd rfl (.inl rfl))
        (pss_one (ps_set (i := 1) scPen.nd rfl (.inl rfl) (pe_op op_mod (pe_callTy call_int1 (by rfl) B.int boot_int (pa_cons (pe_op op_add (pe_op op_mul (pv 1) pe_int) (pv 2)) pa_nil)) pe_int))))
      (pss_one (ps_ret (pe_disp (pps_cons pe_str (pe_callTy call_list_of (by rfl) B.list (by decide +kernel) (pa_cons (pv 0) pa_nil)) (pps_cons pe_str pe_int (pps_cons pe_str pe_int (pps_cons pe_str pe_int (pps_cons pe_str (pv 1) pps_nil))))) (by rfl) (by rfl) (fun z => by cases z) (by decide))))), ?_⟩
    refine ⟨_, rfl, a, rfl, ⟨_, hs⟩, for_list (xs := ns.map V.int) (fun i σ H1 => H1 = H ∧ ∃ (fo : Int) (o : Option V), σ = [some (.ref a), some (.int fo), o] ∧ 0 ≤ fo ∧ fo < 2147483587) ⟨rfl, 0, _, rfl, by decide, by decide⟩ (fun i σ H1 _ ⟨e, _⟩ => e ▸ hs) ?_ ?_⟩
    · rintro i x σ H1 hx ⟨rfl, fo, o, rfl, f0, f1⟩
      rw [List.getElem?_map] at hx
      obtain ⟨z, _, rfl⟩ := Option.map_eq_some_iff.mp hx
      refine ⟨_, rfl, _, _, rfl, rfl, .inl ⟨by omega, by omega⟩, _, rfl, _, _, rfl, rfl, .inl ⟨_, rfl, ?_⟩⟩
      have e1 : 0 ≤ (fo * 41 + z) % 1000000007 := Int.emod_nonneg _ (by decide)
      have e2 : (fo * 41 + z) % 1000000007 < 1000000007 := Int.emod_lt_of_pos _ (by decide)
      exact ⟨_, _, rfl, rfl, (by show (0 : Int) < 1000000007; decide), rfl, (fo * 41 + z) % 1000000007, _, rfl, e1, by omega⟩
    · rintro σ H1 ⟨rfl, fo, o, rfl, f0, f1⟩
      intro pn np
      have hs1 : SqL K (upd H1 pn (.dK [])) a (ns.map V.int) := (Go.new (T := T) (S := []) np).sqL hs (by simp)
      refine ⟨_, rfl, a, _, rfl, .inl hs1, fun l nl => ?_⟩
      have lp : pn ≠ l := ne_of_none upd_same nl
      refine ⟨_, rfl, ?_, penK l 0 0 0 fo, rfl, (show 5 ≤ 15 by decide), ?_⟩
      · rw [upd_ne lp]
        exact upd_same
      · rw [merge_pen]
        refine q pn l _ np ?_ ⟨ns, 0, 0, 0, fo, upd_same, ?_, by decide, by decide, by decide, by decide, f0, f1⟩
        · refine Go.drop (p := pn) (((Go.new np).trans (Go.new nl)).trans (Go.setK (xs := []) ?_)) np
          rw [upd_ne lp]
          exact upd_same
        · rw [upd_ne lp.symm]
          exact upd_same
/-! ### _law_pick(pen, some) -/
abbrev sPick : Stmt := top 23
theorem scPick : FnScope ["_law_pen_here", "_law_some"] ["_law_pen_here", "_law_some"] (defScope sPick) := ⟨rfl, rfl, rfl, by decide +kernel, rfl, by decide +kernel, by decide +kernel⟩
def spPick (K : PySem.W.Frag) (T : Tb) : Sp := fun vs H Q _ => ∃ (pn cl : Addr) (m : Nat) (ds : List Dm) (x : V), vs = [.ref pn, x] ∧ PenB H pn cl m ∧ SqD K H ds x ∧ ds ≠ [] ∧ ds.length ≤ 100000 ∧ m ≤ 1000000000 ∧ ∀ d v H', d ∈ ds → Go T [pn] H H' → PenB H' pn cl (m + 1) → Dat K H' d v → Q v H'
theorem ok_pick (T : Tb) (F : TopF K mg "_law_pick" sPick ["_law_pen_here", "_law_some"] f fd) (B : Blt mg) (FD : TopF K mg "_law_draw" sDraw ["_law_pen_here", "_law_many"] fD fdD) :
    FnOk P w K mg base CX0 2 f fd ["_law_pen_here", "_law_some"] (spPick K T) := by
  have GD : FnOk P w K mg base CX0 1 fD fdD ["_law_pen_here", "_law_many"] (spDraw T) := ok_draw T FD B
  refine F.fn.ok scPick (fun vs H Q E h => ?_) (fun cdv A outer s H vs Q E hr h => ?_)
  · obtain ⟨pn, _, _, _, x, rfl, _⟩ := h
    rfl
  · obtain ⟨pn, cl, m, ds, x, rfl, hP, hS, hne, hl, hm, q⟩ := h
    refine ⟨_, pss_one (ps_ret (pe_ix ix_DL (pv 1) (pe_call GD hr (by rfl) FD.mg FD.fn.kp FD.b .nil pass0 (pa_cons (pv 0) (pa_cons (pe_callB call_lenL (by rfl) B.len boot_len (pa_cons (pv 1) pa_nil)) pa_nil))) (fun _ _ => rfl))), ?_⟩
    have h0 : 0 < ds.length := List.length_pos_iff.mpr hne
    refine ⟨_, rfl, _, rfl, _, rfl, ds, x, rfl, hS, pn, cl, m, ds.length, rfl, hP, by omega, by omega, hm, fun r H' hr' g P' => ?_⟩
    have hr'' : r < ds.length := by omega
    refine ⟨ds, r, ds[r], hS.goP g hP, rfl, atI_nat (List.getElem?_eq_getElem hr''), fun v hv => q _ v H' (List.getElem_mem hr'') g P' hv⟩
/-! ### _law_shuffled(pen, some) -/
abbrev sShuf : Stmt := top 24
theorem scShuf : FnScope ["_law_pen_here", "_law_some", "_law_left", "_law_found", "_law_lap", "_law_k"] ["_law_pen_here", "_law_some"] (defScope sShuf) := ⟨rfl, rfl, rfl, by decide +kernel, rfl, by decide +kernel, by decide +kernel⟩
def spShuf (K : PySem.W.Frag) (T : Tb) : Sp := fun vs H Q _ => ∃ (pn cl : Addr) (m : Nat) (ds : List Dm) (x : V), vs = [.ref pn, x] ∧ PenB H pn cl m ∧ SqD K H ds x ∧ ds.length ≤ 1000 ∧ m + ds.length ≤ 1000000000 ∧ ∀ l fs H', fs.Perm ds → Nw H l → Go T [pn] H H' → PenB H' pn cl (m + ds.length) → LstW K H' l fs → Q (.ref l) H'
theorem ok_shuf (T : Tb) (F : TopF K mg "_law_shuffled" sShuf ["_law_pen_here", "_law_some"] f fd) (B : Blt mg) (FD : TopF K mg "_law_draw" sDraw ["_law_pen_here", "_law_many"] fD fdD) :
    FnOk P w K mg base CX0 2 f fd ["_law_pen_here", "_law_some"] (spShuf K T) := by
  have GD : FnOk P w K mg base CX0 1 fD fdD ["_law_pen_here", "_law_many"] (spDraw T) := ok_draw T FD B
  refine F.fn.ok scShuf (fun vs H Q E h => ?_) (fun cdv A outer s H vs Q E hr h => ?_)
  · obtain ⟨pn, _, _, _, x, rfl, _⟩ := h
    rfl
  · obtain ⟨pn, cl, m, ds, x, rfl, hP, hS, hl, hm, q⟩ := h
    refine ⟨_, pss_cons (ps_par (i := 2) (j := 3) (by rfl) scShuf.nd rfl rfl (by decide) rfl rfl (pa_cons (pe_callTy (call_listL T) (by rfl) B.list (by decide +kernel) (pa_cons (pv 1) pa_nil)) (pa_cons (pe_lstD T pa_nil) pa_nil)) (by rfl))
      (pss_cons (ps_for PassesOwn.never rfl (pi_range1 rfl B.range (pa_cons (pe_callB call_lenL (by rfl) B.len boot_len (pa_cons (pv 1) pa_nil)) pa_nil)) (pg_name (i := 4) scShuf.nd rfl (.inl rfl))
        (pss_cons (ps_set (i := 5) scShuf.nd rfl (.inl rfl) (pe_call GD hr (by rfl) FD.mg FD.fn.kp FD.b .nil pass0 (pa_cons (pv 0) (pa_cons (pe_callB call_lenL (by rfl) B.len boot_len (pa_cons (pv 2) pa_nil)) pa_nil))))
        (pss_cons (ps_expr (pe_bm PySem.F.plainAttrs_list PySem.F.slot_list_append PySem.F.type_list_append (mt_appD T) (pv 3) (pa_cons (pe_ix ix_DL (pv 2) (pv 5) (fun _ _ => rfl)) pa_nil)))
        (pss_one (ps_set (i := 2) scShuf.nd rfl (.inl rfl) (pe_op (op_catD T) (pe_slice (sl_D T) (pv 2) po_none (po_some (pv 5))) (pe_slice (sl_D T) (pv 2) (po_some (pe_op op_add (pv 5) pe_int)) po_none)))))))
      (pss_one (ps_ret (pv 3)))), ?_⟩
    refine ⟨_, rfl, ds, x, rfl, hS, fun lf H1 nf g1 L1 => ⟨[], .nil, sz0, fun lr H2 nr g2 L2 => ⟨_, _, rfl, ?_⟩⟩⟩
    have g02 : Go T [] H H2 := g1.trans g2
    have hS2 : SqD K H2 ds x := by
      rcases hS with ⟨a, xs, e, h1, h2⟩ | h
      · exact .inl ⟨a, xs, e, g02.sqL h1 (by simp), g02.datA h2⟩
      · exact .inr (g02.dat h)
    have nlr : Nw H lr := g1.nw (.none nr) (by simp)
    refine ⟨_, rfl, ds, x, rfl, hS2, ds.length, rfl, by omega, by omega, ?_⟩
    refine for_range (n := ds.length) (fun i σ H3 => ∃ la rs fs o4 o5, σ = [some (.ref pn), some x, some (.ref la), some (.ref lr), o4, o5] ∧ Go T [pn, lr] H2 H3 ∧ PenB H3 pn cl (m + i) ∧ LstW K H3 la rs ∧ LstW K H3 lr fs ∧ (fs ++ rs).Perm ds ∧ fs.length = i ∧ la ≠ lr)
      ⟨lf, ds, [], _, _, rfl, .refl, hP.up g02, L1.go g2 (by simp), L2, .refl _, rfl, L1.ne nr⟩ ?_ ?_
    · rintro i σ H3 hi ⟨la, rs, fs, o4, o5, rfl, g3, P3, La, Lr, hp, hf, nla⟩
      have hlen := hp.length_eq
      rw [List.length_append] at hlen
      refine ⟨_, rfl, _, rfl, rs, .ref la, rfl, .inl La.ls, pn, cl, m + i, rs.length, rfl, P3, by omega, by omega, by omega, fun r H4 hr' g4 P4 => ?_⟩
      have hr'' : r < rs.length := by omega
      have La4 := La.goP g4 P3
      have Lr4 := Lr.goP g4 P3
      obtain ⟨ys, hlr, _⟩ := id Lr4.ex
      refine ⟨_, rfl, .inl ⟨rfl, _, .inl (.inl hlr)⟩, _, rfl, _, rfl, rs, r, rs[r], .inl La4.ls, rfl, atI_nat (List.getElem?_eq_getElem hr''), fun v hv => ?_⟩
      refine ⟨lr, fs, rs[r], v, rfl, rfl, Lr4, hv, lsz (by omega), fun H5 g5 Lr5 => ?_⟩
      have La5 := La4.go g5 fun z => nla (List.mem_singleton.mp z)
      have plr : pn ≠ lr := (Lr.pne P3).symm
      have clr : cl ≠ lr := by
        have h1 := (hP.up g1).cne nr
        exact h1
      have P5 := P4.go g5 (fun z => plr (List.mem_singleton.mp z)) fun z => clr (List.mem_singleton.mp z)
      refine ⟨_, rfl, _, rfl, _, rfl, rs, La5.ls, fun p6 H6 n6 g6 L6 => ?_⟩
      refine ⟨_, rfl, _, rfl, _, _, rfl, rfl, _, rfl, rs, (La5.go g6 (by simp)).ls, fun p7 H7 n7 g7 L7 => ?_⟩
      rw [cut_to rs (by omega)] at L6
      rw [show ((r : Int) + 1) = ((r + 1 : Nat) : Int) by omega, cut_from rs (by omega)] at L7
      refine ⟨p6, p7, _, _, rfl, rfl, L6.go g7 (by simp), L7, Nat.le_of_lt (szM (by rw [List.length_take, List.length_drop]; omega)), fun p8 H8 n8 g8 L8 => ?_⟩
      have g58 : Go T [] H5 H8 := g6.trans (g7.trans g8)
      refine ⟨p8, rs.take r ++ rs.drop (r + 1), fs ++ [rs[r]], _, _, rfl, ?_, ?_, L8, Lr5.go g58 (by simp), ?_, ?_, ?_⟩
      · exact ((g3.trans (g4.mono (by simp))).trans (g5.mono (by simp))).trans g58.up
      · exact P5.up g58
      · have e1 : rs = rs.take r ++ rs[r] :: rs.drop (r + 1) := by rw [List.getElem_cons_drop, List.take_append_drop]
        refine List.Perm.trans ?_ hp
        rw [List.append_assoc]
        refine List.Perm.append_left fs ?_
        conv => rhs; rw [e1]
        show (rs[r] :: (rs.take r ++ rs.drop (r + 1))).Perm _
        exact List.perm_middle.symm
      · rw [List.length_append, hf]
        rfl
      · exact fun z => by
          have h1 := (Lr5.go (g6.trans g7) (by simp)).ne n8
          exact h1 z.symm
    · rintro σ H3 ⟨la, rs, fs, o4, o5, rfl, g3, P3, La, Lr, hp, hf, nla⟩
      have e0 : rs = [] := by
        have := hp.length_eq
        rw [List.length_append] at this
        exact List.eq_nil_of_length_eq_zero (by omega)
      subst e0
      rw [List.append_nil] at hp
      refine ⟨_, rfl, q lr fs H3 hp nlr ?_ P3 Lr⟩
      exact ((g02.up.trans (g3.mono (S' := [lr, pn]) (by simp)))).dropN nlr
/-! ### _law_t2_next(place, side) -/
abbrev sNext : Stmt := top 25
theorem scNext : FnScope ["_law_place", "_law_side"] ["_law_place", "_law_side"] (defScope sNext) := ⟨rfl, rfl, rfl, by decide +kernel, rfl, by decide +kernel, by decide +kernel⟩
def spNext (K : PySem.W.Frag) (T : Tb) : Sp := fun vs H Q _ => ∃ (p : Pl) (x : V) (i : Nat), vs = [x, .int i] ∧ Dat K H (pd p) x ∧ i < 4 ∧ ∀ v H', Go T [] H H' → Dat K H' (pd (nb p i)) v → Q v H'
theorem ok_next (T : Tb) (F : TopF K mg "_law_t2_next" sNext ["_law_place", "_law_side"] f fd) : FnOk P w K mg base CX0 1 f fd ["_law_place", "_law_side"] (spNext K T) := by
  refine F.fn.ok scNext (fun vs H Q E h => ?_) (fun cdv A outer s H vs Q E hr h => ?_)
  · obtain ⟨_, x, _, rfl, _⟩ := h
    rfl
  · obtain ⟨⟨px, py⟩, x, i, rfl, hx, hi, q⟩ := h
    refine ⟨_, pss_one (ps_ret (pe_tupD T (pa_cons (pe_op op_add (pe_ix ix_DL (pv 0) pe_int (fun _ _ => rfl)) (pe_ix ix_DL (pe_lstD T (pa_cons (pe_un un_neg pe_int) (pa_cons pe_int (pa_cons pe_int (pa_cons pe_int pa_nil))))) (pv 1) (fun _ _ => rfl)))
      (pa_cons (pe_op op_add (pe_ix ix_DL (pv 0) pe_int (fun _ _ => rfl)) (pe_ix ix_DL (pe_lstD T (pa_cons pe_int (pa_cons (pe_un un_neg pe_int) (pa_cons pe_int (pa_cons pe_int pa_nil))))) (pv 1) (fun _ _ => rfl))) pa_nil)))), ?_⟩
    have d0 : ∀ {H : Hp} {a b c d : Int}, DatA K H [.num a, .num b, .num c, .num d] [.int a, .int b, .int c, .int d] := .cons (.num _) (.cons (.num _) (.cons (.num _) (.cons (.num _) .nil)))
    refine ⟨_, rfl, [.num px, .num py], 0, .num px, .inr hx, rfl, rfl, fun v hv => ?_⟩
    obtain rfl := hv.numI
    refine ⟨_, rfl, [.num (-1), .num 0, .num 1, .num 0], d0, sz4, fun p1 H1 n1 g1 L1 => ⟨_, rfl, [.num (-1), .num 0, .num 1, .num 0], i, .num ((nb (px, py) i).1 - px), .inl L1.ls, rfl, ?_, fun v hv => ?_⟩⟩
    · rcases four hi with rfl | rfl | rfl | rfl <;> (show some _ = some _) <;> congr 2 <;> simp [nb] <;> omega
    obtain rfl := hv.numI
    refine ⟨_, _, rfl, rfl, _, rfl, [.num px, .num py], 1, .num py, .inr (g1.dat hx), rfl, rfl, fun v hv => ?_⟩
    obtain rfl := hv.numI
    refine ⟨_, rfl, [.num 0, .num (-1), .num 0, .num 1], d0, sz4, fun p2 H2 n2 g2 L2 => ⟨_, rfl, [.num 0, .num (-1), .num 0, .num 1], i, .num ((nb (px, py) i).2 - py), .inl L2.ls, rfl, ?_, fun v hv => ?_⟩⟩
    · rcases four hi with rfl | rfl | rfl | rfl <;> (show some _ = some _) <;> congr 2 <;> simp [nb] <;> omega
    obtain rfl := hv.numI
    refine ⟨_, _, rfl, rfl, [.num (nb (px, py) i).1, .num (nb (px, py) i).2], .cons ?_ (.cons ?_ .nil), sz2, fun p3 H3 n3 g3 d3 => q _ H3 (g1.trans (g2.trans g3)) d3⟩
    · have : (fun i j : Int => V.int (i + j)) px ((nb (px, py) i).1 - px) = .int (nb (px, py) i).1 := by show V.int _ = _; congr 1; omega
      rw [this]
      exact .num _
    · have : (fun i j : Int => V.int (i + j)) py ((nb (px, py) i).2 - py) = .int (nb (px, py) i).2 := by show V.int _ = _; congr 1; omega
      rw [this]
      exact .num _
end
end TG

/-! The law's defs: datum. -/
namespace TG
open PySem PySem.Spec L2 TGr LamX
open PyProof.Rows hiding St

theorem strOk_of (s : String) : PyData.strOk (Str.ofString s) = true := by
  unfold PyData.strOk
  rw [Str.ofString_eq_toList]
  rw [Array.all_eq_true_iff_forall_mem]
  intro c hc
  obtain ⟨ch, _, rfl⟩ := List.mem_map.mp (List.mem_toArray.mp hc)
  have := ch.valid
  have h2 : ch.toNat < 0x110000 := by
    show ch.val.toNat < 0x110000
    rcases this with h | ⟨_, h⟩
    · exact Nat.lt_trans h (by decide)
    · exact h
  simpa using h2
theorem strOk_app {a b : Str} (ha : PyData.strOk a = true) (hb : PyData.strOk b = true) : PyData.strOk (a ++ b) = true := by
  unfold PyData.strOk at *
  rw [Str.cps_append, Array.all_append, ha, hb]
  rfl
/-- a name of at most k wrappings -/
structure Nm (k : Nat) (d : Dm) : Prop where
  ne : d ≠ .none
  dp : d.depth ≤ k
  cl : d.data.canLay0 = true
  we : d.data.weight ≤ 40 + 4 * k
  is : d.data.intsShort 13 = true
  sh : d.data.showable = true
theorem Nm.up {k j : Nat} {d : Dm} (h : Nm k d) (hk : k ≤ j) : Nm j d := ⟨h.ne, Nat.le_trans h.dp hk, h.cl, by have := h.we; omega, h.is, h.sh⟩
theorem Nm.one {k : Nat} {d : Dm} (h : Nm k d) : Nm (k + 1) (.tup [d]) := by
  have h1 := h.dp
  have h2 := h.we
  refine ⟨fun z => (nomatch z), ?_, ?_, ?_, ?_, ?_⟩
  · simp [NestedKey.depth, NestedKey.depthAll]; omega
  · simp [NestedKey.data, NestedKey.datas, PyData.canLay0, PyData.canLayAll0, h.cl]
  · simp [NestedKey.data, NestedKey.datas, PyData.weight, PyData.weightAll]; omega
  · simp [NestedKey.data, NestedKey.datas, PyData.intsShort, PyData.intsShortAll, h.is]
  · simp [NestedKey.data, NestedKey.datas, PyData.showable, PyData.showableAll, h.sh]
theorem Nm.two {k : Nat} {d : Dm} (h : Nm k d) : Nm (k + 1) (.tup [d, .none]) := by
  have h1 := h.dp
  have h2 := h.we
  refine ⟨fun z => (nomatch z), ?_, ?_, ?_, ?_, ?_⟩
  · simp [NestedKey.depth, NestedKey.depthAll]; omega
  · simp [NestedKey.data, NestedKey.datas, PyData.canLay0, PyData.canLayAll0, h.cl]
  · simp [NestedKey.data, NestedKey.datas, PyData.weight, PyData.weightAll]; omega
  · simp [NestedKey.data, NestedKey.datas, PyData.intsShort, PyData.intsShortAll, h.is]
  · simp [NestedKey.data, NestedKey.datas, PyData.showable, PyData.showableAll, h.sh]
theorem short_int {i : Int} (h0 : 0 ≤ i) (h1 : i ≤ 100000) : (Str.ofString (toString i)).length ≤ 7 ∧ i.natAbs.log2 < 17 := by
  refine ⟨?_, ?_⟩
  · rw [PySem.ofString_length]
    exact PySem.int_text_length_le10 (k := 6) (by decide) (by omega)
  · by_cases c : i.natAbs = 0
    · rw [c]; decide
    · exact (Nat.log2_lt c).mpr (by omega)
theorem Nm.num {i : Int} (h0 : 0 ≤ i) (h1 : i ≤ 100000) : Nm 0 (.num i) := by
  obtain ⟨a, b⟩ := short_int h0 h1
  refine ⟨fun z => (nomatch z), by simp [NestedKey.depth], by simp [NestedKey.data, PyData.canLay0], ?_, ?_, ?_⟩
  · simp only [NestedKey.data, PyData.weight]
    split <;> omega
  · simp only [NestedKey.data, PyData.intsShort, decide_eq_true_eq]
    exact Nat.le_trans a (by decide)
  · simp only [NestedKey.data, PyData.showable, decide_eq_true_eq]
    omega
theorem Nm.gtext {i : Int} (h0 : 0 ≤ i) (h1 : i ≤ 100000) : Nm 0 (.text ("g" ++ Str.ofString (toString i))) ∧ PyData.strOk ("g" ++ Str.ofString (toString i)) = true := by
  obtain ⟨a, b⟩ := short_int h0 h1
  have ok : PyData.strOk ("g" ++ Str.ofString (toString i)) = true := strOk_app (strOk_of _) (strOk_of _)
  refine ⟨⟨fun z => (nomatch z), by simp [NestedKey.depth], by simpa [NestedKey.data, PyData.canLay0] using ok, ?_, by simp [NestedKey.data, PyData.intsShort], by simp [NestedKey.data, PyData.showable]⟩, ok⟩
  simp only [NestedKey.data, PyData.weight]
  have e1 : (("g" : Str) ++ Str.ofString (toString i)).length = ("g" : Str).length + (Str.ofString (toString i)).length := Str.length_append _ _
  have e2 : ("g" : Str).length = 1 := by decide
  have e3 : (("g" : Str) ++ Str.ofString (toString i)).cps.size = (("g" : Str) ++ Str.ofString (toString i)).length := rfl
  omega
theorem Nm.shw {k : Nat} {d : Dm} (h : Nm k d) (hk : k ≤ 50) : Shw d := by
  refine ⟨h.sh, ?_, Nat.le_trans h.dp (by omega)⟩
  have hl : PyData.layable0 d.data = true := by
    unfold PyData.layable0
    simp only [Bool.and_eq_true, decide_eq_true_eq]
    refine ⟨⟨h.cl, ?_⟩, ?_⟩
    · rw [data_depth]; have := h.dp; omega
    · have := h.we
      omega
  exact Nat.le_trans (PyProof.Rows.shown_le13 hl h.is) (by decide)
section
variable {P : Program} {w : World} {K : PySem.W.Frag} {mg : Str → Option Value} {base : Heap} {f fD fK : Addr} {fd fdD fdK : FuncData}
abbrev sDat : Stmt := top 26
theorem scDat : FnScope ["_law_pen_here", "_law_serial", "_law_found", "_law_lap"] ["_law_pen_here", "_law_serial"] (defScope sDat) := ⟨rfl, rfl, rfl, by decide +kernel, rfl, by decide +kernel, by decide +kernel⟩
def spDat (K : PySem.W.Frag) (T : Tb) : Sp := fun vs H Q _ => ∃ (pn cl : Addr) (m : Nat) (i : Int), vs = [.ref pn, .int i] ∧ PenB H pn cl m ∧ 0 ≤ i ∧ i ≤ 100000 ∧ m + 20 ≤ 1000000000 ∧ ∀ d v H', Nm 6 d → Go T [pn] H H' → PenB H' pn cl (m + 20) → Dat K H' d v → Q v H'
theorem ok_dat (T : Tb) (F : TopF K mg "_law_t2_datum" sDat ["_law_pen_here", "_law_serial"] f fd) (B : Blt mg) (FD : TopF K mg "_law_draw" sDraw ["_law_pen_here", "_law_many"] fD fdD) (FK : TopF K mg "_law_pick" sPick ["_law_pen_here", "_law_some"] fK fdK) :
    FnOk P w K mg base CX0 3 f fd ["_law_pen_here", "_law_serial"] (spDat K T) := by
  have GD : FnOk P w K mg base CX0 1 fD fdD ["_law_pen_here", "_law_many"] (spDraw T) := ok_draw T FD B
  have GK : FnOk P w K mg base CX0 2 fK fdK ["_law_pen_here", "_law_some"] (spPick K T) := ok_pick T FK B FD
  refine F.fn.ok scDat (fun vs H Q E h => ?_) (fun cdv A outer s H vs Q E hr h => ?_)
  · obtain ⟨pn, _, _, i, rfl, _⟩ := h
    rfl
  · obtain ⟨pn, cl, m, i, rfl, hP, h0, h1, hm, q⟩ := h
    refine ⟨_, pss_cons (ps_set (i := 2) scDat.nd rfl (.inl rfl) (pe_call GK hr (by rfl) FK.mg FK.fn.kp FK.b .nil pass0 (pa_cons (pv 0) (pa_cons (pe_lstD T (pa_cons (pv 1) (pa_cons (pe_op op_add_str pe_str (pe_callTy call_str_int (by rfl) B.str (by decide +kernel) (pa_cons (pv 1) pa_nil))) (pa_cons (pe_op op_add_str pe_str (pe_callTy call_str_int (by rfl) B.str (by decide +kernel) (pa_cons (pv 1) pa_nil))) pa_nil)))) pa_nil))))
      (pss_cons (ps_for PassesOwn.never rfl (pi_range1 rfl B.range (pa_cons (pe_call GK hr (by rfl) FK.mg FK.fn.kp FK.b .nil pass0 (pa_cons (pv 0) (pa_cons (pe_lstD T (pa_cons pe_int (pa_cons pe_int (pa_cons pe_int (pa_cons pe_int (pa_cons pe_int (pa_cons (pe_call GD (hr.mono (by decide)) (by rfl) FD.mg FD.fn.kp FD.b .nil pass0 (pa_cons (pv 0) (pa_cons pe_int pa_nil))) pa_nil))))))) pa_nil))) pa_nil)) (pg_name (i := 3) scDat.nd rfl (.inl rfl))
        (pss_one (ps_set (i := 2) scDat.nd rfl (.inl rfl) (pe_ifExp (PW.pt (pw_or (pt_cmpR op_eq (pe_call GD (hr.mono (by decide)) (by rfl) FD.mg FD.fn.kp FD.b .nil pass0 (pa_cons (pv 0) (pa_cons pe_int pa_nil))) pe_int (nomark _)) (pw_or1 (pt_cmpR op_gt (pv 3) pe_int (nomark _)))))
          (pe_tupD T (pa_cons (pv 2) pa_nil)) (pe_tupD T (pa_cons (pv 2) (pa_cons pe_non pa_nil)))))))
      (pss_one (ps_ret (pv 2)))), ?_⟩
    obtain ⟨nt, ot⟩ := Nm.gtext h0 h1
    obtain ⟨s1, s2⟩ := short_int h0 h1
    have hz : ("g" : Str).length + (Str.ofString (toString i)).length ≤ sizeLine := by
      have e2 : ("g" : Str).length = 1 := by decide
      exact Nat.le_of_lt (lsz (by omega))
    refine ⟨_, rfl, _, rfl, _, rfl, i, rfl, by omega, _, _, rfl, rfl, hz, _, rfl, i, rfl, by omega, _, _, rfl, rfl, hz, [.num i, .text _, .text _], .cons (.num _) (.cons (.text _ ot) (.cons (.text _ ot) .nil)), sz3, fun p1 H1 n1 g1 L1 => ?_⟩
    refine ⟨pn, cl, m, [.num i, .text _, .text _], .ref p1, rfl, hP.up g1, .inl L1.ls, by simp, by simp, by omega, fun d0 v0 H2 hd0 g2 P2 hv0 => ?_⟩
    have nm0 : Nm 0 d0 := by
      simp only [List.mem_cons, List.not_mem_nil, or_false] at hd0
      rcases hd0 with rfl | rfl | rfl
      · exact .num h0 h1
      · exact nt
      · exact nt
    refine ⟨_, rfl, _, rfl, pn, cl, m + 1, 7, rfl, P2, by decide, by decide, by omega, fun r H3 hr3 g3 P3 => ?_⟩
    refine ⟨[.num 0, .num 0, .num 0, .num 1, .num 2, .num r], .cons (.num _) (.cons (.num _) (.cons (.num _) (.cons (.num _) (.cons (.num _) (.cons (.num _) .nil))))), (show 6 ≤ sizeLine by decide), fun p4 H4 n4 g4 L4 => ?_⟩
    refine ⟨pn, cl, m + 2, _, .ref p4, rfl, P3.up g4, .inl L4.ls, by simp, by simp, by omega, fun d5 v5 H5 hd5 g5 P5 hv5 => ?_⟩
    obtain ⟨lp, rfl, hlp⟩ : ∃ lp : Nat, d5 = .num lp ∧ lp ≤ 6 := by
      simp only [List.mem_cons, List.not_mem_nil, or_false] at hd5
      rcases hd5 with rfl | rfl | rfl | rfl | rfl | rfl
      · exact ⟨0, rfl, by decide⟩
      · exact ⟨0, rfl, by decide⟩
      · exact ⟨0, rfl, by decide⟩
      · exact ⟨1, rfl, by decide⟩
      · exact ⟨2, rfl, by decide⟩
      · exact ⟨r, rfl, by omega⟩
    obtain rfl := hv5.numI
    have g25 : Go T [pn] H2 H5 := (g3.trans g4.up).trans g5
    have g05 : Go T [pn] H H5 := (g1.up.trans g2).trans g25
    refine ⟨lp, rfl, by omega, by omega, ?_⟩
    refine for_range (n := lp) (fun j σ H6 => ∃ d v o, σ = [some (.ref pn), some (.int i), some v, o] ∧ Go T [pn] H H6 ∧ PenB H6 pn cl (m + 3 + j) ∧ Nm j d ∧ Dat K H6 d v) ⟨d0, v0, _, rfl, g05, P5, nm0, g25.dat hv0⟩ ?_ ?_
    · rintro j σ H6 hj ⟨d, v, o, rfl, g6, P6, hn, hv⟩
      refine ⟨_, rfl, pn, cl, m + 3 + j, 2, rfl, P6, by decide, by decide, by omega, fun r2 H7 hr7 g7 P7 => ⟨rfl, _, rfl, ?_⟩⟩
      by_cases c : V.int r2 = V.int 0
      · refine iteTp c ?_
        refine iteT ⟨_, rfl, [d], .cons (g7.dat hv) .nil, sz1, fun p8 H8 n8 g8 d8 => ⟨_, _, _, rfl, (g6.trans g7).trans g8.up, P7.up g8, hn.one, d8⟩⟩
      · refine iteFp c ⟨_, rfl, _, _, rfl, rfl, _, rfl, ?_⟩
        by_cases c2 : (0 : Int) < 0 + (j : Int)
        · rw [decide_eq_true c2]
          refine iteT ⟨_, rfl, [d], .cons (g7.dat hv) .nil, sz1, fun p8 H8 n8 g8 d8 => ⟨_, _, _, rfl, (g6.trans g7).trans g8.up, P7.up g8, hn.one, d8⟩⟩
        · rw [decide_eq_false c2]
          refine iteF ⟨_, rfl, [d, .none], .cons (g7.dat hv) (.cons .non .nil), sz2, fun p8 H8 n8 g8 d8 => ⟨_, _, _, rfl, (g6.trans g7).trans g8.up, P7.up g8, hn.two, d8⟩⟩
    · rintro σ H6 ⟨d, v, o, rfl, g6, P6, hn, hv⟩
      exact ⟨_, rfl, q d v H6 (hn.up hlp) g6 (P6.le (by omega)) hv⟩
end
end TG

/-! The law's defs: count, patch. -/
namespace TG
open PySem PySem.Spec L2 TGr LamX
open PyProof.Rows hiding St
section
variable {X : Cx}
/-- l.count(x): some number -/
def rCntA (K : PySem.W.Frag) : V → List V → Hp → VK → Prop := fun x xs H Q => ∃ (y : V) (d : Dm) (ds : List Dm), xs = [y] ∧ LsD K H ds x ∧ Dat K H d y ∧ (∀ e ∈ ds, e.depth ≤ 60) ∧ d.depth ≤ 60 ∧ ∀ j : Nat, Q (.int (j : Nat)) H
theorem mt_countA (hu : X.A.units + 65 < cLine) : MtR X "list.count" (rCntA X.K) := by
  intro pins s σ H x xs v us Q I rx rxs h
  obtain ⟨y, d0, ds0, rfl, hl, hy, h3, h4, q⟩ := h
  obtain ⟨a, zs, rfl, _, _⟩ := id hl
  have sl := hl.shaped h3
  have sd := shaped_data hy h4
  have hl := hl.dp
  have hy := Dat.dp d0 y hy
  generalize d0.data = d at hy sd
  generalize NestedKey.datas ds0 = ds at hl sl
  cases rx
  cases rxs with
  | cons ry rt =>
    rename_i uy ut
    cases rt
    obtain ⟨bs, r1⟩ := Dp.reads I d y uy hy ry
    have hxs : PyData.canLayAll0 ds = true := SeqAt.canLay_of_shaped sl
    have hroom : X.A.units + 1 + min (PyData.depthAll ds) d.depth < cLine := room_in_shaped sd hu
    cases hl with
    | lst hs ha =>
      obtain ⟨its, rv, ⟨⟨cls, dd, data, sls⟩, n, ho, hc, hdn, hdt⟩, hlen⟩ := I.list hs
      simp only at hc hdt
      subst hc hdt
      obtain ⟨as, h4⟩ := Dp.readsAll I ds _ its ha rv
      refine call_meets PySem.F.slot_list_count ⟨_, ho, rfl⟩ PySem.F.entry_list_count (PySem.F.args_list_count_2 _ _)
        (SeqAt.list_countAt a its.toArray n dd sls uy (fun u => PyData.eqv (SeqAt.readOf s.heap u) d)) ⟨ho, SeqAt.items_eqAt (vs := its.toArray) (show ReadsAll s.heap its.toArray.toList ds as from h4) r1 hxs (SeqAt.canLay_of_shaped sd) hroom, ?_⟩
      exact ⟨.int _, H, I.tok _, ⟨_, rfl⟩, q _⟩
end
theorem Room.u65 {A : Around} {k : Nat} (hr : Room k A) : A.units + 65 < cLine := by have := hr.un; omega
theorem pds60 (ps : List Pl) : ∀ d ∈ ps.map pd, d.depth ≤ 60 := fun d hd => by
  obtain ⟨p, _, rfl⟩ := List.mem_map.mp hd
  exact pd_depth60 p
theorem max_x : ∀ (c : Pl) (cs : List Pl), ∃ p ∈ c :: cs, ∀ q ∈ c :: cs, q.1 ≤ p.1
  | c, [] => ⟨c, by simp, fun q hq => by rw [List.mem_singleton.mp hq]; exact Int.le_refl _⟩
  | c, d :: cs => by
    obtain ⟨p, hp, h⟩ := max_x d cs
    by_cases z : c.1 ≤ p.1
    · exact ⟨p, List.mem_cons_of_mem _ hp, fun q hq => by
        rcases List.mem_cons.mp hq with e | e
        · rw [e]; exact z
        · exact h q e⟩
    · refine ⟨c, List.mem_cons_self, fun q hq => ?_⟩
      rcases List.mem_cons.mp hq with e | e
      · rw [e]; exact Int.le_refl _
      · exact Int.le_trans (h q e) (by omega)
section
variable {P : Program} {w : World} {K : PySem.W.Frag} {mg : Str → Option Value} {base : Heap} {f fD fK fN : Addr} {fd fdD fdK fdN : FuncData}
abbrev sPat : Stmt := top 27
theorem scPat : FnScope ["_law_pen_here", "_law_many", "_law_cells", "_law_lap", "_law_free", "_law_cell", "_law_side", "_law_one", "_law_tight"] ["_law_pen_here", "_law_many"] (defScope sPat) := ⟨rfl, rfl, rfl, by decide +kernel, rfl, by decide +kernel, by decide +kernel⟩
def spPat (K : PySem.W.Frag) (T : Tb) : Sp := fun vs H Q _ => ∃ (pn cl : Addr) (m : Nat) (k : Nat), vs = [.ref pn, .int k] ∧ PenB H pn cl m ∧ 0 < k ∧ k ≤ 10 ∧ m + 50 ≤ 1000000000 ∧ ∀ l (cs : List Pl) H', Nw H l → cs ≠ [] → cs.length ≤ 10 → Go T [pn] H H' → PenB H' pn cl (m + 50) → LstW K H' l (cs.map pd) → Q (.ref l) H'
theorem ok_pat (T : Tb) (F : TopF K mg "_law_t2_patch" sPat ["_law_pen_here", "_law_many"] f fd) (B : Blt mg) (FD : TopF K mg "_law_draw" sDraw ["_law_pen_here", "_law_many"] fD fdD) (FK : TopF K mg "_law_pick" sPick ["_law_pen_here", "_law_some"] fK fdK) (FN : TopF K mg "_law_t2_next" sNext ["_law_place", "_law_side"] fN fdN) :
    FnOk P w K mg base CX0 3 f fd ["_law_pen_here", "_law_many"] (spPat K T) := by
  have GD : FnOk P w K mg base CX0 1 fD fdD ["_law_pen_here", "_law_many"] (spDraw T) := ok_draw T FD B
  have GK : FnOk P w K mg base CX0 2 fK fdK ["_law_pen_here", "_law_some"] (spPick K T) := ok_pick T FK B FD
  have GN : FnOk P w K mg base CX0 1 fN fdN ["_law_place", "_law_side"] (spNext K T) := ok_next T FN
  refine F.fn.ok scPat (fun vs H Q E h => ?_) (fun cdv A outer s H vs Q E hr h => ?_)
  · obtain ⟨pn, _, _, k, rfl, _⟩ := h
    rfl
  · obtain ⟨pn, cl, m, k, rfl, hP, h0, h1, hm, q⟩ := h
    refine ⟨_, pss_cons (ps_set (i := 2) scPat.nd rfl (.inl rfl) (pe_lstD T (pa_cons (pe_tupD T (pa_cons pe_int (pa_cons pe_int pa_nil))) pa_nil)))
      (pss_cons (ps_for PassesOwn.never rfl (pi_range1 rfl B.range (pa_cons (pe_op op_sub (pv 1) pe_int) pa_nil)) (pg_name (i := 3) scPat.nd rfl (.inl rfl))
        (pss_cons (ps_set (i := 4) scPat.nd rfl (.inr rfl) (pe_lstD T pa_nil))
        (pss_cons (ps_for PassesOwn.never rfl (pi_list (pv 2)) (pg_name (i := 5) scPat.nd rfl (.inl rfl))
          (pss_one (ps_for PassesOwn.never rfl (pi_range1 rfl B.range (pa_cons pe_int pa_nil)) (pg_name (i := 6) scPat.nd rfl (.inl rfl))
            (pss_cons (ps_set (i := 7) scPat.nd rfl (.inl rfl) (pe_call GN (hr.mono (by decide)) (by rfl) FN.mg FN.fn.kp FN.b .nil pass0 (pa_cons (pv 5) (pa_cons (pv 6) pa_nil))))
            (pss_one (ps_if (pt_cmpR (op_notInT (Room.u65 hr)) (pv 7) (pv 2) rfl) (pss_one (ps_expr (pe_bm PySem.F.plainAttrs_list PySem.F.slot_list_append PySem.F.type_list_append (mt_appD T) (pv 4) (pa_cons (pv 7) pa_nil)))) pss_nil))))))
        (pss_cons (ps_setLc (i := 8) (own := [("_law_one", 7)]) (g := gName 7) (tt := tTest (tOp (rI0 fun i j => .bl (decide (j < i))) (tBM K "list" (rCntA K) (tVar 4) (tCons (tVar 7) tNil)) (tC (.int 1)))) (te := tVar 7) (by rfl) scPat.nd rfl rfl (sw_true rfl rfl rfl (by decide +kernel)) (pi_list (pv 4))
          (blkOk_by (own := [("_law_one", 7)]) (N := ["_law_pen_here", "_law_many", "_law_cells", "_law_lap", "_law_free", "_law_cell", "_law_side", "_law_one", "_law_tight"]) (sc := defScope sPat) (by decide +kernel)) (fun _ _ _ _ _ => pg_name (i := 7) scPat.nd rfl (Or.inl rfl))
          (fun _ _ _ _ _ => pts_one (pt_cmpR op_gt (pe_bm PySem.F.plainAttrs_list PySem.F.slot_list_count PySem.F.type_list_count (mt_countA (Room.u65 hr)) (pv 4) (pa_cons (pv 7) pa_nil)) pe_int (nomark _))) (fun _ _ _ _ _ => pv 7))
        (pss_cons (ps_if (PW.pt (pw_and (pt_cmpR (op_neLs hr.units) (pv 8) (pe_lstD T pa_nil) (nomark _)) (pw_and1 (pt_cmpR op_gt (pe_call GD (hr.mono (by decide)) (by rfl) FD.mg FD.fn.kp FD.b .nil pass0 (pa_cons (pv 0) (pa_cons pe_int pa_nil))) pe_int (nomark _)))))
          (pss_one (ps_set (i := 4) scPat.nd rfl (.inr rfl) (pv 8))) pss_nil)
        (pss_one (ps_expr (pe_bm PySem.F.plainAttrs_list PySem.F.slot_list_append PySem.F.type_list_append (mt_appD T) (pv 2) (pa_cons (pe_call GK hr (by rfl) FK.mg FK.fn.kp FK.b .nil pass0 (pa_cons (pv 0) (pa_cons (pv 4) pa_nil))) pa_nil)))))))))
      (pss_one (ps_ret (pv 2)))), ?_⟩
    refine ⟨[.num 0, .num 0], .cons (.num _) (.cons (.num _) .nil), sz2, fun p1 H1 n1 g1 d1 => ⟨[pd (0, 0)], .cons d1 .nil, sz1, fun l H2 nl g2 L2 => ?_⟩⟩
    have g02 : Go T [] H H2 := g1.trans g2
    have nlH : Nw H l := g1.nw (.none nl) (by simp)
    have P2 := hP.up g02
    have cnl : cl ≠ l := (hP.up g1).cne nl
    refine ⟨_, rfl, _, _, rfl, rfl, (k : Int) - 1, rfl, by omega, by omega, ?_⟩
    refine for_range (n := ((k : Int) - 1).toNat) (fun i σ H3 => ∃ (cs : List Pl) (o3 o4 o5 o6 o7 o8 : Option V), σ = [some (.ref pn), some (.int k), some (.ref l), o3, o4, o5, o6, o7, o8] ∧ Go T [pn, l] H2 H3 ∧ PenB H3 pn cl (m + 2 * i) ∧ LstW K H3 l (cs.map pd) ∧ cs.length = i + 1)
      ⟨[(0, 0)], _, _, _, _, _, _, rfl, .refl, P2, L2, rfl⟩ ?_ ?_
    · rintro i σ H3 hi ⟨cs, o3, o4, o5, o6, o7, o8, rfl, g3, P3, L3, hcl⟩
      have plr : pn ≠ l := (L3.pne P3).symm
      refine ⟨[], .nil, sz0, fun fr H4 nf g4 F4 => ?_⟩
      have L4 := L3.go g4 (by simp)
      have P4 := P3.up g4
      have lfr : l ≠ fr := L3.ne nf
      refine ⟨_, rfl, l, rfl, (let ⟨ys, h, _⟩ := L4.ex; ⟨ys, .inl (.inl h)⟩), for_it (walk_L (ds := cs.map pd)) (fun j σ H5 => ∃ (fs : List Pl) (o5 o6 o7 : Option V), σ = [some (.ref pn), some (.int k), some (.ref l), some (.int (0 + i)), some (.ref fr), o5, o6, o7, o8] ∧ Go T [fr] H4 H5 ∧ LstW K H5 fr (fs.map pd) ∧ (∀ f ∈ fs, f ∉ cs) ∧ (∀ c ∈ cs.take j, ∀ t, t < 4 → nb c t ∉ cs → nb c t ∈ fs) ∧ fs.length ≤ 4 * j)
        ⟨[], _, _, _, rfl, .refl, F4, fun _ z => (nomatch z), fun _ z => by simp at z, by simp⟩ (fun j σ H5 _ ⟨_, _, _, _, _, g, _⟩ => (L4.go g fun z => lfr (List.mem_singleton.mp z)).ls) ?_ ?_⟩
      · rintro j x σ H5 H5' hj ⟨fs, o5, o6, o7, rfl, g5, F5, hf1, hf2, hf3⟩ ⟨rfl, d, hd, hx⟩
        obtain ⟨c, hc, rfl⟩ : ∃ c, cs[j]? = some c ∧ pd c = d := by
          rw [List.getElem?_map] at hd
          obtain ⟨r, h1, h2⟩ := Option.map_eq_some_iff.mp hd
          exact ⟨r, h1, h2⟩
        have hj' : j < cs.length := by simpa using hj
        refine ⟨4, rfl, by decide, by decide, for_range (n := 4) (fun t σ H6 => ∃ (fs' : List Pl) (o6 o7 : Option V), σ = [some (.ref pn), some (.int k), some (.ref l), some (.int (0 + i)), some (.ref fr), some x, o6, o7, o8] ∧ Go T [fr] H4 H6 ∧ Dat K H6 (pd c) x ∧ LstW K H6 fr (fs'.map pd) ∧ (∀ f ∈ fs', f ∉ cs) ∧ (∀ f ∈ fs, f ∈ fs') ∧ (∀ t', t' < t → nb c t' ∉ cs → nb c t' ∈ fs') ∧ fs'.length ≤ fs.length + t)
          ⟨fs, _, _, rfl, g5, hx, F5, hf1, fun _ z => z, fun _ z => absurd z (Nat.not_lt_zero _), Nat.le_refl _⟩ ?_ ?_⟩
        · rintro t σ H6 ht ⟨fs', o6, o7, rfl, g6, hx6, F6, e1, e2, e3, e4⟩
          refine ⟨_, rfl, _, rfl, c, x, t, by rw [Int.zero_add]; rfl, hx6, ht, fun v H7 g7 hv => ?_⟩
          have L7 := (L4.go g6 fun z => lfr (List.mem_singleton.mp z)).go g7 (by simp)
          have F7 := F6.go g7 (by simp)
          have g47 : Go T [fr] H4 H7 := g6.trans g7.up
          refine ⟨_, rfl, _, rfl, pd (nb c t), cs.map pd, hv, L7.ls, pd_depth60 _, pds60 _, _, rfl, ?_⟩
          by_cases cm : pd (nb c t) ∈ cs.map pd
          · have cm' : nb c t ∈ cs := by
              obtain ⟨r, h1, h2⟩ := List.mem_map.mp cm
              rw [← pd_inj h2]
              exact h1
            rw [decide_eq_true cm]
            refine iteF ⟨fs', _, _, rfl, g47, g7.dat hx6, F7, e1, e2, fun t' ht' hn => ?_, by omega⟩
            rcases Nat.lt_succ_iff_lt_or_eq.mp ht' with z | z
            · exact e3 t' z hn
            · rw [z] at hn; exact absurd cm' hn
          · have cm' : nb c t ∉ cs := fun z => cm (List.mem_map.mpr ⟨_, z, rfl⟩)
            rw [decide_eq_false cm]
            obtain ⟨ys, hfr, _⟩ := id F7.ex
            refine iteT ⟨_, rfl, .inl ⟨rfl, _, .inl (.inl hfr)⟩, _, rfl, fr, _, pd (nb c t), v, rfl, rfl, F7, hv, lsz (by rw [List.length_map]; omega), fun H8 g8 F8 => ⟨fs' ++ [nb c t], _, _, rfl, g47.trans g8, g8.dat (g7.dat hx6), by rw [List.map_append]; exact F8, fun f hf => ?_, fun f hf => List.mem_append_left _ (e2 f hf), fun t' ht' hn => ?_, by rw [List.length_append, List.length_singleton]; omega⟩⟩
            · rcases List.mem_append.mp hf with z | z
              · exact e1 f z
              · rw [List.mem_singleton.mp z]; exact cm'
            · rcases Nat.lt_succ_iff_lt_or_eq.mp ht' with z | z
              · exact List.mem_append_left _ (e3 t' z hn)
              · rw [z]; simp
        · rintro σ H6 ⟨fs', o6, o7, rfl, g6, hx6, F6, e1, e2, e3, e4⟩
          refine ⟨fs', _, _, _, rfl, g6, F6, e1, fun c' hc' t ht hn => ?_, by omega⟩
          rw [List.take_succ, hc] at hc'
          rcases List.mem_append.mp hc' with z | z
          · exact e2 _ (hf2 c' z t ht hn)
          · rw [List.mem_singleton.mp z] at hn ⊢
            exact e3 t ht hn
      · rintro σ H5 ⟨fs, o5, o6, o7, rfl, g5, F5, hf1, hf2, hf3⟩
        rw [List.length_map] at hf2 hf3
        rw [List.take_length] at hf2
        have fne : fs ≠ [] := fun z => by
          cases cs with
          | nil => simp at hcl
          | cons c0 cs0 =>
            obtain ⟨p, hp, hmax⟩ := max_x c0 cs0
            have hn : nb p 2 ∉ c0 :: cs0 := fun hz => by
              have := hmax _ hz
              simp [nb] at this
              omega
            have := hf2 p hp 2 (by decide) hn
            rw [z] at this
            cases this
        have P5 : PenB H5 pn cl (m + 2 * i) := P4.go g5 (fun z => P3.pne nf (List.mem_singleton.mp z)) fun z => P3.cne nf (List.mem_singleton.mp z)
        have L5 := L4.go g5 fun z => lfr (List.mem_singleton.mp z)
        refine ⟨_, rfl, fr, rfl, (let ⟨ys, h, _⟩ := F5.ex; ⟨ys, .inl (.inl h)⟩), fun D nD => ?_⟩
        have frD : fr ≠ D := F5.ne nD
        refine lc_D (K := K) T (walk_L (ds := fs.map pd)) nD (fun j ds H6 => Go T [D] H5 H6 ∧ ∃ ts : List Pl, ds = ts.map pd ∧ (∀ t ∈ ts, t ∈ fs) ∧ ts.length ≤ j) (fun H6 g _ => ⟨g.up, [], rfl, fun _ z => (nomatch z), Nat.le_refl _⟩) (fun j ds H6 _ ⟨g, _⟩ => (F5.go g fun z => frD (List.mem_singleton.mp z)).ls) ?_ ?_
        · rintro j ds x H6 H6' hj ⟨g6, ts, rfl, ht1, ht2⟩ D6 ⟨rfl, d, hd, hx⟩
          obtain ⟨f, hf, rfl⟩ : ∃ f, fs[j]? = some f ∧ pd f = d := by
            rw [List.getElem?_map] at hd
            obtain ⟨r, h1, h2⟩ := Option.map_eq_some_iff.mp hd
            exact ⟨r, h1, h2⟩
          have F6 := F5.go g6 fun z => frD (List.mem_singleton.mp z)
          obtain ⟨ys, hfr, _⟩ := id F6.ex
          have hj' : j < fs.length := by simpa using hj
          refine ⟨rfl, _, rfl, .inl ⟨rfl, _, .inl (.inl hfr)⟩, _, rfl, x, pd f, fs.map pd, rfl, F6.ls, hx, pds60 _, pd_depth60 _, fun cnt => ?_⟩
          refine ⟨_, _, rfl, rfl, _, rfl, ?_⟩
          by_cases c1 : (1 : Int) < (cnt : Int)
          · refine iteTp c1 ⟨_, rfl, lcN T D6 hx ?_ fun H7 g7 L7 => ⟨g6.trans g7, ts ++ [f], by rw [List.map_append]; rfl, fun t ht => ?_, by rw [List.length_append, List.length_singleton]; omega⟩⟩
            · rw [List.length_map]
              exact lsz (by omega)
            · rcases List.mem_append.mp ht with z | z
              · exact ht1 t z
              · rw [List.mem_singleton.mp z]; exact List.mem_of_getElem? hf
          · exact iteFp c1 ⟨_, ⟨g6, ts, rfl, ht1, by omega⟩, D6⟩
        · rintro ds H6 ⟨g6, ts, rfl, ht1, ht2⟩ D6
          rw [List.length_map] at ht2
          have F6 := F5.go g6 fun z => frD (List.mem_singleton.mp z)
          have P6 := P5.goN g6 nD
          have L6 := L5.go g6 fun z => L5.ne nD (List.mem_singleton.mp z)
          unfold gName
          dsimp only
          refine seq_key2 (s1 := tIfS _ _ _) (fun σ1 H7 => ∃ (fr' : Addr) (fs' : List Pl) (o8 : Option V), σ1 = [some (.ref pn), some (.int k), some (.ref l), some (.int (0 + i)), some (.ref fr'), o5, o6, o7, o8] ∧ fs' ≠ [] ∧ fs'.length ≤ 40 ∧ Go T [pn] H6 H7 ∧ PenB H7 pn cl (m + 2 * i + 1) ∧ LstW K H7 fr' (fs'.map pd)) ?_ fun key => ?_
          · rintro _ H7 ⟨fr', fs', o8, rfl, fne', flen, g7, P7, F7⟩
            have L7 := L6.goP g7 P6
            obtain ⟨ys, hly, _⟩ := id L7.ex
            refine ⟨_, rfl, .inl ⟨rfl, _, .inl (.inl hly)⟩, _, rfl, _, rfl, pn, cl, m + 2 * i + 1, fs'.map pd, .ref fr', rfl, P7, .inl F7.ls, by simpa using fne', by rw [List.length_map]; omega, by omega, fun d v H8 hd g8 P8 hv => ?_⟩
            obtain ⟨r, hr', rfl⟩ := List.mem_map.mp hd
            have L8 := L7.goP g8 P7
            refine ⟨l, _, pd r, v, rfl, rfl, L8, hv, lsz (by rw [List.length_map]; omega), fun H9 g9 L9 => ⟨cs ++ [r], _, _, _, _, _, _, rfl, ?_, ?_, by rw [List.map_append]; exact L9, by rw [List.length_append, List.length_singleton, hcl]⟩⟩
            · have h34 : Go T [pn, l] H3 H6 := ((g4.up.trans g5).drop nf).up.trans ((g6.drop nD).up)
              exact ((g3.trans h34).trans ((g7.trans g8).mono (by simp))).trans (g9.mono (by simp))
            · have := P8.go g9 (fun z => plr (List.mem_singleton.mp z)) fun z => cnl (List.mem_singleton.mp z)
              exact this.le (by omega)
          · have d60 := pds60 ts
            refine ⟨_, rfl, [], .nil, sz0, fun pe H7 n7 g7 E7 => ⟨ts.map pd, [], (D6.go g7 (by simp)).ls, E7.ls, d60, fun _ z => (nomatch z), _, rfl, ?_⟩⟩
            have P7 := P6.up g7
            by_cases c : ts.map pd = []
            · rw [decide_eq_true c]
              refine iteF (key _ _ ⟨fr, fs, _, rfl, fne, by omega, g7.up, P7.le (by omega), F6.go g7 (by simp)⟩)
            · rw [decide_eq_false c]
              refine iteT ⟨_, rfl, pn, cl, m + 2 * i, 3, rfl, P7, by decide, by decide, by omega, fun r H8 hr8 g8 P8 => ⟨_, _, rfl, rfl, _, rfl, ?_⟩⟩
              by_cases c2 : (0 : Int) < (r : Int)
              · refine iteTp c2 ⟨_, rfl, key _ _ ⟨D, ts, _, rfl, fun z => c (by rw [z]; rfl), by omega, g7.up.trans g8, P8, (D6.go g7 (by simp)).goP g8 P7⟩⟩
              · exact iteFp c2 (key _ _ ⟨fr, fs, _, rfl, fne, by omega, g7.up.trans g8, P8, (F6.go g7 (by simp)).goP g8 P7⟩)
    · rintro σ H3 ⟨cs, o3, o4, o5, o6, o7, o8, rfl, g3, P3, L3, hcl⟩
      refine ⟨_, rfl, q l cs H3 nlH ?_ (by omega) ?_ (P3.le (by omega)) L3⟩
      · intro z
        rw [z] at hcl
        cases hcl
      · exact (g02.up.trans (g3.mono (S' := [l, pn]) (by simp))).dropN nlH
end
end TG

/-! The law's defs: outer_glue, late_rival, edge_glues. -/
namespace TG
open PySem PySem.Spec L2 TGr LamX
open PyProof.Rows hiding St

theorem glue_mk {l : Dm} {s : Int} (hl : l.depth ≤ 6) (h0 : 0 ≤ s) (h2 : s ≤ 2) : Glue (.tup [l, .num s]) := ⟨l, s, rfl, hl, h0, h2⟩
theorem num_depth (i : Int) : NestedKey.depth (.num i) = 0 := by simp [NestedKey.depth]
theorem none_depth : NestedKey.depth .none = 0 := by simp [NestedKey.depth]
structure KindOk (ks : List Dm) : Prop where
  len : ks.length = 4
  glu : ∀ g ∈ ks, Glue g
theorem glue0 : Glue (.tup [.none, .num 0]) := glue_mk (by rw [none_depth]; decide) (by decide) (by decide)
theorem Glue.d60 {g : Dm} (h : Glue g) : g.depth ≤ 60 := Nat.le_trans h.depth (by decide)
/-- the key of a place and a side -/
def gk (p : Pl) (i : Nat) : Dm := .tup [pd p, .num i]
theorem gk_depth (p : Pl) (i : Nat) : (gk p i).depth ≤ 8 := by
  unfold gk
  rw [depth_pair, num_depth]
  show 1 + max (NestedKey.depth (.tup [.num p.1, .num p.2])) (max 0 0) ≤ 8
  rw [depth_pair, num_depth, num_depth]
  decide
def GlAll (es : Es) : Prop := ∀ k d, look es k = some d → Glue d
theorem GlAll.put {es : Es} (h : GlAll es) {k d : Dm} (hd : Glue d) : GlAll (putD es k d) := fun j e he => by
  rw [look_putD] at he
  by_cases c : j = k
  · rw [if_pos c] at he; cases he; exact hd
  · rw [if_neg c] at he; exact h j e he
section
variable {P : Program} {w : World} {K : PySem.W.Frag} {mg : Str → Option Value} {base : Heap} {f fD fK fN fA : Addr} {fd fdD fdK fdN fdA : FuncData}
/-! ### outer_glue -/
abbrev sOut : Stmt := top 29
theorem scOut : FnScope ["_law_pen_here", "_law_mixture", "_law_way"] ["_law_pen_here", "_law_mixture"] (defScope sOut) := ⟨rfl, rfl, rfl, by decide +kernel, rfl, by decide +kernel, by decide +kernel⟩
def spOut (K : PySem.W.Frag) (T : Tb) : Sp := fun vs H Q _ => ∃ (pn cl : Addr) (m : Nat) (mx : Int), vs = [.ref pn, .int mx] ∧ PenB H pn cl m ∧ m + 3 ≤ 1000000000 ∧ ∀ g v H', Glue g → Go T [pn] H H' → PenB H' pn cl (m + 3) → Dat K H' g v → Q v H'
theorem ok_out (T : Tb) (F : TopF K mg "_law_t2_outer_glue" sOut ["_law_pen_here", "_law_mixture"] f fd) (B : Blt mg) (FD : TopF K mg "_law_draw" sDraw ["_law_pen_here", "_law_many"] fD fdD) :
    FnOk P w K mg base CX0 2 f fd ["_law_pen_here", "_law_mixture"] (spOut K T) := by
  have GD : FnOk P w K mg base CX0 1 fD fdD ["_law_pen_here", "_law_many"] (spDraw T) := ok_draw T FD B
  refine F.fn.ok scOut (fun vs H Q E h => ?_) (fun cdv A outer s H vs Q E hr h => ?_)
  · obtain ⟨pn, _, _, k, rfl, _⟩ := h
    rfl
  · obtain ⟨pn, cl, m, mx, rfl, hP, hm, q⟩ := h
    refine ⟨_, pss_cons (ps_set (i := 2) scOut.nd rfl (.inl rfl) (pe_call GD hr (by rfl) FD.mg FD.fn.kp FD.b .nil pass0 (pa_cons (pv 0) (pa_cons pe_int pa_nil))))
      (pss_cons (ps_if (PW.pt (pw_and (pt_cmpR op_eq (pv 2) pe_int (nomark _)) (pw_and1 (pt_cmpR op_gt (pv 1) pe_int (nomark _)))))
        (pss_one (ps_ret (pe_tupD T (pa_cons (pe_call GD hr (by rfl) FD.mg FD.fn.kp FD.b .nil pass0 (pa_cons (pv 0) (pa_cons pe_int pa_nil))) (pa_cons (pe_op op_add pe_int (pe_call GD hr (by rfl) FD.mg FD.fn.kp FD.b .nil pass0 (pa_cons (pv 0) (pa_cons pe_int pa_nil)))) pa_nil))))) pss_nil)
      (pss_one (ps_ret (pe_ix ix_DL (pe_lstD T (pa_cons (pe_tupD T (pa_cons pe_non (pa_cons pe_int pa_nil))) (pa_cons (pe_tupD T (pa_cons pe_non (pa_cons pe_int pa_nil))) (pa_cons (pe_tupD T (pa_cons pe_str (pa_cons pe_int pa_nil))) (pa_cons (pe_tupD T (pa_cons pe_int (pa_cons pe_int pa_nil))) pa_nil)))))
        (pe_op op_mod (pe_callTy call_int1 (by rfl) B.int boot_int (pa_cons (pv 2) pa_nil)) pe_int) (fun _ _ => rfl))))), ?_⟩
    refine ⟨_, rfl, pn, cl, m, 8, rfl, hP, by decide, by decide, by omega, fun r H1 hr1 g1 P1 => ?_⟩
    have rest : ∀ H1, Go T [pn] H H1 → PenB H1 pn cl (m + 1) → (tOp (rIxL' K) (tLstD K T (tCons (tTupD K T (tCons (tC .non) (tCons (tC (.int 0)) tNil))) (tCons (tTupD K T (tCons (tC .non) (tCons (tC (.int 0)) tNil))) (tCons (tTupD K T (tCons (tC (.str "x")) (tCons (tC (.int 0)) tNil))) (tCons (tTupD K T (tCons (tC (.int 7)) (tCons (tC (.int 0)) tNil))) tNil)))))
        (tOp (rI (fun _ j => 0 < j) fun i j => .int (i % j)) (tCB (fun xs H Q => (∃ i, xs = [.int i] ∧ Q (.int i) H) ∨ ∃ k, xs = [.bl k] ∧ Q (.int (if k then 1 else 0)) H) (tCons (tVar 2) tNil)) (tC (.int 4)))) [some (.ref pn), some (.int mx), some (.int r)] H1 Q := by
      intro H1 g1 P1
      refine ⟨[.none, .num 0], .cons .non (.cons (.num _) .nil), sz2, fun p1 G1 n1 k1 d1 => ⟨[.none, .num 0], .cons .non (.cons (.num _) .nil), sz2, fun p2 G2 n2 k2 d2 => ⟨[.text "x", .num 0], .cons (.text _ (strOk_of "x")) (.cons (.num _) .nil), sz2, fun p3 G3 n3 k3 d3 => ⟨[.num 7, .num 0], .cons (.num _) (.cons (.num _) .nil), sz2, fun p4 G4 n4 k4 d4 => ?_⟩⟩⟩⟩
      refine ⟨[.tup [.none, .num 0], .tup [.none, .num 0], .tup [.text "x", .num 0], .tup [.num 7, .num 0]], .cons (k4.dat (k3.dat (k2.dat d1))) (.cons (k4.dat (k3.dat d2)) (.cons (k4.dat d3) (.cons d4 .nil))), sz4, fun p5 G5 n5 k5 L5 => ?_⟩
      refine ⟨_, rfl, .inl ⟨_, rfl, _, _, rfl, rfl, (by show (0 : Int) < 4; decide), ?_⟩⟩
      have e0 : 0 ≤ (r : Int) % 4 := Int.emod_nonneg _ (by decide)
      have e4 : (r : Int) % 4 < 4 := Int.emod_lt_of_pos _ (by decide)
      obtain ⟨j, hj⟩ : ∃ j : Nat, (r : Int) % 4 = j := ⟨((r : Int) % 4).toNat, by omega⟩
      have hj4 : j < 4 := by omega
      have gg : ∃ d, [NestedKey.tup [.none, .num 0], .tup [.none, .num 0], .tup [.text "x", .num 0], .tup [.num 7, .num 0]][j]? = some d ∧ Glue d := by
        rcases four hj4 with rfl | rfl | rfl | rfl
        · exact ⟨_, rfl, glue0⟩
        · exact ⟨_, rfl, glue0⟩
        · exact ⟨_, rfl, glue_mk (by simp [NestedKey.depth]) (by decide) (by decide)⟩
        · exact ⟨_, rfl, glue_mk (by simp [NestedKey.depth]) (by decide) (by decide)⟩
      obtain ⟨d, hd, hg⟩ := gg
      have k15 : Go T [] H1 G5 := k1.trans (k2.trans (k3.trans (k4.trans k5)))
      refine ⟨_, j, d, .inl L5.ls, ?_, atI_nat hd, fun v hv => q d v G5 hg (g1.trans k15.up) ((P1.up k15).le (by omega)) hv⟩
      show V.int ((r : Int) % 4) = _
      rw [hj]
    refine ⟨_, rfl, rfl, _, rfl, ?_⟩
    by_cases c : V.int r = V.int 0
    rotate_left
    · exact iteFp c (rest H1 g1 P1)
    refine iteTp c ⟨_, rfl, _, _, rfl, rfl, _, rfl, ?_⟩
    by_cases c2 : (0 : Int) < mx
    rotate_left
    · exact iteFp c2 (rest H1 g1 P1)
    refine iteTp c2 ⟨_, rfl, pn, cl, m + 1, 3, rfl, P1, by decide, by decide, by omega, fun r2 H2 hr2 g2 P2 => ⟨_, rfl, pn, cl, m + 2, 2, rfl, P2, by decide, by decide, by omega, fun r3 H3 hr3 g3 P3 => ⟨_, _, rfl, rfl, [.num r2, .num (1 + r3)], .cons (.num _) (.cons (.num _) .nil), sz2, fun p4 H4 n4 g4 d4 => ?_⟩⟩⟩
    exact q _ _ H4 (glue_mk (by rw [num_depth]; decide) (by omega) (by omega)) (((g1.trans g2).trans g3).trans g4.up) (P3.up g4) d4
end
end TG

/-! The law's defs: late_rival, edge_glues. -/
namespace TG
open PySem PySem.Spec L2 TGr LamX
open PyProof.Rows hiding St
theorem look_get {es : Es} {k d : Dm} (h : look es k = some d) : (look es k).isSome = true := by rw [h]; rfl
section
variable {P : Program} {w : World} {K : PySem.W.Frag} {mg : Str → Option Value} {base : Heap} {f fD fN fA : Addr} {fd fdD fdN fdA : FuncData}
/-! ### late_rival -/
abbrev sLate : Stmt := top 30
theorem scLate : FnScope ["_law_glues", "_law_cells", "_law_at", "_law_kind", "_law_side"] ["_law_glues", "_law_cells", "_law_at"] (defScope sLate) := ⟨rfl, rfl, rfl, by decide +kernel, rfl, by decide +kernel, by decide +kernel⟩
def spLate (K : PySem.W.Frag) (w : World) (T : Tb) : Sp := fun vs H Q _ => ∃ (g l : Addr) (es : Es) (cs : List Pl) (j : Nat), vs = [.ref g, .ref l, .int j] ∧ DicW K w H g es ∧ LstW K H l (cs.map pd) ∧ j < cs.length ∧ GlAll es ∧ (∀ c ∈ cs, ∀ i, i < 4 → (look es (gk c i)).isSome = true) ∧
  ∀ a ks H', Nw H a → KindOk ks → Go T [] H H' → LstW K H' a ks → Q (.ref a) H'
theorem ok_late (T : Tb) (F : TopF K mg "_law_t2_late_rival" sLate ["_law_glues", "_law_cells", "_law_at"] f fd) (B : Blt mg) (FN : TopF K mg "_law_t2_next" sNext ["_law_place", "_law_side"] fN fdN) :
    FnOk P w K mg base CX0 2 f fd ["_law_glues", "_law_cells", "_law_at"] (spLate K w T) := by
  have GN : FnOk P w K mg base CX0 1 fN fdN ["_law_place", "_law_side"] (spNext K T) := ok_next T FN
  refine F.fn.ok scLate (fun vs H Q E h => ?_) (fun cdv A outer s H vs Q E hr h => ?_)
  · obtain ⟨g, l, _, _, _, rfl, _⟩ := h
    rfl
  · obtain ⟨g, l, es, cs, j, rfl, hG, hL, hj, hall, hhas, q⟩ := h
    refine ⟨_, pss_cons (ps_set (i := 3) scLate.nd rfl (.inl rfl) (pe_op (op_repD T) (pe_lstD T (pa_cons (pe_tupD T (pa_cons pe_non (pa_cons pe_int pa_nil))) pa_nil)) pe_int))
      (pss_cons (ps_for PassesOwn.never rfl (pi_range1 rfl B.range (pa_cons pe_int pa_nil)) (pg_name (i := 4) scLate.nd rfl (.inl rfl))
        (pss_one (ps_if (PW.pt (pw_and (pt_cmpR (op_inT (Room.u65 hr)) (pe_call GN hr (by rfl) FN.mg FN.fn.kp FN.b .nil pass0 (pa_cons (pe_ix ix_DL (pv 1) (pv 2) (fun _ _ => rfl)) (pa_cons (pv 4) pa_nil))) (pe_slice (sl_D T) (pv 1) (po_some (pe_op op_add (pv 2) pe_int)) po_none) rfl)
            (pw_and1 (pt_cmpR op_eq (pe_ix ix_DL (pe_ix (ix_D (Room.u9 hr)) (pv 0) (pe_tupD T (pa_cons (pe_ix ix_DL (pv 1) (pv 2) (fun _ _ => rfl)) (pa_cons (pv 4) pa_nil))) (fun _ _ => rfl)) pe_int (fun _ _ => rfl)) pe_int (nomark _)))))
          (pss_one (ps_asg (pe_ix (ix_D (Room.u9 hr)) (pv 0) (pe_tupD T (pa_cons (pe_ix ix_DL (pv 1) (pv 2) (fun _ _ => rfl)) (pa_cons (pv 4) pa_nil))) (fun _ _ => rfl)) (pg_sub (pv 3) (pv 4) (set_D T)))) pss_nil)))
      (pss_one (ps_ret (pv 3)))), ?_⟩
    obtain ⟨c, hc⟩ : ∃ c, cs[j]? = some c := ⟨cs[j], List.getElem?_eq_getElem hj⟩
    have hcd : (cs.map pd)[j]? = some (pd c) := by rw [List.getElem?_map, hc]; rfl
    have hcm : c ∈ cs := List.mem_of_getElem? hc
    refine ⟨[.none, .num 0], .cons .non (.cons (.num _) .nil), sz2, fun p1 H1 n1 g1 d1 => ⟨[.tup [.none, .num 0]], .cons d1 .nil, sz1, fun p2 H2 n2 g2 L2 => ?_⟩⟩
    refine ⟨p2, .tup [.none, .num 0], 4, rfl, rfl, L2, by decide, fun a H3 n3 g3 A3 => ?_⟩
    have g03 : Go T [] H H3 := g1.trans (g2.trans g3)
    have na : Nw H a := (g1.trans g2).nw (.none n3) (by simp)
    have k0 : KindOk (List.replicate 4 (.tup [.none, .num 0])) := ⟨rfl, fun g hg => by rw [List.eq_of_mem_replicate hg]; exact glue0⟩
    have la : l ≠ a := (hL.go (g1.trans g2) (by simp)).ne n3
    have ga : g ≠ a := (hG.go (g1.trans g2) (by simp)).ne n3
    have hL3 := hL.go g03 (by simp)
    have hG3 := hG.go g03 (by simp)
    refine ⟨4, rfl, by decide, by decide, for_range (n := 4) (fun i σ H4 => ∃ (ks : List Dm) (o : Option V), σ = [some (.ref g), some (.ref l), some (.int j), some (.ref a), o] ∧ KindOk ks ∧ Go T [a] H3 H4 ∧ LstW K H4 a ks) ⟨_, _, rfl, k0, .refl, A3⟩ ?_ ?_⟩
    · rintro i σ H4 hi ⟨ks, o, rfl, hk, g4, A4⟩
      have L4 := hL3.go g4 fun z => la (List.mem_singleton.mp z)
      have G4 := hG3.go g4 fun z => ga (List.mem_singleton.mp z)
      refine ⟨_, rfl, _, rfl, cs.map pd, j, pd c, .inl L4.ls, rfl, atI_nat hcd, fun v hv => ⟨_, rfl, c, v, i, by rw [Int.zero_add]; rfl, hv, hi, fun v2 H5 g5 hv2 => ?_⟩⟩
      have L5 := L4.go g5 (by simp)
      have G5 := G4.go g5 (by simp)
      have A5 := A4.go g5 (by simp)
      refine ⟨_, rfl, _, rfl, _, _, rfl, rfl, _, rfl, cs.map pd, L5.ls, fun p6 H6 n6 g6 L6 => ?_⟩
      rw [show ((j : Int) + 1) = ((j + 1 : Nat) : Int) by omega, cut_from _ (by rw [List.length_map]; omega)] at L6
      have d60 : ∀ d ∈ (cs.map pd).drop (j + 1), d.depth ≤ 60 := fun d hd => pds60 cs d (List.mem_of_mem_drop hd)
      have g46 : Go T [a] H3 H6 := (g4.trans g5.up).trans g6.up
      have L6' := L5.go g6 (by simp)
      have G6 := G5.go g6 (by simp)
      have A6 := A5.go g6 (by simp)
      refine ⟨pd (nb c i), _, g6.dat hv2, L6.ls, pd_depth60 _, d60, _, rfl, ?_⟩
      by_cases ci : pd (nb c i) ∈ (cs.map pd).drop (j + 1)
      rotate_left
      · exact iteFp ci ⟨ks, _, rfl, hk, g46, A6⟩
      obtain ⟨gd, hgd⟩ := Option.isSome_iff_exists.mp (hhas c hcm i hi)
      have hgl := hall _ _ hgd
      refine iteTp ci ⟨_, rfl, _, rfl, _, rfl, cs.map pd, j, pd c, .inl L6'.ls, rfl, atI_nat hcd, fun v hv => ⟨_, rfl, [pd c, .num i], .cons hv (.cons (by rw [Int.zero_add]; exact .num _) .nil), sz2, fun p7 H7 n7 g7 d7 => ?_⟩⟩
      have G7 := G6.go g7 (by simp)
      have L7 := L6'.go g7 (by simp)
      have A7 := A6.go g7 (by simp)
      refine ⟨g, es, gk c i, gd, rfl, G7.toD, d7, gk_depth c i, hgd, fun vg hvg => ?_⟩
      obtain ⟨lb, st, rfl, hl6, hs0, hs2⟩ := id hgl
      refine ⟨[lb, .num st], 1, .num st, .inr hvg, rfl, rfl, fun v1 hv1 => ?_⟩
      obtain rfl := hv1.numI
      refine ⟨rfl, _, rfl, ?_⟩
      have g47 := g46.trans g7.up (S := [a])
      by_cases c2 : V.int st = V.int 2
      rotate_left
      · exact iteFp c2 ⟨ks, _, rfl, hk, g47, A7⟩
      refine iteTp c2 ⟨_, rfl, _, rfl, _, rfl, cs.map pd, j, pd c, .inl L7.ls, rfl, atI_nat hcd, fun v hv => ⟨_, rfl, [pd c, .num i], .cons hv (.cons (by rw [Int.zero_add]; exact .num _) .nil), sz2, fun p8 H8 n8 g8 d8 => ?_⟩⟩
      have G8 := G7.go g8 (by simp)
      have A8 := A7.go g8 (by simp)
      refine ⟨g, es, gk c i, _, rfl, G8.toD, d8, gk_depth c i, hgd, fun vg2 hvg2 => ?_⟩
      have hx : ixN ks.length (0 + (i : Int)) = some i := by
        rw [Int.zero_add, hk.len]
        rcases four hi with rfl | rfl | rfl | rfl <;> rfl
      refine ⟨_, rfl, _, rfl, a, ks, _, i, _, rfl, rfl, A8, hx, hvg2, fun H9 g9 A9 => ⟨_, _, rfl, ⟨by rw [List.length_set]; exact hk.len, fun d hd => ?_⟩, (g47.trans g8.up).trans g9, A9⟩⟩
      rcases List.mem_or_eq_of_mem_set hd with z | z
      · exact hk.glu d z
      · rw [z]; exact hgl
    · rintro σ H4 ⟨ks, o, rfl, hk, g4, A4⟩
      exact ⟨_, rfl, q a ks H4 na hk ((g03.up.trans g4).dropN na) A4⟩
end
end TG

/-! The law's defs: edge_glues. -/
namespace TG
open PySem PySem.Spec L2 TGr LamX
open PyProof.Rows hiding St
theorem nm_step {i : Nat} {v : V} {σ : L2.St} {H : Hp} {Q : L2.St → Hp → Prop} (h : Q (σ.set i (some v)) H) : gName i v σ H Q := h
theorem kz_depth (p : Pl) (z : Int) : NestedKey.depth (.tup [pd p, .num z]) ≤ 8 := by
  rw [depth_pair, num_depth]
  show 1 + max (NestedKey.depth (.tup [.num p.1, .num p.2])) (max 0 0) ≤ 8
  rw [depth_pair, num_depth, num_depth]
  decide
section
variable {P : Program} {w : World} {K : PySem.W.Frag} {mg : Str → Option Value} {base : Heap} {f fD fN fA : Addr} {fd fdD fdN fdA : FuncData}
abbrev sEdge : Stmt := top 28
theorem scEdge : FnScope ["_law_pen_here", "_law_cells", "_law_mixture", "_law_glues", "_law_serial", "_law_at", "_law_ahead", "_law_strong", "_law_k", "_law_label", "_law_strength", "_law_side"] ["_law_pen_here", "_law_cells", "_law_mixture"] (defScope sEdge) := ⟨rfl, rfl, rfl, by decide +kernel, rfl, by decide +kernel, by decide +kernel⟩
def spEdge (K : PySem.W.Frag) (w : World) (T : Tb) : Sp := fun vs H Q _ => ∃ (pn cl l : Addr) (m : Nat) (cs : List Pl) (mx : Int), vs = [.ref pn, .ref l, .int mx] ∧ PenB H pn cl m ∧ LstW K H l (cs.map pd) ∧ cs.length ≤ 10 ∧ m + 1100 ≤ 1000000000 ∧
  ∀ g es H', Nw H g → Go T [pn] H H' → PenB H' pn cl (m + 1100) → DicW K w H' g es → GlAll es → es.length ≤ 100 → Q (.ref g) H'
theorem ok_edge (T : Tb) (F : TopF K mg "_law_t2_edge_glues" sEdge ["_law_pen_here", "_law_cells", "_law_mixture"] f fd) (B : Blt mg) (FD : TopF K mg "_law_draw" sDraw ["_law_pen_here", "_law_many"] fD fdD) (FN : TopF K mg "_law_t2_next" sNext ["_law_place", "_law_side"] fN fdN)
    (FA : TopF K mg "_law_t2_datum" sDat ["_law_pen_here", "_law_serial"] fA fdA) (GA : FnOk P w K mg base CX0 3 fA fdA ["_law_pen_here", "_law_serial"] (spDat K T)) :
    FnOk P w K mg base CX0 4 f fd ["_law_pen_here", "_law_cells", "_law_mixture"] (spEdge K w T) := by
  have GD : FnOk P w K mg base CX0 1 fD fdD ["_law_pen_here", "_law_many"] (spDraw T) := ok_draw T FD B
  have GN : FnOk P w K mg base CX0 1 fN fdN ["_law_place", "_law_side"] (spNext K T) := ok_next T FN
  refine F.fn.ok scEdge (fun vs H Q E h => ?_) (fun cdv A outer s H vs Q E hr h => ?_)
  · obtain ⟨pn, _, l, _, _, mx, rfl, _⟩ := h
    rfl
  · obtain ⟨pn, cl, l, m, cs, mx, rfl, hP, hL, hcs, hm, q⟩ := h
    refine ⟨_, pss_cons (ps_par (i := 3) (j := 4) (by rfl) scEdge.nd rfl rfl (by decide) rfl rfl (pa_cons (pe_dnew T) (pa_cons pe_int pa_nil)) (by rfl))
      (pss_cons (ps_for PassesOwn.never rfl (pi_range1 rfl B.range (pa_cons (pe_callB call_lenL (by rfl) B.len boot_len (pa_cons (pv 1) pa_nil)) pa_nil)) (pg_name (i := 5) scEdge.nd rfl (.inr rfl))
        (pss_cons (ps_setLc (i := 6) (own := [("_law_side", 11)]) (g := gName 11) (tt := tTest (tOp (rInT K) (tCall (spNext K T) [] E0 (tCons (tOp (rIxL' K) (tVar 1) (tVar 5)) (tCons (tVar 11) tNil))) (tSl (rSlD K T) (tVar 1) tNoPart (tPart (tVar 5))))) (te := tVar 11) (by rfl) scEdge.nd rfl rfl (sw_true rfl rfl rfl (by decide +kernel)) (pi_range1 rfl B.range (pa_cons pe_int pa_nil))
          (blkOk_by (own := [("_law_side", 11)]) (N := ["_law_pen_here", "_law_cells", "_law_mixture", "_law_glues", "_law_serial", "_law_at", "_law_ahead", "_law_strong", "_law_k", "_law_label", "_law_strength", "_law_side"]) (sc := defScope sEdge) (by decide +kernel)) (fun _ _ _ _ _ => pg_name (i := 11) scEdge.nd rfl (Or.inl rfl))
          (fun _ _ _ _ _ => pts_one (pt_cmpR (op_inT (Room.u65 hr)) (pe_call GN (hr.mono (by decide)) (by rfl) FN.mg FN.fn.kp FN.b .nil pass0 (pa_cons (pe_ix ix_DL (pv 1) (pv 5) (fun _ _ => rfl)) (pa_cons (pv 11) pa_nil))) (pe_slice (sl_D T) (pv 1) po_none (po_some (pv 5))) rfl)) (fun _ _ _ _ _ => pv 11))
        (pss_cons (ps_set (i := 7) scEdge.nd rfl (.inl rfl) (pe_ifExp (PW.pt (pw_and (pt_cmpR (op_neLs hr.units) (pv 6) (pe_lstD T pa_nil) (nomark _)) (pw_and1 (PW.pt (pw_or (pt_cmpR op_eq (pe_callB call_lenL (by rfl) B.len boot_len (pa_cons (pv 6) pa_nil)) pe_int (nomark _)) (pw_or1 (pt_cmpR op_eq (pe_call GD (hr.mono (by decide)) (by rfl) FD.mg FD.fn.kp FD.b .nil pass0 (pa_cons (pv 0) (pa_cons pe_int pa_nil))) pe_int (nomark _))))))))
          (pe_call GD (hr.mono (by decide)) (by rfl) FD.mg FD.fn.kp FD.b .nil pass0 (pa_cons (pv 0) (pa_cons (pe_callB call_lenL (by rfl) B.len boot_len (pa_cons (pv 6) pa_nil)) pa_nil))) (pe_un un_neg pe_int)))
        (pss_one (ps_for PassesOwn.never rfl (pi_range1 rfl B.range (pa_cons (pe_callB call_lenL (by rfl) B.len boot_len (pa_cons (pv 6) pa_nil)) pa_nil)) (pg_name (i := 8) scEdge.nd rfl (.inl rfl))
          (pss_cons (ps_set (i := 4) scEdge.nd rfl (.inl rfl) (pe_op op_add (pv 4) pe_int))
          (pss_cons (ps_par (i := 9) (j := 10) (by rfl) scEdge.nd rfl rfl (by decide) rfl rfl (pa_cons (pe_call GA hr (by rfl) FA.mg FA.fn.kp FA.b .nil pass0 (pa_cons (pv 0) (pa_cons (pv 4) pa_nil))) (pa_cons pe_int pa_nil)) (by rfl))
          (pss_cons (ps_if (pt_cmpR op_ge (pv 7) pe_int (nomark _))
            (pss_one (ps_set (i := 10) scEdge.nd rfl (.inl rfl) (pe_ifExp (PW.pt (pw_and (pt_cmpR op_eq (pv 8) (pv 7) (nomark _)) (pw_and1 (pt_cmpR op_gt (pe_call GD (hr.mono (by decide)) (by rfl) FD.mg FD.fn.kp FD.b .nil pass0 (pa_cons (pv 0) (pa_cons pe_int pa_nil))) pe_int (nomark _))))) pe_int (pe_call GD (hr.mono (by decide)) (by rfl) FD.mg FD.fn.kp FD.b .nil pass0 (pa_cons (pv 0) (pa_cons pe_int pa_nil)))))) pss_nil)
          (pss_cons (ps_if (PW.pt (pw_or (pt_cmpR op_eq (pv 2) pe_int (nomark _)) (pw_or1 (PW.pt (pw_and (pt_cmpR op_eq (pv 2) pe_int (nomark _)) (pw_and1 (pt_cmpR op_eq (pe_call GD (hr.mono (by decide)) (by rfl) FD.mg FD.fn.kp FD.b .nil pass0 (pa_cons (pv 0) (pa_cons pe_int pa_nil))) pe_int (nomark _))))))))
            (pss_one (ps_set (i := 9) scEdge.nd rfl (.inl rfl) (pe_call GD (hr.mono (by decide)) (by rfl) FD.mg FD.fn.kp FD.b .nil pass0 (pa_cons (pv 0) (pa_cons pe_int pa_nil))))) pss_nil)
          (pss_cons (ps_set (i := 11) scEdge.nd rfl (.inl rfl) (pe_ix ix_DL (pv 6) (pv 8) (fun _ _ => rfl)))
          (pss_cons (ps_asg (pe_tupD T (pa_cons (pv 9) (pa_cons (pv 10) pa_nil))) (pg_sub (pv 3) (pe_tupD T (pa_cons (pe_ix ix_DL (pv 1) (pv 5) (fun _ _ => rfl)) (pa_cons (pv 11) pa_nil))) (put_D T (Room.u9 hr))))
          (pss_one (ps_asg (pe_tupD T (pa_cons (pv 9) (pa_cons (pv 10) pa_nil))) (pg_sub (pv 3) (pe_tupD T (pa_cons (pe_call GN (hr.mono (by decide)) (by rfl) FN.mg FN.fn.kp FN.b .nil pass0 (pa_cons (pe_ix ix_DL (pv 1) (pv 5) (fun _ _ => rfl)) (pa_cons (pv 11) pa_nil))) (pa_cons (pe_op op_mod (pe_callTy call_int1 (by rfl) B.int boot_int (pa_cons (pe_op op_add (pv 11) pe_int) pa_nil)) pe_int) pa_nil))) (put_D T (Room.u9 hr))))))))))))))))
      (pss_one (ps_ret (pv 3)))), ?_⟩
    refine fun g H1 ng g1 W1 => ⟨_, _, rfl, ?_⟩
    have ngH : Nw H g := .none ng
    have lg : l ≠ g := hL.ne ng
    have png : pn ≠ g := hP.pne ng
    have clg : cl ≠ g := hP.cne ng
    have L1 := hL.go g1 (by simp)
    refine ⟨_, rfl, cs.map pd, .ref l, rfl, .inl L1.ls, (cs.map pd).length, rfl, by rw [List.length_map]; omega, by rw [List.length_map]; omega, ?_⟩
    refine for_range (n := (((cs.map pd).length : Nat) : Int).toNat) (fun a σ H3 => ∃ (sr : Int) (es : Es) (o5 o6 o7 o8 o9 o10 o11 : Option V), σ = [some (.ref pn), some (.ref l), some (.int mx), some (.ref g), some (.int sr), o5, o6, o7, o8, o9, o10, o11] ∧ Go T [pn, g] H1 H3 ∧ PenB H3 pn cl (m + 100 * a) ∧ DicW K w H3 g es ∧ GlAll es ∧ es.length ≤ 8 * a ∧ 100 ≤ sr ∧ sr ≤ 100 + 4 * a)
      ⟨100, [], _, _, _, _, _, _, _, rfl, .refl, hP.up g1, W1, fun _ _ z => (nomatch z), Nat.le_refl _, by decide, by decide⟩ ?_ ?_
    · rintro a σ H3 ha ⟨sr, es, o5, o6, o7, o8, o9, o10, o11, rfl, g3, P3, W3, hall, hes, s0, s1⟩
      have ha' : a < cs.length := by rw [List.length_map] at ha; omega
      obtain ⟨c, hc⟩ : ∃ c, cs[a]? = some c := ⟨cs[a], List.getElem?_eq_getElem ha'⟩
      have hcd : (cs.map pd)[a]? = some (pd c) := by rw [List.getElem?_map, hc]; rfl
      have ls : ∀ {H'}, Go T [pn, g] H1 H' → LstW K H' l (cs.map pd) := fun {H'} g' => L1.go g' fun z => by
        rcases List.mem_cons.mp z with z | z
        · exact hL.pne hP z
        · exact lg (List.mem_singleton.mp z)
      have L3 := ls g3
      refine ⟨4, rfl, by decide, by decide, fun D nD => ?_⟩
      have lD : l ≠ D := L3.ne nD
      refine lc_D (K := K) T (walk_range (lo := 0) (n := 4)) nD (fun j ds H4 => Go T [D] H3 H4 ∧ ∃ as : List Nat, ds = as.map (fun i : Nat => NestedKey.num i) ∧ (∀ x ∈ as, x < 4) ∧ as.length ≤ j) (fun H4 g' _ => ⟨g'.up, [], rfl, fun _ z => (nomatch z), Nat.le_refl _⟩) (fun _ _ _ _ _ => trivial) ?_ ?_
      · rintro j ds x H4 H4' hj ⟨g4, as, rfl, h4, hl4⟩ D4 ⟨rfl, rfl⟩
        have L4 := L3.go g4 fun z => lD (List.mem_singleton.mp z)
        refine ⟨rfl, _, rfl, _, rfl, cs.map pd, a, pd c, .inl L4.ls, by rw [Int.zero_add], atI_nat hcd, fun v hv => ⟨_, rfl, c, v, j, by show [v, V.int (0 + (j : Int))] = _; rw [Int.zero_add], hv, hj, fun v2 H5 g5 hv2 => ?_⟩⟩
        have L5 := L4.go g5 (by simp)
        refine ⟨_, rfl, _, rfl, _, rfl, cs.map pd, L5.ls, fun p6 H6 n6 g6 L6 => ?_⟩
        rw [Int.zero_add, cut_to _ (by rw [List.length_map]; omega)] at L6
        refine ⟨pd (nb c j), _, g6.dat hv2, L6.ls, pd_depth60 _, fun d hd => pds60 cs d (List.mem_of_mem_take hd), _, rfl, ?_⟩
        have g36 : Go T [D] H3 H6 := (g4.trans g5.up).trans g6.up
        have D6 := D4.go (g5.trans g6) (by simp)
        by_cases ci : pd (nb c j) ∈ (cs.map pd).take a
        · refine iteTp ci ⟨_, rfl, lcN T D6 (show Dat K H6 (.num (j : Int)) (.int (0 + (j : Int))) by rw [Int.zero_add]; exact .num _) ?_ fun H7 g7 L7 => ⟨g36.trans g7, as ++ [j], by rw [List.map_append]; rfl, fun x hx => ?_, by rw [List.length_append, List.length_singleton]; omega⟩⟩
          · rw [List.length_map]
            exact lsz (by omega)
          · rcases List.mem_append.mp hx with z | z
            · exact h4 x z
            · rw [List.mem_singleton.mp z]; exact hj
        · exact iteFp ci ⟨_, ⟨g36, as, rfl, h4, by omega⟩, D6⟩
      · rintro ds H4 ⟨g4, as, rfl, h4, hl4⟩ D4
        have g14 : Go T [pn, g] H1 H4 := g3.trans ((g4.drop nD).up)
        have P4 := P3.goN g4 nD
        have W4 := W3.go g4 fun z => W3.ne nD (List.mem_singleton.mp z)
        have Dne : ∀ {q : Addr}, q ∈ [pn, g] → D ≠ q := fun {q} hq z => by
          rcases List.mem_cons.mp hq with e | e
          · exact P3.pne nD (z.trans e).symm
          · exact W3.ne nD (z.trans (List.mem_singleton.mp e)).symm
        have d60 : ∀ d ∈ as.map (fun i : Nat => NestedKey.num i), d.depth ≤ 60 := fun d hd => by
          obtain ⟨r, _, rfl⟩ := List.mem_map.mp hd
          rw [num_depth]
          decide
        refine nm_step ?_
        dsimp only
        refine seq_key2 (s1 := tAsg _ _) (fun σ1 H5 => ∃ (st : Int), σ1 = [some (.ref pn), some (.ref l), some (.int mx), some (.ref g), some (.int sr), some (.int (0 + a)), some (.ref D), some (.int st), o8, o9, o10, o11] ∧ Go T [pn] H4 H5 ∧ PenB H5 pn cl (m + 100 * a + 2)) ?_ fun key => ?_
        rotate_left
        · refine ⟨_, rfl, [], .nil, sz0, fun pe H5 n5 g5 E5 => ⟨as.map (fun i : Nat => NestedKey.num i), [], (D4.go g5 (by simp)).ls, E5.ls, d60, fun _ z => (nomatch z), _, rfl, ?_⟩⟩
          have P5 := P4.up g5
          have D5 := D4.go g5 (by simp)
          by_cases c0 : as.map (fun i : Nat => NestedKey.num i) = []
          · rw [decide_eq_true c0]
            exact iteF ⟨_, rfl, key _ _ ⟨_, rfl, g5.up, P5.le (by omega)⟩⟩
          · rw [decide_eq_false c0]
            have lpos : 0 < (as.map (fun i : Nat => NestedKey.num i)).length := List.length_pos_iff.mpr c0
            have lle : (as.map (fun i : Nat => NestedKey.num i)).length ≤ 4 := by rw [List.length_map]; exact hl4
            refine iteT ⟨_, rfl, _, .ref D, rfl, .inl D5.ls, rfl, _, rfl, ?_⟩
            by_cases c1 : V.int ((as.map (fun i : Nat => NestedKey.num i)).length : Nat) = V.int 1
            · refine iteTp c1 (iteT ?_)
              exact ⟨_, rfl, _, rfl, _, .ref D, rfl, .inl D5.ls, pn, cl, m + 100 * a, _, rfl, P5, by omega, by omega, by omega, fun r H7 hr7 g7 P7 => key _ _ ⟨r, rfl, g5.up.trans g7, P7.le (by omega)⟩⟩
            · refine iteFp c1 ⟨_, rfl, pn, cl, m + 100 * a, 2, rfl, P5, by decide, by decide, by omega, fun r H6 hr6 g6 P6 => ⟨rfl, _, rfl, ?_⟩⟩
              by_cases c2 : V.int r = V.int 0
              · refine iteTp c2 ?_
                exact ⟨_, rfl, _, rfl, _, .ref D, rfl, .inl (D5.goP g6 P5).ls, pn, cl, m + 100 * a + 1, _, rfl, P6, by omega, by omega, by omega, fun r H7 hr7 g7 P7 => key _ _ ⟨r, rfl, (g5.up.trans g6).trans g7, P7⟩⟩
              · refine iteFp c2 ⟨_, rfl, key _ _ ⟨_, rfl, g5.up.trans g6, P6.le (by omega)⟩⟩
        · rintro _ H5 ⟨st, rfl, g5, P5⟩
          have D5 := D4.goP g5 P4
          have W5 := W4.go g5 fun z => png (List.mem_singleton.mp z).symm
          have g15 : Go T [pn, g] H1 H5 := g14.trans (g5.mono (by simp))
          refine ⟨_, rfl, _, .ref D, rfl, .inl D5.ls, (as.map (fun i : Nat => NestedKey.num i)).length, rfl, by rw [List.length_map]; omega, by rw [List.length_map]; omega, ?_⟩
          refine for_range (n := (((as.map (fun i : Nat => NestedKey.num i)).length : Nat) : Int).toNat) (fun k σ H6 => ∃ (es' : Es) (o8 o9 o10 o11 : Option V), σ = [some (.ref pn), some (.ref l), some (.int mx), some (.ref g), some (.int (sr + k)), some (.int (0 + a)), some (.ref D), some (.int st), o8, o9, o10, o11] ∧ Go T [pn, g] H5 H6 ∧ PenB H6 pn cl (m + 100 * a + 2 + 24 * k) ∧ DicW K w H6 g es' ∧ GlAll es' ∧ es'.length ≤ es.length + 2 * k)
            ⟨es, o8, o9, o10, o11, by rw [show sr + ((0 : Nat) : Int) = sr by omega], .refl, P5, W5, hall, Nat.le_refl _⟩ ?_ ?_
          · rintro k σ H6 hk ⟨es', o8, o9, o10, o11, rfl, g6, P6, W6, hall', hes'⟩
            have hk' : k < as.length := by rw [List.length_map] at hk; omega
            obtain ⟨x, hx⟩ : ∃ x, as[k]? = some x := ⟨as[k], List.getElem?_eq_getElem hk'⟩
            have hxd : (as.map (fun i : Nat => NestedKey.num i))[k]? = some (.num (x : Int)) := by rw [List.getElem?_map, hx]; rfl
            have hx4 : x < 4 := h4 x (List.mem_of_getElem? hx)
            refine ⟨_, rfl, _, _, rfl, rfl, _, rfl, _, rfl, pn, cl, m + 100 * a + 2 + 24 * k, sr + k + 1, rfl, P6, by omega, by omega, by omega, fun lb lv H7 hn g7 P7 hlv => ⟨_, _, rfl, ?_⟩⟩
            dsimp only
            refine seq_key2 (s1 := tIfS _ _ _) (fun σ1 H8 => ∃ (sg : Int), σ1 = [some (.ref pn), some (.ref l), some (.int mx), some (.ref g), some (.int (sr + k + 1)), some (.int (0 + a)), some (.ref D), some (.int st), some (.int (0 + k)), some lv, some (.int sg), o11] ∧ 0 ≤ sg ∧ sg ≤ 2 ∧ Go T [pn] H7 H8 ∧ PenB H8 pn cl (m + 100 * a + 2 + 24 * k + 22)) ?_ fun key => ?_
            rotate_left
            · refine ⟨_, rfl, _, _, rfl, rfl, _, rfl, ?_⟩
              by_cases c1 : (0 : Int) ≤ st
              · refine iteTp c1 ⟨_, rfl, _, rfl, rfl, _, rfl, ?_⟩
                by_cases c2 : V.int (0 + (k : Int)) = V.int st
                · refine iteTp c2 ⟨_, rfl, pn, cl, _, 12, rfl, P7, by decide, by decide, by omega, fun r H8 hr8 g8 P8 => ⟨_, _, rfl, rfl, _, rfl, ?_⟩⟩
                  by_cases c3 : (0 : Int) < (r : Int)
                  · exact iteTp c3 (key _ _ ⟨2, rfl, by decide, by decide, g8, P8.le (by omega)⟩)
                  · refine iteFp c3 ?_
                    exact ⟨_, rfl, pn, cl, _, 3, rfl, P8, by decide, by decide, by omega, fun r2 H9 hr9 g9 P9 => key _ _ ⟨r2, rfl, by omega, by omega, g8.trans g9, P9⟩⟩
                · refine iteFp c2 (iteF ?_)
                  exact ⟨_, rfl, pn, cl, _, 3, rfl, P7, by decide, by decide, by omega, fun r2 H9 hr9 g9 P9 => key _ _ ⟨r2, rfl, by omega, by omega, g9, P9.le (by omega)⟩⟩
              · exact iteFp c1 (key _ _ ⟨1, rfl, by decide, by decide, .refl, P7.le (by omega)⟩)
            · rintro _ H8 ⟨sg, rfl, sg0, sg2, g8, P8⟩
              refine seq_key2 (s1 := tIfS _ _ _) (fun σ1 H9 => ∃ (lb' : Dm) (lv' : V), σ1 = [some (.ref pn), some (.ref l), some (.int mx), some (.ref g), some (.int (sr + k + 1)), some (.int (0 + a)), some (.ref D), some (.int st), some (.int (0 + k)), some lv', some (.int sg), o11] ∧ lb'.depth ≤ 6 ∧ Dat K H9 lb' lv' ∧ Go T [pn] H8 H9 ∧ PenB H9 pn cl (m + 100 * a + 2 + 24 * k + 24)) ?_ fun key => ?_
              rotate_left
              · refine ⟨_, rfl, rfl, _, rfl, ?_⟩
                by_cases c1 : V.int mx = V.int 2
                · refine iteTp c1 ⟨_, rfl, pn, cl, _, 3, rfl, P8, by decide, by decide, by omega, fun r H9 hr9 g9 P9 => key _ _ ⟨.num r, _, rfl, by rw [num_depth]; decide, .num _, g9, P9.le (by omega)⟩⟩
                · refine iteFp c1 ⟨_, rfl, rfl, _, rfl, ?_⟩
                  by_cases c2 : V.int mx = V.int 1
                  · refine iteTp c2 ⟨_, rfl, pn, cl, _, 4, rfl, P8, by decide, by decide, by omega, fun r H9 hr9 g9 P9 => ⟨rfl, _, rfl, ?_⟩⟩
                    by_cases c3 : V.int r = V.int 0
                    · exact iteTp c3 ⟨_, rfl, pn, cl, _, 3, rfl, P9, by decide, by decide, by omega, fun r2 H10 hr10 g10 P10 => key _ _ ⟨.num r2, _, rfl, by rw [num_depth]; decide, .num _, g9.trans g10, P10⟩⟩
                    · exact iteFp c3 (key _ _ ⟨lb, lv, rfl, hn.dp, (g8.trans g9).dat hlv, g9, P9.le (by omega)⟩)
                  · exact iteFp c2 (key _ _ ⟨lb, lv, rfl, hn.dp, g8.dat hlv, .refl, P8.le (by omega)⟩)
              · rintro _ H9 ⟨lb', lv', rfl, hlb, hlv', g9, P9⟩
                have gp : Go T [pn] H6 H9 := (g7.trans g8).trans g9
                have g59 : Go T [pn, g] H5 H9 := g6.trans (gp.mono (by simp))
                have noD : D ∉ [pn, g] := fun z => Dne z rfl
                have D9 := D5.go g59 noD
                have W9 := W6.go gp fun z => png (List.mem_singleton.mp z).symm
                refine ⟨_, rfl, _, rfl, _, k, .num (x : Int), .inl D9.ls, by rw [Int.zero_add], atI_nat hxd, fun v hv => ?_⟩
                obtain rfl := hv.numI
                refine ⟨_, rfl, _, rfl, [lb', .num sg], .cons hlv' (.cons (.num _) .nil), sz2, fun p1 G1 n1 k1 d1 => ⟨_, rfl, ?_⟩⟩
                have hgl : Glue (.tup [lb', .num sg]) := glue_mk hlb sg0 sg2
                have lG : ∀ {H'}, Go T [pn, g] H9 H' → LstW K H' l (cs.map pd) := fun {H'} g' => ls (g15.trans (g59.trans g'))
                refine ⟨_, rfl, _, rfl, cs.map pd, a, pd c, .inl (lG k1.up).ls, by rw [Int.zero_add], atI_nat hcd, fun v hv => ⟨_, rfl, [pd c, .num x], .cons hv (.cons (.num _) .nil), sz2, fun p2 G2 n2 k2 d2 => ?_⟩⟩
                have W2 := (W9.go k1 (by simp)).go k2 (by simp)
                refine ⟨g, es', .tup [pd c, .num x], .tup [lb', .num sg], rfl, W2, d2, kz_depth _ _, k2.dat d1, lsz (by omega), fun G3 k3 W3' => ?_⟩
                have k13 : Go T [pn, g] H9 G3 := (k1.trans k2).up.trans (k3.mono (by simp))
                have e1 := putD_len es' (.tup [pd c, .num x]) (.tup [lb', .num sg])
                refine ⟨_, rfl, _, rfl, [lb', .num sg], .cons (k13.dat hlv') (.cons (.num _) .nil), sz2, fun p4 G4 n4 k4 d4 => ⟨_, rfl, ?_⟩⟩
                refine ⟨_, rfl, _, rfl, cs.map pd, a, pd c, .inl (lG (k13.trans k4.up)).ls, by rw [Int.zero_add], atI_nat hcd, fun v hv => ⟨_, rfl, c, v, x, rfl, hv, hx4, fun v2 G5 k5 hv2 => ?_⟩⟩
                refine ⟨_, rfl, _, _, rfl, rfl, .inl ⟨_, rfl, _, _, rfl, rfl, (by show (0 : Int) < 4; decide), ?_⟩⟩
                refine ⟨[pd (nb c x), .num (((x : Int) + 2) % 4)], .cons hv2 (.cons (.num _) .nil), sz2, fun p6 G6 n6 k6 d6 => ?_⟩
                have W6' := (W3'.go k4 (by simp)).go (k5.trans k6) (by simp)
                refine ⟨g, _, .tup [pd (nb c x), .num (((x : Int) + 2) % 4)], .tup [lb', .num sg], rfl, W6', d6, kz_depth _ _, (k5.trans k6).dat d4, lsz (by omega), fun G7 k7 W7 => ?_⟩
                have e2 := putD_len (putD es' (.tup [pd c, .num x]) (.tup [lb', .num sg])) (.tup [pd (nb c x), .num (((x : Int) + 2) % 4)]) (.tup [lb', .num sg])
                have k37 : Go T [pn, g] G3 G7 := (k4.trans (k5.trans k6)).up.trans (k7.mono (by simp))
                refine ⟨_, some (.int (0 + k)), some lv', some (.int sg), some (.int x), ?_, g59.trans (k13.trans k37), ?_, W7, (hall'.put hgl).put hgl, by omega⟩
                · show _ = [_, _, _, _, some (V.int (sr + ((k + 1 : Nat) : Int))), _, _, _, _, _, _, _]
                  rw [show sr + ((k + 1 : Nat) : Int) = sr + k + 1 by omega]
                  rfl
                · have q1 := ((P9.up (k1.trans k2)).go k3 (fun z => png (List.mem_singleton.mp z)) fun z => clg (List.mem_singleton.mp z)).up (k4.trans (k5.trans k6))
                  exact (q1.go k7 (fun z => png (List.mem_singleton.mp z)) fun z => clg (List.mem_singleton.mp z)).le (by omega)
          · rintro σ H6 ⟨es', o8, o9, o10, o11, rfl, g6, P6, W6, hall', hes'⟩
            rw [List.length_map] at hes' P6
            refine ⟨_, es', _, _, _, _, _, _, _, rfl, g15.trans g6, P6.le (by omega), W6, hall', by omega, by rw [List.length_map]; omega, by rw [List.length_map]; omega⟩
    · rintro σ H3 ⟨sr, es, o5, o6, o7, o8, o9, o10, o11, rfl, g3, P3, W3, hall, hes, s0, s1⟩
      rw [List.length_map] at P3 hes
      refine ⟨_, rfl, q g es H3 ngH ?_ (P3.le (by omega)) W3 hall (by omega)⟩
      exact ((g1.up.trans (g3.mono (S' := [g, pn]) (by simp)))).drop ng
end
end TG

/-! The law's defs: world: what its phases speak of. -/
namespace TG
open PySem PySem.Spec L2 TGr LamX
open PyProof.Rows hiding St
/-- (e, ..) of any values -/
def tTupG (T : Tb) (t : TA) : TE := fun σ H Q => t σ H fun xs H1 => xs.length ≤ sizeLine ∧ ∀ p H', H1 p = none → Go T [] H1 H' → H' p = some (.tup xs) → Q (.ref p) H'
theorem pe_tupG {X : Cx} (T : Tb) {es : List Expr} {t : TA} {pos : Pos} {x1} (h : PA X es t) : PE X (.Tuple es x1 pos) (tTupG T t) := by
  refine ⟨fun pins s σ H Q I hq => ?_⟩
  refine wpAny_Tuple_spliced (thn (h.run pos pins s σ H _ I hq) fun us s1 ⟨xs, H1, I1, r, z, q⟩ => ⟨by rw [← r.length]; exact z, ?_⟩)
  have hf : H1 s1.heap.objs.size = none := I1.hok.fresh (Nat.le_refl _)
  refine ⟨.ref s1.heap.objs.size, upd H1 s1.heap.objs.size (.tup xs), I1.laid (t' := s1.toks) (fun b u e => Heap.get?_push_of_some _ e) (Nat.le_refl _) ?_, rfl, q _ _ hf (.new hf) upd_same⟩
  exact ⟨z, us, r, ⟨_, Heap.get?_push_size _ rfl, rfl, _, rfl⟩⟩
section
variable {P : Program} {w : World} {K : PySem.W.Frag} {mg : Str → Option Value} {base : Heap} {f fD fK fA fP fE fO fL fS c PT : Addr} {fd fdD fdK fdA fdP fdE fdO fdL fdS : FuncData}
abbrev sWor : Stmt := top 31
abbrev nWor : List Str := ["_law_pen_here", "_law_many", "_law_mixture", "_law_cells", "_law_kinds", "_law_glues", "_law_cell", "_law_side", "_law_kind", "_law_seed_kind", "_law_lap", "_law_kept", "_law_turn", "_law_loose", "_law_own", "_law_names", "_law_k", "_law_name", "_law_far", "_law_one"]
theorem scWor : FnScope nWor ["_law_pen_here", "_law_many", "_law_mixture"] (defScope sWor) := ⟨rfl, rfl, rfl, by decide +kernel, rfl, by decide +kernel, by decide +kernel⟩
/-- the context of world's body -/
abbrev XW (P : Program) (w : World) (K : PySem.W.Frag) (mg : Str → Option Value) (base : Heap) (f c : Addr) (A : Around) (outer : List Env) (s : Shared) (H : Hp) (E : XK) : Cx := (cxOf CX0 P w K mg base nWor "_law_t2_world" (defScope sWor) f (.ref c) A outer s H E).nox
/-- a block's rest: from Pre it does what is wanted -/
def Tail (X : Cx) (ss : List Stmt) (D : Ends) (Pre : L2.St → Hp → Prop) : Prop := ∃ t, PSs X ss t ∧ ∀ σ H, Pre σ H → t D σ H
theorem Tail.cons {X : Cx} {st : Stmt} {ss : List Stmt} {D : Ends} {Pre Post : L2.St → Hp → Prop} {t1 : TS} (h1 : PS X st t1) (h : ∀ N : L2.St → Hp → Prop, (∀ σ H, Post σ H → N σ H) → ∀ σ H, Pre σ H → t1 { D with nx := N } σ H) (r : Tail X ss D Post) : Tail X (st :: ss) D Pre := by
  obtain ⟨t, h2, h3⟩ := r
  exact ⟨_, pss_cons h1 h2, fun σ H p => h _ h3 σ H p⟩
/-- cells, kinds, glues as they stand -/
structure WSt (K : PySem.W.Frag) (w : World) (T : Tb) (H0 H : Hp) (pn cl : Addr) (m : Nat) (l kl g : Addr) (cs : List Pl) (ks : List Dm) (es : Es) : Prop where
  go : Go T [pn] H0 H
  nl : Nw H0 l
  nk : Nw H0 kl
  ng : Nw H0 g
  ne : l ≠ kl
  P : PenB H pn cl m
  L : LstW K H l (cs.map pd)
  Kd : LstW K H kl ks
  G : DicW K w H g es
  c0 : cs ≠ []
  c10 : cs.length ≤ 10
  kok : ∀ kd ∈ ks, ∃ k4, kd = .tup k4 ∧ KindOk k4
  all : GlAll es
section
variable {K : PySem.W.Frag} {w : World} {T : Tb} {H0 H H' : Hp} {pn cl l kl g q : Addr} {m m' m0 : Nat} {cs : List Pl} {ks ks' : List Dm} {es es' : Es}
theorem PenB.nwp (B : PenB H pn cl m) (h : Nw H q) : pn ≠ q := let ⟨_, _, _, _, _, b⟩ := B.ex; h.ne b.p fun _ z => nomatch z
theorem PenB.nwc (B : PenB H pn cl m) (h : Nw H q) : cl ≠ q := let ⟨_, _, _, _, _, b⟩ := B.ex; h.ne b.c fun _ z => nomatch z
theorem WSt.le (W : WSt K w T H0 H pn cl m l kl g cs ks es) (h : m ≤ m') : WSt K w T H0 H pn cl m' l kl g cs ks es := { W with P := W.P.le h }
theorem WSt.up (W : WSt K w T H0 H pn cl m l kl g cs ks es) (x : Go T [] H H') : WSt K w T H0 H' pn cl m l kl g cs ks es :=
  { W with go := W.go.trans x.up, P := W.P.up x, L := W.L.go x (by simp), Kd := W.Kd.go x (by simp), G := W.G.go x (by simp) }
theorem DicW.pne (G : DicW K w H g es) (B : PenB H pn cl m) : g ∉ [pn] := fun z => by
  obtain ⟨_, e⟩ := B.pd
  obtain ⟨_, e2, _⟩ := G.ex
  rw [List.mem_singleton.mp z, e] at e2
  unfold DicO at e2
  cases e2
theorem WSt.draw (W : WSt K w T H0 H pn cl m l kl g cs ks es) (x : Go T [pn] H H') (p : PenB H' pn cl m') : WSt K w T H0 H' pn cl m' l kl g cs ks es :=
  { W with go := W.go.trans x, P := p, L := W.L.goP x W.P, Kd := W.Kd.goP x W.P, G := W.G.go x (DicW.pne W.G W.P) }
/-- a new list or dict of the def's own is changed -/
theorem WSt.own (W : WSt K w T H0 H pn cl m l kl g cs ks es) (x : Go T [q] H H') (h : H q = none) : WSt K w T H0 H' pn cl m l kl g cs ks es :=
  W.up (x.drop h)
/-- kinds grow -/
theorem WSt.addK (W : WSt K w T H0 H pn cl m l kl g cs ks es) (P0 : PenB H0 pn cl m0) (x : Go T [kl] H H') (k' : LstW K H' kl ks') (ok : ∀ kd ∈ ks', ∃ k4, kd = .tup k4 ∧ KindOk k4) : WSt K w T H0 H' pn cl m l kl g cs ks' es := by
  have n1 : pn ∉ [kl] := fun z => P0.nwp W.nk (List.mem_singleton.mp z)
  have n2 : cl ∉ [kl] := fun z => P0.nwc W.nk (List.mem_singleton.mp z)
  refine { W with go := ?_, P := W.P.go x n1 n2, L := W.L.go x (fun z => W.ne (List.mem_singleton.mp z)), Kd := k', G := W.G.go x (fun z => ?_), kok := ok }
  · exact ((W.go.mono (S' := [kl, pn]) (by simp)).trans (x.mono (by simp))).dropN W.nk
  · obtain ⟨_, e2, _⟩ := W.G.ex
    exact W.Kd.no_dic e2 (List.mem_singleton.mp z)
/-- glues grow -/
theorem WSt.addG (W : WSt K w T H0 H pn cl m l kl g cs ks es) (P0 : PenB H0 pn cl m0) (x : Go T [g] H H') (g' : DicW K w H' g es') (ok : GlAll es') : WSt K w T H0 H' pn cl m l kl g cs ks es' := by
  have n1 : pn ∉ [g] := fun z => P0.nwp W.ng (List.mem_singleton.mp z)
  have n2 : cl ∉ [g] := fun z => P0.nwc W.ng (List.mem_singleton.mp z)
  obtain ⟨_, e2, _⟩ := W.G.ex
  refine { W with go := ?_, P := W.P.go x n1 n2, L := W.L.go x (fun z => W.L.no_dic e2 (List.mem_singleton.mp z).symm), Kd := W.Kd.go x (fun z => W.Kd.no_dic e2 (List.mem_singleton.mp z).symm), G := g', all := ok }
  exact ((W.go.mono (S' := [g, pn]) (by simp)).trans (x.mono (by simp))).dropN W.ng
end
/-- the kind that the glues tell of a cell -/
def kindOf (es : Es) (c : Pl) : List Dm := [0, 1, 2, 3].map fun i => (look es (gk c i)).getD .none
theorem kindOf_get {es : Es} {c : Pl} {i : Nat} {d : Dm} (hi : i < 4) (h : look es (gk c i) = some d) : (kindOf es c)[i]? = some d := by
  unfold kindOf
  rw [List.getElem?_map]
  rcases four hi with rfl | rfl | rfl | rfl <;> (show some ((look es (gk c _)).getD .none) = some _) <;> rw [h] <;> rfl
theorem kindOf_ok {es : Es} {c : Pl} (ha : GlAll es) (h : ∀ i, i < 4 → (look es (gk c i)).isSome = true) : KindOk (kindOf es c) := by
  refine ⟨rfl, fun g hg => ?_⟩
  obtain ⟨i, hi, rfl⟩ := List.mem_map.mp hg
  have hi4 : i < 4 := by simp at hi; omega
  obtain ⟨d, hd⟩ := Option.isSome_iff_exists.mp (h i hi4)
  rw [hd]
  exact ha _ _ hd
/-- glues are only added -/
def Grow (es es' : Es) : Prop := ∀ k d, look es k = some d → look es' k = some d
theorem Grow.refl {es : Es} : Grow es es := fun _ _ h => h
theorem Grow.trans {a b c : Es} (x : Grow a b) (y : Grow b c) : Grow a c := fun k d h => y k d (x k d h)
theorem Grow.put {es : Es} {k d : Dm} (h : look es k = none) : Grow es (putD es k d) := fun j e he => by
  rw [look_putD, if_neg]
  · exact he
  · intro z; rw [z, h] at he; cases he
theorem Grow.some {es es' : Es} (g : Grow es es') {k : Dm} (h : (look es k).isSome = true) : (look es' k).isSome = true := by
  obtain ⟨d, hd⟩ := Option.isSome_iff_exists.mp h
  rw [g k d hd]
  rfl
theorem Grow.kind {es es' : Es} (g : Grow es es') {c : Pl} (h : ∀ i, i < 4 → (look es (gk c i)).isSome = true) : kindOf es' c = kindOf es c := by
  unfold kindOf
  refine List.map_congr_left fun i hi => ?_
  have hi4 : i < 4 := by simp at hi; omega
  obtain ⟨d, hd⟩ := Option.isSome_iff_exists.mp (h i hi4)
  rw [hd, g _ _ hd]
theorem KindOk.dep {ks : List Dm} (h : KindOk ks) : NestedKey.depth (.tup ks) ≤ 8 := by
  have : ∀ l : List Dm, (∀ g ∈ l, Glue g) → NestedKey.depthAll l ≤ 7 := by
    intro l
    induction l with
    | nil => intro _; simp [NestedKey.depthAll]
    | cons a l ih =>
      intro h
      have h1 := (h a List.mem_cons_self).depth
      have h2 := ih fun g hg => h g (List.mem_cons_of_mem _ hg)
      simp [NestedKey.depthAll]
      omega
  have := this ks h.glu
  simp [NestedKey.depth]
  omega
end
end TG

/-! The law's defs: world, its first phase: cells, kinds, glues, the seed's kind. -/
namespace TG
open PySem PySem.Spec L2 TGr LamX
open PyProof.Rows hiding St
section
variable {P : Program} {w : World} {K : PySem.W.Frag} {mg : Str → Option Value} {base : Heap} {f fD fK fA fP fE fO fL fS c PT : Addr} {fd fdD fdK fdA fdP fdE fdO fdL fdS : FuncData}
theorem at_zero (x : Dm) (xs : List Dm) : atI (x :: xs) 0 = some x := by
  have : atI (x :: xs) ((0 : Nat) : Int) = some x := atI_nat rfl
  exact this
/-- behind the seed's kind -/
def PoA (K : PySem.W.Frag) (w : World) (T : Tb) (H0 : Hp) (pn cl : Addr) (m k : Nat) (mx : Int) (M : Nat) (B : Nat) : L2.St → Hp → Prop := fun σ H => ∃ (l kl g : Addr) (cs : List Pl) (ks : List Dm) (es : Es) (sk : Nat) (o6 o7 o8 o10 o11 o12 o13 o19 : Option V),
  σ = [some (.ref pn), some (.int k), some (.int mx), some (.ref l), some (.ref kl), some (.ref g), o6, o7, o8, some (.int sk), o10, o11, o12, o13, none, none, none, none, none, o19] ∧ WSt K w T H0 H pn cl (m + M) l kl g cs ks es ∧ (∀ c ∈ cs, ∀ i, i < 4 → (look es (gk c i)).isSome = true) ∧ sk < ks.length ∧ ks.length ≤ B
variable {A : Around} {outer : List Env} {s : Shared} {H0 : Hp} {E : XK} {D : Ends}
theorem wor_A (T : Tb) (B : Blt mg) (hr : Room 4 (A.deeper (envOfC "_law_t2_world" (defScope sWor) s.heap.objs.size f (.ref c))))
    (FD : TopF K mg "_law_draw" sDraw ["_law_pen_here", "_law_many"] fD fdD) (GD : FnOk P w K mg base CX0 1 fD fdD ["_law_pen_here", "_law_many"] (spDraw T))
    (FP : TopF K mg "_law_t2_patch" sPat ["_law_pen_here", "_law_many"] fP fdP) (GP : FnOk P w K mg base CX0 3 fP fdP ["_law_pen_here", "_law_many"] (spPat K T))
    (FE : TopF K mg "_law_t2_edge_glues" sEdge ["_law_pen_here", "_law_cells", "_law_mixture"] fE fdE) (GE : FnOk P w K mg base CX0 4 fE fdE ["_law_pen_here", "_law_cells", "_law_mixture"] (spEdge K w T))
    (FO : TopF K mg "_law_t2_outer_glue" sOut ["_law_pen_here", "_law_mixture"] fO fdO) (GO : FnOk P w K mg base CX0 2 fO fdO ["_law_pen_here", "_law_mixture"] (spOut K T))
    {pn cl : Addr} {m k : Nat} {mx : Int} (hP : PenB H0 pn cl m) (k0 : 0 < k) (k1 : k ≤ 10) (hm : m + 2000 ≤ 1000000000)
    (R : Tail (XW P w K mg base f c A outer s H0 E) ((defBody sWor).drop 4) D (PoA K w T H0 pn cl m k mx 1400 10)) :
    Tail (XW P w K mg base f c A outer s H0 E) (defBody sWor) D (fun σ H => σ = L2.start nWor [.ref pn, .int k, .int mx] ∧ H = H0) := by
  have st3 : Tail (XW P w K mg base f c A outer s H0 E) ((defBody sWor).drop 3) D (fun σ H => ∃ (l kl g : Addr) (c0 : Pl) (cs : List Pl) (ks : List Dm) (es : Es) (o6 o7 o8 : Option V),
      σ = [some (.ref pn), some (.int k), some (.int mx), some (.ref l), some (.ref kl), some (.ref g), o6, o7, o8, none, none, none, none, none, none, none, none, none, none, none] ∧ WSt K w T H0 H pn cl (m + 1400) l kl g (c0 :: cs) ks es ∧ (∀ c ∈ c0 :: cs, ∀ i, i < 4 → (look es (gk c i)).isSome = true) ∧ ks.length ≤ 10 ∧ ∃ rest, ks = .tup (kindOf es c0) :: rest) := by
    refine Tail.cons (st := _) (ps_set (i := 9) scWor.nd rfl (.inl rfl) (pe_bm PySem.F.plainAttrs_list PySem.F.slot_list_index PySem.F.type_list_index (mt_indexT (Room.u65 hr)) (pv 4) (pa_cons (pe_callTy (call_tupL T) (by rfl) B.tuple boot_tuple (pa_cons (pe_lc (own := [("_law_side", 7)]) (g := gName 7) (te := tOp (rIxD K w) (tVar 5) (tTupD K T (tCons (tOp (rIxL' K) (tVar 3) (tC (.int 0))) (tCons (tVar 7) tNil)))) (by rfl) scWor.nd (pi_range1 rfl B.range (pa_cons pe_int pa_nil))
            (blkOk_by (own := [("_law_side", 7)]) (N := nWor) (sc := defScope sWor) (by decide +kernel)) (fun _ _ _ _ _ => pg_name (i := 7) scWor.nd rfl (Or.inl rfl)) (fun _ _ _ _ _ => pts_nil) (fun _ _ _ _ _ => pe_ix (ix_D (Room.u9 hr)) (pv 5) (pe_tupD T (pa_cons (pe_ix ix_DL (pv 3) pe_int (fun _ _ => rfl)) (pa_cons (pv 7) pa_nil))) (fun _ _ => rfl))) pa_nil)) pa_nil))) (fun N hN => ?_) R
    rintro σ H ⟨l, kl, g, c0, cs, ks, es, o6, o7, o8, rfl, W, has, kl10, rest, hks⟩
    have hc0 : ∀ i, i < 4 → (look es (gk c0 i)).isSome = true := has c0 List.mem_cons_self
    have kk := kindOf_ok W.all hc0
    obtain ⟨ys, hky, _⟩ := id W.Kd.ex
    refine ⟨_, rfl, .inl ⟨rfl, _, .inl (.inl hky)⟩, 4, rfl, by decide, by decide, fun D' nD => ?_⟩
    refine lc_D (K := K) T (walk_range (lo := 0) (n := 4)) nD (fun i ds H1 => Go T [D'] H H1 ∧ ds = (kindOf es c0).take i) (fun H1 g' _ => ⟨g'.up, by simp⟩) (fun _ _ _ _ _ => trivial) ?_ ?_
    · rintro i ds x H1 H1' hi ⟨g1, rfl⟩ D1 ⟨rfl, rfl⟩
      have W1 := W.own g1 nD
      obtain ⟨d, hd⟩ := Option.isSome_iff_exists.mp (hc0 i hi)
      refine ⟨rfl, yesT ⟨_, rfl, _, rfl, (c0 :: cs).map pd, 0, pd c0, .inl W1.L.ls, rfl, at_zero _ _, fun v hv => ⟨_, rfl, [pd c0, .num i], .cons hv (.cons (show Dat K H1' (.num (i : Int)) (.int (0 + (i : Int))) by rw [Int.zero_add]; exact .num _) .nil), sz2, fun p2 H2 n2 g2 d2 => ?_⟩⟩⟩
      refine ⟨g, es, gk c0 i, d, rfl, (W1.up g2).G.toD, d2, gk_depth _ _, hd, fun v2 hv2 => lcN T (D1.go g2 (by simp)) hv2 ?_ fun H3 g3 L3 => ⟨(g1.trans g2.up).trans g3, ?_⟩⟩
      · rw [List.length_take]
        exact lsz (by have : i < 4 := hi; omega)
      · rw [List.take_succ, kindOf_get hi hd]
        rfl
    · rintro ds H1 ⟨g1, rfl⟩ D1
      have W1 := W.own g1 nD
      refine ⟨_, .ref D', rfl, .inl D1.ls, fun v H2 g2 d2 => ?_⟩
      have W2 := W1.up g2
      have e4 : (kindOf es c0).take 4 = kindOf es c0 := by rw [List.take_of_length_le (Nat.le_of_eq kk.len)]
      rw [e4] at d2
      refine ⟨v, .tup (kindOf es c0), ks, rfl, W2.Kd.ls, d2, fun e he => ?_, Nat.le_trans kk.dep (by decide), by rw [hks]; exact List.mem_cons_self, fun j hj => hN _ _ ⟨l, kl, g, c0 :: cs, ks, es, j, _, _, _, _, _, _, _, _, rfl, W2, has, ?_, kl10⟩⟩
      · obtain ⟨k4, rfl, hk4⟩ := W.kok e he
        exact Nat.le_trans hk4.dep (by decide)
      · exact (List.getElem?_eq_some_iff.mp hj).1
  have st2 : Tail (XW P w K mg base f c A outer s H0 E) ((defBody sWor).drop 2) D (fun σ H => ∃ (l kl g : Addr) (c0 : Pl) (cs : List Pl) (es : Es),
      σ = [some (.ref pn), some (.int k), some (.int mx), some (.ref l), some (.ref kl), some (.ref g), none, none, none, none, none, none, none, none, none, none, none, none, none, none] ∧ WSt K w T H0 H pn cl (m + 1150) l kl g (c0 :: cs) [] es ∧ es.length ≤ 100) := by
    refine Tail.cons (st := _) (ps_for PassesOwn.never rfl (pi_list (pv 3)) (pg_name (i := 6) scWor.nd rfl (.inr rfl))
        (pss_cons (ps_for PassesOwn.never rfl (pi_range1 rfl B.range (pa_cons pe_int pa_nil)) (pg_name (i := 7) scWor.nd rfl (.inl rfl))
          (pss_one (ps_if (pt_cmpR (op_notInD (Room.u9 hr)) (pe_tupD T (pa_cons (pv 6) (pa_cons (pv 7) pa_nil))) (pv 5) rfl)
            (pss_one (ps_asg (pe_call GO (hr.mono (by decide)) (by rfl) FO.mg FO.fn.kp FO.b .nil pass0 (pa_cons (pv 0) (pa_cons (pv 2) pa_nil))) (pg_sub (pv 5) (pe_tupD T (pa_cons (pv 6) (pa_cons (pv 7) pa_nil))) (put_D T (Room.u9 hr))))) pss_nil)))
        (pss_cons (ps_set (i := 8) scWor.nd rfl (.inr rfl) (pe_callTy (call_tupL T) (by rfl) B.tuple boot_tuple (pa_cons (pe_lc (own := [("_law_side", 7)]) (g := gName 7) (te := tOp (rIxD K w) (tVar 5) (tTupD K T (tCons (tVar 6) (tCons (tVar 7) tNil)))) (by rfl) scWor.nd (pi_range1 rfl B.range (pa_cons pe_int pa_nil))
            (blkOk_by (own := [("_law_side", 7)]) (N := nWor) (sc := defScope sWor) (by decide +kernel)) (fun _ _ _ _ _ => pg_name (i := 7) scWor.nd rfl (Or.inl rfl)) (fun _ _ _ _ _ => pts_nil) (fun _ _ _ _ _ => pe_ix (ix_D (Room.u9 hr)) (pv 5) (pe_tupD T (pa_cons (pv 6) (pa_cons (pv 7) pa_nil))) (fun _ _ => rfl))) pa_nil)))
        (pss_one (ps_if (PW.pt (pw_or (pt_cmpR (TG.op_notInT (Room.u65 hr)) (pv 8) (pv 4) rfl) (pw_or1 (pt_cmpR op_eq (pe_call GD (hr.mono (by decide)) (by rfl) FD.mg FD.fn.kp FD.b .nil pass0 (pa_cons (pv 0) (pa_cons pe_int pa_nil))) pe_int (nomark _)))))
          (pss_one (ps_expr (pe_bm PySem.F.plainAttrs_list PySem.F.slot_list_append PySem.F.type_list_append (mt_appD T) (pv 4) (pa_cons (pv 8) pa_nil)))) pss_nil))))) (fun N hN => ?_) st3
    rintro σ H ⟨l, kl, g, c0, cs, es, rfl, W, he100⟩
    refine ⟨_, rfl, l, rfl, (let ⟨ys, h, _⟩ := W.L.ex; ⟨ys, .inl (.inl h)⟩), for_it (walk_L (ds := (c0 :: cs).map pd)) (fun i σ H1 => ∃ (ks : List Dm) (es' : Es) (o6 o7 o8 : Option V), σ = [some (.ref pn), some (.int k), some (.int mx), some (.ref l), some (.ref kl), some (.ref g), o6, o7, o8, none, none, none, none, none, none, none, none, none, none, none] ∧
      WSt K w T H0 H1 pn cl (m + 1150 + 13 * i) l kl g (c0 :: cs) ks es' ∧ (∀ c ∈ (c0 :: cs).take i, ∀ j, j < 4 → (look es' (gk c j)).isSome = true) ∧ ks.length ≤ i ∧ es'.length ≤ 100 + 4 * i ∧ (0 < i → ∃ rest, ks = .tup (kindOf es' c0) :: rest))
      ⟨[], es, _, _, _, rfl, W, fun _ z => by simp at z, Nat.le_refl _, he100, fun z => absurd z (Nat.lt_irrefl _)⟩ (fun i σ H1 _ ⟨_, _, _, _, _, _, W, _⟩ => W.L.ls) ?_ ?_⟩
    · rintro i x σ H1 H1' hi ⟨ks, es', o6, o7, o8, rfl, W1, has, hks, hes, hfst⟩ ⟨rfl, d, hd, hx⟩
      obtain ⟨cc, hcc, rfl⟩ : ∃ cc, (c0 :: cs)[i]? = some cc ∧ pd cc = d := by
        rw [List.getElem?_map] at hd
        obtain ⟨r, h1, h2⟩ := Option.map_eq_some_iff.mp hd
        exact ⟨r, h1, h2⟩
      have hi10 : i < 10 := by
        have h1 := W1.c10
        have h2 := (List.getElem?_eq_some_iff.mp hcc).1
        omega
      refine ⟨4, rfl, by decide, by decide, for_range (n := 4) (fun j σ H2 => ∃ (e2 : Es) (o7 : Option V), σ = [some (.ref pn), some (.int k), some (.int mx), some (.ref l), some (.ref kl), some (.ref g), some x, o7, o8, none, none, none, none, none, none, none, none, none, none, none] ∧
        WSt K w T H0 H2 pn cl (m + 1150 + 13 * i + 3 * j) l kl g (c0 :: cs) ks e2 ∧ Grow es' e2 ∧ (∀ j', j' < j → (look e2 (gk cc j')).isSome = true) ∧ e2.length ≤ es'.length + j ∧ Dat K H2 (pd cc) x)
        ⟨es', _, rfl, W1, .refl, fun _ z => absurd z (Nat.not_lt_zero _), Nat.le_refl _, hx⟩ ?_ ?_⟩
      · rintro j σ H2 hj ⟨e2, o7, rfl, W2, hgr, hj2, hl2, hx2⟩
        have num0 : ∀ {H : Hp}, Dat K H (.num (j : Int)) (.int (0 + (j : Int))) := fun {H} => by rw [Int.zero_add]; exact .num _
        refine ⟨_, rfl, _, rfl, [pd cc, .num j], .cons hx2 (.cons num0 .nil), sz2, fun p3 H3 n3 g3 d3 => ⟨_, rfl, g, e2, gk cc j, rfl, (W2.up g3).G.toD, d3, gk_depth _ _, _, rfl, ?_⟩⟩
        cases e : look e2 (gk cc j) with
        | some gd =>
          refine iteF ⟨e2, _, rfl, (W2.up g3).le (by omega), hgr, fun j' hj' => ?_, by omega, g3.dat hx2⟩
          rcases Nat.lt_succ_iff_lt_or_eq.mp hj' with z | z
          · exact hj2 j' z
          · rw [z, e]; rfl
        | none =>
          refine iteT ⟨_, rfl, _, rfl, pn, cl, m + 1150 + 13 * i + 3 * j, mx, rfl, (W2.up g3).P, by omega, fun gd v H4 hg g4 P4 hv => ?_⟩
          have W4 := (W2.up g3).draw g4 P4
          refine ⟨_, rfl, _, rfl, _, rfl, [pd cc, .num j], .cons (g4.dat (g3.dat hx2)) (.cons num0 .nil), sz2, fun p5 H5 n5 g5 d5 => ?_⟩
          refine ⟨g, e2, gk cc j, gd, rfl, (W4.up g5).G, d5, gk_depth _ _, g5.dat hv, lsz (by omega), fun H6 g6 W6 => ⟨_, _, rfl, ((W4.up g5).addG hP g6 W6 (W2.all.put hg)).le (by omega), hgr.trans (.put e), fun j' hj' => ?_, by have := putD_len e2 (gk cc j) gd; omega, g6.dat (g5.dat (g4.dat (g3.dat hx2)))⟩⟩
          rcases Nat.lt_succ_iff_lt_or_eq.mp hj' with z | z
          · exact (Grow.put e).some (hj2 j' z)
          · rw [z, look_putD, if_pos rfl]; rfl
      · rintro σ H2 ⟨e2, o7, rfl, W2, hgr, hj2, hl2, hx2⟩
        have kk := kindOf_ok W2.all hj2
        have e4 : (kindOf e2 cc).take 4 = kindOf e2 cc := by rw [List.take_of_length_le (Nat.le_of_eq kk.len)]
        refine ⟨4, rfl, by decide, by decide, fun D' nD => ?_⟩
        refine lc_D (K := K) T (walk_range (lo := 0) (n := 4)) nD (fun j ds H3 => Go T [D'] H2 H3 ∧ ds = (kindOf e2 cc).take j) (fun H3 g' _ => ⟨g'.up, by simp⟩) (fun _ _ _ _ _ => trivial) ?_ ?_
        · rintro j ds y H3 H3' hj ⟨g3, rfl⟩ D3 ⟨rfl, rfl⟩
          have W3 := W2.own g3 nD
          obtain ⟨dd, hdd⟩ := Option.isSome_iff_exists.mp (hj2 j hj)
          refine ⟨rfl, yesT ⟨_, rfl, _, rfl, _, rfl, [pd cc, .num j], .cons (g3.dat hx2) (.cons (show Dat K H3' (.num (j : Int)) (.int (0 + (j : Int))) by rw [Int.zero_add]; exact .num _) .nil), sz2, fun p4 H4 n4 g4 d4 => ?_⟩⟩
          refine ⟨g, e2, gk cc j, dd, rfl, (W3.up g4).G.toD, d4, gk_depth _ _, hdd, fun v2 hv2 => lcN T (D3.go g4 (by simp)) hv2 ?_ fun H5 g5 L5 => ⟨(g3.trans g4.up).trans g5, ?_⟩⟩
          · rw [List.length_take]
            exact lsz (by have : j < 4 := hj; omega)
          · rw [List.take_succ, kindOf_get hj hdd]
            rfl
        · rintro ds H3 ⟨g3, rfl⟩ D3
          have W3 := W2.own g3 nD
          refine ⟨_, .ref D', rfl, .inl D3.ls, fun v H4 g4 d4 => ?_⟩
          rw [e4] at d4
          have W4 := W3.up g4
          have kdep := kk.dep
          have d60 : ∀ e ∈ ks, e.depth ≤ 60 := fun e he => by
            obtain ⟨k4, rfl, hk4⟩ := W1.kok e he
            exact Nat.le_trans hk4.dep (by decide)
          have has' : ∀ c ∈ (c0 :: cs).take (i + 1), ∀ j, j < 4 → (look e2 (gk c j)).isSome = true := fun c hc j hj => by
            rw [List.take_succ, hcc] at hc
            rcases List.mem_append.mp hc with z | z
            · exact hgr.some (has c z j hj)
            · rw [List.mem_singleton.mp z]; exact hj2 j hj
          have hfst' : 0 < i → ∃ rest, ks = .tup (kindOf e2 c0) :: rest := fun h0 => by
            obtain ⟨rest, e⟩ := hfst h0
            refine ⟨rest, ?_⟩
            rw [e, hgr.kind (has c0 (by obtain ⟨i', rfl⟩ : ∃ i', i = i' + 1 := ⟨i - 1, by omega⟩; simp))]
          have c0i : i = 0 → cc = c0 := fun h0 => by subst h0; exact (Option.some.inj hcc).symm
          have app : ∀ {H5 : Hp} {M : Nat} (W5 : WSt K w T H0 H5 pn cl M l kl g (c0 :: cs) ks e2), Dat K H5 (.tup (kindOf e2 cc)) v → M ≤ m + 1150 + 13 * (i + 1) → ∃ ys, H5 kl = some (.lst ys) ∧ rAppD K T (.ref kl) [v] H5 fun _ H6 => WSt K w T H0 H6 pn cl (m + 1150 + 13 * (i + 1)) l kl g (c0 :: cs) (ks ++ [.tup (kindOf e2 cc)]) e2 := fun {H5 M} W5 dv hM => by
            obtain ⟨ys, hky, _⟩ := id W5.Kd.ex
            refine ⟨ys, hky, kl, ks, _, v, rfl, rfl, W5.Kd, dv, lsz (by omega), fun H6 g6 K6 => (W5.addK hP g6 K6 fun kd hk => ?_).le hM⟩
            rcases List.mem_append.mp hk with z | z
            · exact W5.kok kd z
            · rw [List.mem_singleton.mp z]; exact ⟨_, rfl, kk⟩
          have fin : ∃ rest, ks ++ [.tup (kindOf e2 cc)] = .tup (kindOf e2 c0) :: rest := by
            by_cases h0 : 0 < i
            · obtain ⟨rest, e⟩ := hfst' h0
              exact ⟨rest ++ [.tup (kindOf e2 cc)], by rw [e]; rfl⟩
            · have h0 : i = 0 := by omega
              have : ks = [] := List.eq_nil_of_length_eq_zero (by omega)
              exact ⟨[], by rw [this, c0i h0]; rfl⟩
          refine ⟨_, rfl, _, rfl, _, _, d4, W4.Kd.ls, Nat.le_trans kdep (by decide), d60, _, rfl, ?_⟩
          by_cases cin : (.tup (kindOf e2 cc)) ∈ ks
          · rw [decide_eq_true cin]
            refine iteF ⟨_, rfl, pn, cl, _, 4, rfl, W4.P, by decide, by decide, by omega, fun r H5 hr5 g5 P5 => ⟨rfl, _, rfl, ?_⟩⟩
            have W5 := W4.draw g5 P5
            by_cases c4 : V.int r = V.int 0
            · obtain ⟨ys, hky, ap⟩ := app W5 (g5.dat d4) (by omega)
              obtain ⟨ka, kds, kd, kv, e1, e2', K1, K2, K3, K4⟩ := ap
              refine iteTp c4 ⟨_, rfl, .inl ⟨rfl, _, .inl (.inl hky)⟩, _, rfl, ka, kds, kd, kv, e1, e2', K1, K2, K3, fun H6 g6 L6 => ⟨_, e2, _, _, _, rfl, K4 H6 g6 L6, has', by rw [List.length_append, List.length_singleton]; omega, by omega, fun _ => fin⟩⟩
            · have h0 : 0 < i := Nat.pos_of_ne_zero fun h0 => by
                have : ks = [] := List.eq_nil_of_length_eq_zero (by omega)
                rw [this] at cin
                cases cin
              exact iteFp c4 ⟨ks, e2, _, _, _, rfl, W5.le (by omega), has', by omega, by omega, fun _ => hfst' h0⟩
          · rw [decide_eq_false cin]
            obtain ⟨ys, hky, ap⟩ := app W4 d4 (by omega)
            obtain ⟨ka, kds, kd, kv, e1, e2', K1, K2, K3, K4⟩ := ap
            refine iteT ⟨_, rfl, .inl ⟨rfl, _, .inl (.inl hky)⟩, _, rfl, ka, kds, kd, kv, e1, e2', K1, K2, K3, fun H6 g6 L6 => ⟨_, e2, _, _, _, rfl, K4 H6 g6 L6, has', by rw [List.length_append, List.length_singleton]; omega, by omega, fun _ => fin⟩⟩
    · rintro σ H1 ⟨ks, es', o6, o7, o8, rfl, W1, has, hks, hes, hfst⟩
      rw [List.length_map] at has hks hfst W1
      rw [List.take_length] at has
      have := W1.c10
      exact hN _ _ ⟨l, kl, g, c0, cs, ks, es', _, _, _, rfl, W1.le (by omega), has, by omega, hfst (by simp)⟩
  have st1 : Tail (XW P w K mg base f c A outer s H0 E) ((defBody sWor).drop 1) D (fun σ H => ∃ (l kl : Addr) (cs : List Pl),
      σ = [some (.ref pn), some (.int k), some (.int mx), some (.ref l), some (.ref kl), none, none, none, none, none, none, none, none, none, none, none, none, none, none, none] ∧ Go T [pn] H0 H ∧ Nw H0 l ∧ Nw H0 kl ∧ l ≠ kl ∧ PenB H pn cl (m + 50) ∧ LstW K H l (cs.map pd) ∧ LstW K H kl [] ∧ cs ≠ [] ∧ cs.length ≤ 10) := by
    refine Tail.cons (st := _) (ps_set (i := 5) scWor.nd rfl (.inr rfl) (pe_call GE hr (by rfl) FE.mg FE.fn.kp FE.b .nil pass0 (pa_cons (pv 0) (pa_cons (pv 3) (pa_cons (pv 2) pa_nil))))) (fun N hN => ?_) st2
    rintro σ H ⟨l, kl, cs, rfl, g0, nl, nk, ne, P1, L1, K1, cne, c10⟩
    refine ⟨_, rfl, _, rfl, _, rfl, pn, cl, l, m + 50, cs, mx, rfl, P1, L1, c10, by omega, fun g es H2 ng g2 P2 W2 hall he => ?_⟩
    have ngH : Nw H0 g := by
      refine g0.nw ng fun z => ?_
      obtain ⟨_, e⟩ := P1.pd
      rw [List.mem_singleton.mp z] at ng
      obtain ⟨_, q⟩ := ng _ e
      cases q
    cases cs with
    | nil => exact absurd rfl cne
    | cons c0 cs => exact hN _ _ ⟨l, kl, g, c0, cs, es, rfl, ⟨g0.trans g2, nl, nk, ngH, ne, P2.le (by omega), L1.goP g2 P1, K1.goP g2 P1, W2, cne, c10, fun _ z => (nomatch z), hall⟩, he⟩
  refine Tail.cons (st := _) (ps_asg (pe_tupG T (pa_cons (pe_call GP (hr.mono (by decide)) (by rfl) FP.mg FP.fn.kp FP.b .nil pass0 (pa_cons (pv 0) (pa_cons (pv 1) pa_nil))) (pa_cons (pe_lstD T pa_nil) pa_nil))) (pg_tup (by rfl) (pgs_cons (pg_name (i := 3) scWor.nd rfl (.inr rfl)) (pgs_cons (pg_name (i := 4) scWor.nd rfl (.inl rfl)) pgs_nil))) (by rfl)) (fun N hN => ?_) st1
  rintro σ H ⟨rfl, rfl⟩
  refine ⟨_, rfl, _, rfl, pn, cl, m, k, rfl, hP, k0, k1, by omega, fun l cs H1 nl cne c10 g1 P1 L1 => ⟨[], .nil, sz0, fun kl H2 nk g2 K2 => ⟨sz2, fun p H3 np g3 h3 => ⟨p, _, rfl, .inl (.inl h3), rfl, _, _, rfl, _, _, rfl, rfl, ?_⟩⟩⟩⟩
  refine hN _ _ ⟨l, kl, cs, rfl, (g1.trans g2.up).trans g3.up, nl, g1.nw (.none nk) (fun z => P1.pne nk (List.mem_singleton.mp z).symm), L1.ne nk, (P1.up g2).up g3, (L1.go g2 (by simp)).go g3 (by simp), K2.go g3 (by simp), cne, c10⟩
end
end TG

/-! The law's defs: world: late rivals. -/
namespace TG
open PySem PySem.Spec L2 TGr LamX
open PyProof.Rows hiding St
theorem for_open {wi : TI} {g : L2.TG} {tb : TS} {D : Ends} {σ : L2.St} {H : Hp} (h : wi σ H fun J H1 => ∃ W : Nat → Nat → L2.St → Hp → Prop, (∃ m, W 0 m σ H1) ∧ ∀ i m σ H, W i m σ H →
  (J.stop i H ∧ D.nx σ H) ∨ (J.go i H ∧ ∃ N : L2.St → Hp → Prop, (∀ σ' H', N σ' H' → ∃ m', m' < m ∧ W (i + 1) m' σ' H') ∧ ∀ x H', J.yld i H x H' → g x σ H' fun σ2 H2 => tb { D with nx := N, ct := N, bk := D.nx } σ2 H2)) : tFor wi g tb D σ H := h
/-- range of a number that is told by two ways -/
theorem rng_key {ta : TA} {σ : L2.St} {H : Hp} {R : It → Hp → Prop} (Pr : Nat → Hp → Prop) (h2 : ∀ n H1, n ≤ 100000 → Pr n H1 → R (Itr 0 n) H1)
    (h1 : (∀ (n : Nat) H1, n ≤ 100000 → Pr n H1 → ∃ j : Int, [V.int n] = [V.int j] ∧ -(2 ^ 62) ≤ j ∧ j < 2 ^ 62 ∧ R (Itr 0 j.toNat) H1) → iRng1 ta σ H R) : iRng1 ta σ H R :=
  h1 fun n H1 hn p => ⟨n, rfl, by omega, by omega, h2 n H1 hn p⟩
theorem WSt.drawN {K : PySem.W.Frag} {w : World} {T : Tb} {H0 H H' : Hp} {pn cl l kl g q : Addr} {m m' : Nat} {cs : List Pl} {ks : List Dm} {es : Es} (W : WSt K w T H0 H pn cl m l kl g cs ks es) (x : Go T [q, pn] H H') (h : Nw H q) (p : PenB H' pn cl m') : WSt K w T H0 H' pn cl m' l kl g cs ks es := W.draw (x.dropN h) p
theorem kok60 {ks : List Dm} (h : ∀ kd ∈ ks, ∃ k4, kd = .tup k4 ∧ KindOk k4) : ∀ e ∈ ks, e.depth ≤ 60 := fun e he => by
  obtain ⟨k4, rfl, hk4⟩ := h e he
  exact Nat.le_trans hk4.dep (by decide)
theorem KindOk.d60 {ks : List Dm} (h : KindOk ks) : ∀ e ∈ ks, e.depth ≤ 60 := fun e he => (h.glu e he).d60
section
variable {P : Program} {w : World} {K : PySem.W.Frag} {mg : Str → Option Value} {base : Heap} {f fD fK fL c : Addr} {fd fdD fdK fdL : FuncData}
variable {A : Around} {outer : List Env} {s : Shared} {H0 : Hp} {E : XK} {D : Ends}
theorem wor_C (T : Tb) (B : Blt mg) (hr : Room 4 (A.deeper (envOfC "_law_t2_world" (defScope sWor) s.heap.objs.size f (.ref c))))
    (FD : TopF K mg "_law_draw" sDraw ["_law_pen_here", "_law_many"] fD fdD) (GD : FnOk P w K mg base CX0 1 fD fdD ["_law_pen_here", "_law_many"] (spDraw T))
    (FK : TopF K mg "_law_pick" sPick ["_law_pen_here", "_law_some"] fK fdK) (GK : FnOk P w K mg base CX0 2 fK fdK ["_law_pen_here", "_law_some"] (spPick K T))
    (FL : TopF K mg "_law_t2_late_rival" sLate ["_law_glues", "_law_cells", "_law_at"] fL fdL) (GL : FnOk P w K mg base CX0 2 fL fdL ["_law_glues", "_law_cells", "_law_at"] (spLate K w T))
    {pn cl : Addr} {m k : Nat} {mx : Int} (hP : PenB H0 pn cl m) (hm : m + 2000 ≤ 1000000000)
    (R : Tail (XW P w K mg base f c A outer s H0 E) ((defBody sWor).drop 6) D (PoA K w T H0 pn cl m k mx 1600 16)) :
    Tail (XW P w K mg base f c A outer s H0 E) ((defBody sWor).drop 5) D (PoA K w T H0 pn cl m k mx 1500 13) := by
  refine Tail.cons (st := _) (ps_for PassesOwn.never rfl (pi_range1 rfl B.range (pa_cons (pe_ifExp (pt_cmpR op_gt (pv 2) pe_int (nomark _)) (pe_call GK (hr.mono (by decide)) (by rfl) FK.mg FK.fn.kp FK.b .nil pass0 (pa_cons (pv 0) (pa_cons (pe_lstD T (pa_cons pe_int (pa_cons pe_int (pa_cons pe_int pa_nil)))) pa_nil))) pe_int) pa_nil)) (pg_name (i := 10) scWor.nd rfl (.inl rfl)) (pss_cons (ps_set (i := 8) scWor.nd rfl (.inr rfl) (pe_call GL (hr.mono (by decide)) (by rfl) FL.mg FL.fn.kp FL.b .nil pass0 (pa_cons (pv 5) (pa_cons (pv 3) (pa_cons (pe_call GD (hr.mono (by decide)) (by rfl) FD.mg FD.fn.kp FD.b .nil pass0 (pa_cons (pv 0) (pa_cons (pe_callB call_lenL (by rfl) B.len boot_len (pa_cons (pv 3) pa_nil)) pa_nil))) pa_nil)))))
        (pss_one (ps_if (pt_cmpR (op_neLs hr.units) (pv 8) (pe_op (op_repD T) (pe_lstD T (pa_cons (pe_tupD T (pa_cons pe_non (pa_cons pe_int pa_nil))) pa_nil)) pe_int) (nomark _)) (pss_one (ps_expr (pe_bm PySem.F.plainAttrs_list PySem.F.slot_list_append PySem.F.type_list_append (mt_appD T) (pv 4) (pa_cons (pe_callTy (call_tupL T) (by rfl) B.tuple boot_tuple (pa_cons (pv 8) pa_nil)) pa_nil)))) pss_nil)))) (fun N hN => ?_) R
  rintro σ H ⟨l, kl, g, cs, ks, es, sk, o6, o7, o8, o10, o11, o12, o13, o19, rfl, W, has, hsk, hB⟩
  refine for_open (rng_key (fun n H1 => n ≤ 2 ∧ WSt K w T H0 H1 pn cl (m + 1501) l kl g cs ks es) (fun n H1 hn ⟨hn2, W1⟩ => ?_) fun key => ?_)
  rotate_left
  · refine ⟨_, rfl, _, _, rfl, rfl, _, rfl, ?_⟩
    by_cases c1 : (0 : Int) < mx
    · refine iteTp c1 ⟨_, rfl, [.num 0, .num 1, .num 2], .cons (.num _) (.cons (.num _) (.cons (.num _) .nil)), sz3, fun p1 H1 n1 g1 L1 => ?_⟩
      have W1 := W.up g1
      refine ⟨pn, cl, m + 1500, _, .ref p1, rfl, W1.P, .inl L1.ls, by simp, by simp, by omega, fun d v H2 hd g2 P2 hv => ?_⟩
      obtain ⟨r, rfl, hr2⟩ : ∃ r : Nat, d = .num r ∧ r ≤ 2 := by
        simp only [List.mem_cons, List.not_mem_nil, or_false] at hd
        rcases hd with rfl | rfl | rfl
        · exact ⟨0, rfl, by decide⟩
        · exact ⟨1, rfl, by decide⟩
        · exact ⟨2, rfl, by decide⟩
      obtain rfl := hv.numI
      exact key r H2 (by omega) ⟨hr2, W1.draw g2 P2⟩
    · exact iteFp c1 (key 0 H (by decide) ⟨by decide, W.le (by omega)⟩)
  · refine for_range (n := n) (fun i σ H2 => ∃ (ks' : List Dm) (o8 o10 : Option V), σ = [some (.ref pn), some (.int k), some (.int mx), some (.ref l), some (.ref kl), some (.ref g), o6, o7, o8, some (.int sk), o10, o11, o12, o13, none, none, none, none, none, o19] ∧ WSt K w T H0 H2 pn cl (m + 1501 + i) l kl g cs ks' es ∧ sk < ks'.length ∧ ks'.length ≤ 13 + i)
      ⟨ks, _, _, rfl, W1, hsk, hB⟩ ?_ ?_
    · rintro i σ H2 hi ⟨ks', o8, o10, rfl, W2, hs2, hB2⟩
      refine ⟨_, rfl, _, rfl, _, rfl, _, rfl, cs.map pd, .ref l, rfl, .inl W2.L.ls, pn, cl, m + 1501 + i, (cs.map pd).length, rfl, W2.P, ?_, ?_, by omega, fun r H3 hr3 g3 P3 => ?_⟩
      · rw [List.length_map]
        have := List.length_pos_iff.mpr W2.c0
        omega
      · rw [List.length_map]
        have := W2.c10
        omega
      have W3 := W2.draw g3 P3
      refine ⟨g, l, es, cs, r, rfl, W3.G, W3.L, by rw [List.length_map] at hr3; omega, W3.all, has, fun a k4 H4 na hk4 g4 A4 => ?_⟩
      have W4 := W3.up g4
      refine ⟨_, rfl, [.none, .num 0], .cons .non (.cons (.num _) .nil), sz2, fun p5 H5 n5 g5 d5 => ⟨[.tup [.none, .num 0]], .cons d5 .nil, sz1, fun p6 H6 n6 g6 L6 => ?_⟩⟩
      refine ⟨p6, .tup [.none, .num 0], 4, rfl, rfl, L6, by decide, fun p7 H7 n7 g7 L7 => ?_⟩
      have g47 : Go T [] H4 H7 := g5.trans (g6.trans g7)
      have W7 := W4.up g47
      have A7 := A4.go g47 (by simp)
      refine ⟨k4, _, A7.ls, L7.ls, hk4.d60, fun d hd => by rw [List.eq_of_mem_replicate hd]; exact glue0.d60, _, rfl, ?_⟩
      by_cases ce : k4 = List.replicate 4 (.tup [.none, .num 0])
      · rw [decide_eq_true ce]
        exact iteF ⟨ks', _, _, rfl, W7.le (by omega), hs2, by omega⟩
      · rw [decide_eq_false ce]
        obtain ⟨ys, hky, _⟩ := id W7.Kd.ex
        refine iteT ⟨_, rfl, .inl ⟨rfl, _, .inl (.inl hky)⟩, _, rfl, k4, .ref a, rfl, .inl A7.ls, fun v H8 g8 d8 => ?_⟩
        have W8 := W7.up g8
        refine ⟨kl, ks', .tup k4, v, rfl, rfl, W8.Kd, d8, lsz (by omega), fun H9 g9 K9 => ⟨_, _, _, rfl, (W8.addK hP g9 K9 fun kd hk => ?_).le (by omega), by rw [List.length_append]; omega, by rw [List.length_append, List.length_singleton]; omega⟩⟩
        rcases List.mem_append.mp hk with z | z
        · exact W8.kok kd z
        · rw [List.mem_singleton.mp z]; exact ⟨_, rfl, hk4⟩
    · rintro σ H2 ⟨ks', o8, o10, rfl, W2, hs2, hB2⟩
      exact hN _ _ ⟨l, kl, g, cs, ks', es, sk, _, _, _, _, _, _, _, _, rfl, W2.le (by omega), has, hs2, by omega⟩
end
end TG

/-! The law's defs: world: more kinds. -/
namespace TG
open PySem PySem.Spec L2 TGr LamX
open PyProof.Rows hiding St
/-- list(one) for each: lists of the kinds -/
def LsAll (K : PySem.W.Frag) (H : Hp) : List V → List (List Dm) → Prop := Paired fun y k4 => ∃ p, y = V.ref p ∧ LstW K H p k4
theorem LsAll.go {K : PySem.W.Frag} {T : Tb} {S : List Addr} {H H' : Hp} (g : Go T S H H') : ∀ {ys : List V} {kk : List (List Dm)}, LsAll K H ys kk → (∀ p, V.ref p ∈ ys → p ∉ S) → LsAll K H' ys kk
  | _, _, .nil, _ => .nil
  | _, _, .cons ⟨p, e, h⟩ t, n => .cons ⟨p, e, h.go g (n p (by rw [e]; exact List.mem_cons_self))⟩ (LsAll.go g t fun q hq => n q (List.mem_cons_of_mem _ hq))
theorem paired_snoc {α β : Type} {F : α → β → Prop} {x : α} {y : β} (h : F x y) : ∀ {xs : List α} {ys : List β}, Paired F xs ys → Paired F (xs ++ [x]) (ys ++ [y])
  | _, _, .nil => .cons h .nil
  | _, _, .cons r t => .cons r (paired_snoc h t)
theorem LsAll.snoc {K : PySem.W.Frag} {H : Hp} {ys : List V} {kk : List (List Dm)} {y : V} {k4 : List Dm} (h : LsAll K H ys kk) (h2 : ∃ p, y = V.ref p ∧ LstW K H p k4) : LsAll K H (ys ++ [y]) (kk ++ [k4]) := paired_snoc h2 h
theorem LsAll.dp {K : PySem.W.Frag} {H : Hp} : ∀ {ys : List V} {kk : List (List Dm)}, LsAll K H ys kk → DpAll K H ys (kk.map fun k4 => PyData.list (NestedKey.datas k4))
  | _, _, .nil => .nil
  | _, _, .cons ⟨p, e, h⟩ t => .cons (by rw [e]; exact h.ls.dp) (LsAll.dp t)
theorem shaped_lists {K : PySem.W.Frag} {H : Hp} : ∀ {ys : List V} {kk : List (List Dm)}, LsAll K H ys kk → (∀ k4 ∈ kk, KindOk k4) → SeqAt.shaped (.list (kk.map fun k4 => PyData.list (NestedKey.datas k4))) = true := by
  intro ys kk h hk
  have one : ∀ {ys : List V} {kk : List (List Dm)}, LsAll K H ys kk → (∀ k4 ∈ kk, KindOk k4) → PyData.canLayAll0 (kk.map fun k4 => PyData.list (NestedKey.datas k4)) = true ∧ PyData.depthAll (kk.map fun k4 => PyData.list (NestedKey.datas k4)) ≤ 60 := by
    intro ys kk h
    induction h with
    | nil => intro _; exact ⟨rfl, by simp [PyData.depthAll]⟩
    | @cons y k4 ys kk h t ih =>
      intro hk
      obtain ⟨p, e, hl⟩ := h
      have h1 := hl.ls.shaped (fun d hd => ((hk k4 List.mem_cons_self).glu d hd).d60)
      obtain ⟨i1, i2⟩ := ih fun x hx => hk x (List.mem_cons_of_mem _ hx)
      have c1 := SeqAt.canLay_of_shaped h1
      have dk : PyData.depth (.list (NestedKey.datas k4)) ≤ 60 := by
        have e1 : PyData.depth (.list (NestedKey.datas k4)) = PyData.depth (.tuple (NestedKey.datas k4)) := by simp [PyData.depth]
        have e2 : (NestedKey.tup k4).data = .tuple (NestedKey.datas k4) := by simp [NestedKey.data]
        rw [e1, ← e2, data_depth]
        exact Nat.le_trans (hk k4 List.mem_cons_self).dep (by decide)
      refine ⟨?_, ?_⟩
      · simp only [List.map_cons, PyData.canLayAll0, Bool.and_eq_true]
        exact ⟨c1, i1⟩
      · simp only [List.map_cons, PyData.depthAll]
        omega
  obtain ⟨i1, i2⟩ := one h hk
  unfold SeqAt.shaped
  simp only [Bool.and_eq_true, decide_eq_true_eq, PyData.canLay0, PyData.depth]
  refine ⟨i1, ?_⟩
  exact decide_eq_true (by omega)
section
variable {P : Program} {w : World} {K : PySem.W.Frag} {mg : Str → Option Value} {base : Heap} {f fD fK fL c : Addr} {fd fdD fdK fdL : FuncData}
variable {A : Around} {outer : List Env} {s : Shared} {H0 : Hp} {E : XK} {D : Ends}
theorem wor_B (T : Tb) (B : Blt mg) (hr : Room 4 (A.deeper (envOfC "_law_t2_world" (defScope sWor) s.heap.objs.size f (.ref c))))
    (FD : TopF K mg "_law_draw" sDraw ["_law_pen_here", "_law_many"] fD fdD) (GD : FnOk P w K mg base CX0 1 fD fdD ["_law_pen_here", "_law_many"] (spDraw T))
    (FK : TopF K mg "_law_pick" sPick ["_law_pen_here", "_law_some"] fK fdK) (GK : FnOk P w K mg base CX0 2 fK fdK ["_law_pen_here", "_law_some"] (spPick K T))
    {pn cl : Addr} {m k : Nat} {mx : Int} (hP : PenB H0 pn cl m) (hm : m + 2000 ≤ 1000000000)
    (R : Tail (XW P w K mg base f c A outer s H0 E) ((defBody sWor).drop 5) D (PoA K w T H0 pn cl m k mx 1500 13)) :
    Tail (XW P w K mg base f c A outer s H0 E) ((defBody sWor).drop 4) D (PoA K w T H0 pn cl m k mx 1400 10) := by
  refine Tail.cons (st := _) (ps_for PassesOwn.never rfl (pi_range1 rfl B.range (pa_cons (pe_ifExp (pt_cmpR op_gt (pv 2) pe_int (nomark _)) (pe_call GK (hr.mono (by decide)) (by rfl) FK.mg FK.fn.kp FK.b .nil pass0 (pa_cons (pv 0) (pa_cons (pe_lstD T (pa_cons pe_int (pa_cons pe_int (pa_cons pe_int (pa_cons pe_int (pa_cons pe_int pa_nil)))))) pa_nil))) pe_int) pa_nil)) (pg_name (i := 10) scWor.nd rfl (.inl rfl)) (pss_cons (ps_set (i := 8) scWor.nd rfl (.inr rfl) (pe_callTy (call_listL T) (by rfl) B.list (by decide +kernel) (pa_cons (pe_call GK (hr.mono (by decide)) (by rfl) FK.mg FK.fn.kp FK.b .nil pass0 (pa_cons (pv 0) (pa_cons (pv 4) pa_nil))) pa_nil)))
        (pss_cons (ps_if (pt_cmpR op_eq (pe_call GD (hr.mono (by decide)) (by rfl) FD.mg FD.fn.kp FD.b .nil pass0 (pa_cons (pv 0) (pa_cons pe_int pa_nil))) pe_int (nomark _)) (pss_cons (ps_set (i := 11) scWor.nd rfl (.inr rfl) (pe_lstD T (pa_cons (pe_call GD (hr.mono (by decide)) (by rfl) FD.mg FD.fn.kp FD.b .nil pass0 (pa_cons (pv 0) (pa_cons pe_int pa_nil))) (pa_cons (pe_call GD (hr.mono (by decide)) (by rfl) FD.mg FD.fn.kp FD.b .nil pass0 (pa_cons (pv 0) (pa_cons pe_int pa_nil))) pa_nil))))
        (pss_one (ps_set (i := 8) scWor.nd rfl (.inr rfl) (pe_lc (own := [("_law_side", 7)]) (g := gName 7) (te := tIf (tTest (tOp (rInT K) (tVar 7) (tVar 11))) (tOp (rIxL' K) (tVar 8) (tVar 7)) (tTupD K T (tCons (tC .non) (tCons (tC (.int 0)) tNil)))) (by rfl) scWor.nd (pi_range1 rfl B.range (pa_cons pe_int pa_nil)) (blkOk_by (own := [("_law_side", 7)]) (N := nWor) (sc := defScope sWor) (by decide +kernel)) (fun _ _ _ _ _ => pg_name (i := 7) scWor.nd rfl (Or.inl rfl)) (fun _ _ _ _ _ => pts_nil) (fun _ _ _ _ _ => pe_ifExp (pt_cmpR (op_inT (Room.u65 hr)) (pv 7) (pv 11) rfl) (pe_ix ix_DL (pv 8) (pv 7) (fun _ _ => rfl)) (pe_tupD T (pa_cons pe_non (pa_cons pe_int pa_nil)))))))) pss_nil)
        (pss_cons (ps_for PassesOwn.never rfl (pi_range1 rfl B.range (pa_cons (pe_ifExp (pt_cmpR (L2.op_notInD (Room.u65 hr)) (pv 8) (pe_lc (own := [("_law_one", 19)]) (g := gName 19) (te := tCB (rListL K T) (tCons (tVar 19) tNil)) (by rfl) scWor.nd (pi_list (pv 4)) (blkOk_by (own := [("_law_one", 19)]) (N := nWor) (sc := defScope sWor) (by decide +kernel)) (fun _ _ _ _ _ => pg_name (i := 19) scWor.nd rfl (Or.inl rfl)) (fun _ _ _ _ _ => pts_nil) (fun _ _ _ _ _ => pe_callTy (call_listL T) (by rfl) B.list (by decide +kernel) (pa_cons (pv 19) pa_nil))) rfl) (pe_call GD (hr.mono (by decide)) (by rfl) FD.mg FD.fn.kp FD.b .nil pass0 (pa_cons (pv 0) (pa_cons pe_int pa_nil))) (pe_op op_add pe_int (pe_call GD (hr.mono (by decide)) (by rfl) FD.mg FD.fn.kp FD.b .nil pass0 (pa_cons (pv 0) (pa_cons pe_int pa_nil))))) pa_nil)) (pg_name (i := 12) scWor.nd rfl (.inl rfl)) (pss_cons (ps_set (i := 7) scWor.nd rfl (.inl rfl) (pe_call GD (hr.mono (by decide)) (by rfl) FD.mg FD.fn.kp FD.b .nil pass0 (pa_cons (pv 0) (pa_cons pe_int pa_nil))))
        (pss_cons (ps_set (i := 13) scWor.nd rfl (.inl rfl) (pe_tupD T (pa_cons (pe_call GD (hr.mono (by decide)) (by rfl) FD.mg FD.fn.kp FD.b .nil pass0 (pa_cons (pv 0) (pa_cons pe_int pa_nil))) (pa_cons (pe_op op_add pe_int (pe_call GD (hr.mono (by decide)) (by rfl) FD.mg FD.fn.kp FD.b .nil pass0 (pa_cons (pv 0) (pa_cons pe_int pa_nil)))) pa_nil))))
        (pss_one (ps_asg (pe_call GK (hr.mono (by decide)) (by rfl) FK.mg FK.fn.kp FK.b .nil pass0 (pa_cons (pv 0) (pa_cons (pe_lstD T (pa_cons (pe_tupD T (pa_cons pe_non (pa_cons pe_int pa_nil))) (pa_cons (pe_ix ix_DL (pe_call GK (hr.mono (by decide)) (by rfl) FK.mg FK.fn.kp FK.b .nil pass0 (pa_cons (pv 0) (pa_cons (pv 4) pa_nil))) (pv 7) (fun _ _ => rfl)) (pa_cons (pv 13) pa_nil)))) pa_nil))) (pg_sub (pv 8) (pv 7) (set_D T)))))))
        (pss_one (ps_expr (pe_bm PySem.F.plainAttrs_list PySem.F.slot_list_append PySem.F.type_list_append (mt_appD T) (pv 4) (pa_cons (pe_callTy (call_tupL T) (by rfl) B.tuple boot_tuple (pa_cons (pv 8) pa_nil)) pa_nil)))))))) (fun N hN => ?_) R
  rintro σ H ⟨l, kl, g, cs, ks, es, sk, o6, o7, o8, o10, o11, o12, o13, o19, rfl, W, has, hsk, hB⟩
  refine for_open (rng_key (fun n H1 => n ≤ 3 ∧ WSt K w T H0 H1 pn cl (m + 1401) l kl g cs ks es) (fun n H1 hn ⟨hn2, W1⟩ => ?_) fun key => ?_)
  rotate_left
  · refine ⟨_, rfl, _, _, rfl, rfl, _, rfl, ?_⟩
    by_cases c1 : (0 : Int) < mx
    · refine iteTp c1 ⟨_, rfl, [.num 0, .num 1, .num 1, .num 2, .num 3], .cons (.num _) (.cons (.num _) (.cons (.num _) (.cons (.num _) (.cons (.num _) .nil)))), sz5, fun p1 H1 n1 g1 L1 => ?_⟩
      have W1 := W.up g1
      refine ⟨pn, cl, m + 1400, _, .ref p1, rfl, W1.P, .inl L1.ls, by simp, by simp, by omega, fun d v H2 hd g2 P2 hv => ?_⟩
      obtain ⟨r, rfl, hr2⟩ : ∃ r : Nat, d = .num r ∧ r ≤ 3 := by
        simp only [List.mem_cons, List.not_mem_nil, or_false] at hd
        rcases hd with rfl | rfl | rfl | rfl | rfl
        · exact ⟨0, rfl, by decide⟩
        · exact ⟨1, rfl, by decide⟩
        · exact ⟨1, rfl, by decide⟩
        · exact ⟨2, rfl, by decide⟩
        · exact ⟨3, rfl, by decide⟩
      obtain rfl := hv.numI
      exact key r H2 (by omega) ⟨hr2, W1.draw g2 P2⟩
    · exact iteFp c1 (key 0 H (by decide) ⟨by decide, W.le (by omega)⟩)
  · refine for_range (n := n) (fun i σ H2 => ∃ (ks' : List Dm) (o7 o8 o10 o11 o12 o13 o19 : Option V), σ = [some (.ref pn), some (.int k), some (.int mx), some (.ref l), some (.ref kl), some (.ref g), o6, o7, o8, some (.int sk), o10, o11, o12, o13, none, none, none, none, none, o19] ∧ WSt K w T H0 H2 pn cl (m + 1401 + 20 * i) l kl g cs ks' es ∧ sk < ks'.length ∧ ks'.length ≤ 10 + i)
      ⟨ks, _, _, _, _, _, _, _, rfl, W1, hsk, hB⟩ ?_ ?_
    rotate_left
    · rintro σ H2 ⟨ks', o7, o8, o10, o11, o12, o13, o19, rfl, W2, hs2, hB2⟩
      exact hN _ _ ⟨l, kl, g, cs, ks', es, sk, _, _, _, _, _, _, _, _, rfl, W2.le (by omega), has, hs2, by omega⟩
    · rintro i σ H2 hi ⟨ks', o7, o8, o10, o11, o12, o13, o19, rfl, W2, hs2, hB2⟩
      have kne : ks' ≠ [] := fun z => by rw [z] at hs2; exact absurd hs2 (Nat.not_lt_zero _)
      -- a kind that is there, as a new list
      refine ⟨_, rfl, _, rfl, pn, cl, m + 1401 + 20 * i, ks', .ref kl, rfl, W2.P, .inl W2.Kd.ls, kne, by omega, by omega, fun kd v H3 hkd g3 P3 hv => ?_⟩
      have W3 := W2.draw g3 P3
      obtain ⟨k4, rfl, hk4⟩ := W3.kok kd hkd
      refine ⟨k4, v, rfl, .inr hv, fun kk H4 nk g4 L4 => ?_⟩
      have nkH : Nw H3 kk := .none nk
      have W4 := W3.up g4
      refine nm_step ?_
      dsimp only
      refine seq_key2 (s1 := tIfS _ _ _) (fun σ1 H5 => ∃ (kk : Addr) (k4 : List Dm) (o7 o11 : Option V), σ1 = [some (.ref pn), some (.int k), some (.int mx), some (.ref l), some (.ref kl), some (.ref g), o6, o7, some (.ref kk), some (.int sk), some (.int (0 + i)), o11, o12, o13, none, none, none, none, none, o19] ∧ Nw H3 kk ∧ KindOk k4 ∧ LstW K H5 kk k4 ∧ Go T [pn] H3 H5 ∧ PenB H5 pn cl (m + 1401 + 20 * i + 4)) ?_ fun key => ?_
      rotate_left
      · refine ⟨_, rfl, pn, cl, _, 2, rfl, W4.P, by decide, by decide, by omega, fun r H5 hr5 g5 P5 => ⟨rfl, _, rfl, ?_⟩⟩
        have W5 := W4.draw g5 P5
        have L5 := L4.goP g5 W4.P
        have g35 : Go T [pn] H3 H5 := g4.up.trans g5
        by_cases c1 : V.int r = V.int 0
        rotate_left
        · exact iteFp c1 (key _ _ ⟨kk, k4, _, _, rfl, nkH, hk4, L5, g35, P5.le (by omega)⟩)
        refine iteTp c1 ⟨_, rfl, pn, cl, _, 4, rfl, P5, by decide, by decide, by omega, fun r6 H6 hr6 g6 P6 => ⟨_, rfl, pn, cl, _, 4, rfl, P6, by decide, by decide, by omega, fun r7 H7 hr7 g7 P7 => ⟨[.num r6, .num r7], .cons (.num _) (.cons (.num _) .nil), sz2, fun kp H8 n8 g8 K8 => ?_⟩⟩⟩
        have g38 : Go T [pn] H3 H8 := ((g35.trans g6).trans g7).trans g8.up
        have L8 := ((L5.goP g6 P5).goP g7 P6).go g8 (by simp)
        have P8 := P7.up g8
        refine ⟨4, rfl, by decide, by decide, fun D' nD => ?_⟩
        have kkD : kk ≠ D' := L8.ne nD
        have kpD : kp ≠ D' := K8.ne nD
        refine lc_D (K := K) T (walk_range (lo := 0) (n := 4)) nD (fun j ds H9 => Go T [D'] H8 H9 ∧ ds.length = j ∧ ∀ d ∈ ds, Glue d) (fun H9 g' _ => ⟨g'.up, rfl, fun _ z => nomatch z⟩) (fun _ _ _ _ _ => trivial) ?_ ?_
        · rintro j ds y H9 H9' hj ⟨g9, hl9, hg9⟩ D9 ⟨rfl, rfl⟩
          have L9 := L8.go g9 fun z => kkD (List.mem_singleton.mp z)
          have K9 := K8.go g9 fun z => kpD (List.mem_singleton.mp z)
          have hj4 : j < k4.length := by rw [hk4.len]; exact hj
          refine ⟨rfl, yesT ⟨_, rfl, _, rfl, .num (j : Int), _, (show Dat K H9' (.num (j : Int)) (.int (0 + (j : Int))) by rw [Int.zero_add]; exact .num _), K9.ls, by rw [num_depth]; decide, fun d hd => by
            simp only [List.mem_cons, List.not_mem_nil, or_false] at hd
            rcases hd with rfl | rfl <;> (rw [num_depth]; decide), _, rfl, ?_⟩⟩
          by_cases ck : NestedKey.num (j : Int) ∈ [NestedKey.num r6, .num r7]
          · refine iteTp ck ⟨_, rfl, _, rfl, k4, j, k4[j], .inl L9.ls, (show V.int (0 + (j : Int)) = .int j by rw [Int.zero_add]), atI_nat (List.getElem?_eq_getElem hj4), fun v9 hv9 => lcN T D9 hv9 (lsz (by have : j < 4 := hj; omega)) fun H10 g10 L10 => ⟨g9.trans g10, by rw [List.length_append, hl9]; rfl, fun d hd => ?_⟩⟩
            rcases List.mem_append.mp hd with z | z
            · exact hg9 d z
            · rw [List.mem_singleton.mp z]; exact hk4.glu _ (List.getElem_mem hj4)
          · refine iteFp ck ⟨[.none, .num 0], .cons .non (.cons (.num _) .nil), sz2, fun p10 H10 n10 g10 d10 => lcN T (D9.go g10 (by simp)) d10 (lsz (by have : j < 4 := hj; omega)) fun H11 g11 L11 => ⟨(g9.trans g10.up).trans g11, by rw [List.length_append, hl9]; rfl, fun d hd => ?_⟩⟩
            rcases List.mem_append.mp hd with z | z
            · exact hg9 d z
            · rw [List.mem_singleton.mp z]; exact glue0
        · rintro ds H9 ⟨g9, hl9, hg9⟩ D9
          have g9' : Go T [] H8 H9 := g9.drop nD
          have nwD : Nw H3 D' := g38.nw (.none nD) fun z => P8.pne nD (List.mem_singleton.mp z).symm
          exact key _ _ ⟨D', ds, _, _, rfl, nwD, ⟨hl9, hg9⟩, D9, g38.trans g9'.up, (P8.up g9').le (by omega)⟩
      · rintro _ H5 ⟨kk, k4, o7, o11, rfl, nkH, hk4, L5, g35, P5⟩
        have pkk := W3.P.nwp nkH
        have ckk := W3.P.nwc nkH
        have wAt : ∀ {H' M}, Go T [kk, pn] H3 H' → PenB H' pn cl M → WSt K w T H0 H' pn cl M l kl g cs ks' es := fun {H' M} g' p' => W3.drawN g' nkH p'
        have W5 := W3.draw g35 P5
        refine seq_key2 (s1 := tFor _ _ _) (fun σ1 H6 => ∃ (k4 : List Dm) (o7 o12 o13 o19 : Option V), σ1 = [some (.ref pn), some (.int k), some (.int mx), some (.ref l), some (.ref kl), some (.ref g), o6, o7, some (.ref kk), some (.int sk), some (.int (0 + i)), o11, o12, o13, none, none, none, none, none, o19] ∧ KindOk k4 ∧ LstW K H6 kk k4 ∧ Go T [kk, pn] H3 H6 ∧ PenB H6 pn cl (m + 1401 + 20 * i + 19)) ?_ fun key => ?_
        · rintro _ H6 ⟨k4, o7, o12, o13, o19, rfl, hk4, L6, g36, P6⟩
          have W6 := wAt g36 P6
          obtain ⟨ys, hky, _⟩ := id W6.Kd.ex
          refine ⟨_, rfl, .inl ⟨rfl, _, .inl (.inl hky)⟩, _, rfl, k4, .ref kk, rfl, .inl L6.ls, fun v H7 g7 d7 => ?_⟩
          have W7 := W6.up g7
          refine ⟨kl, ks', .tup k4, v, rfl, rfl, W7.Kd, d7, lsz (by omega), fun H8 g8 K8 => ⟨_, _, _, _, _, _, _, _, rfl, (W7.addK hP g8 K8 fun kd hk => ?_).le (by omega), by rw [List.length_append]; omega, by rw [List.length_append, List.length_singleton]; omega⟩⟩
          rcases List.mem_append.mp hk with z | z
          · exact W7.kok kd z
          · rw [List.mem_singleton.mp z]; exact ⟨_, rfl, hk4⟩
        · refine for_open (rng_key (fun n H6 => n ≤ 2 ∧ Go T [pn] H5 H6 ∧ PenB H6 pn cl (m + 1401 + 20 * i + 5) ∧ LstW K H6 kk k4) (fun n H6 hn ⟨hn2, g56, P6, L6⟩ => ?_) fun key2 => ?_)
          rotate_left
          · obtain ⟨ysk, hkk, _⟩ := id W5.Kd.ex
            refine ⟨_, rfl, _, rfl, kl, rfl, ⟨ysk, .inl (.inl hkk)⟩, fun D' nD => ?_⟩
            have klD : kl ≠ D' := W5.Kd.ne nD
            have kkD : kk ≠ D' := L5.ne nD
            refine lc_it (walk_L (ds := ks')) (fun j H6 => Go T [D'] H5 H6 ∧ ∃ (ys : List V) (kq : List (List Dm)), H6 D' = some (.lst ys) ∧ LsAll K H6 ys kq ∧ (∀ p, V.ref p ∈ ys → p ≠ D') ∧ (∀ x ∈ kq, KindOk x) ∧ ys.length ≤ j) ⟨(Go.new nD).up, [], [], upd_same, .nil, fun _ z => (nomatch z), fun _ z => (nomatch z), Nat.le_refl _⟩ (fun j H6 _ ⟨g', _⟩ => (W5.Kd.go g' fun z => klD (List.mem_singleton.mp z)).ls) ?_ ?_
            · rintro j x H6 H6' hj ⟨g6, ys, kq, hD6, hall, hne, hko, hlen⟩ ⟨rfl, d, hd, hx⟩
              obtain ⟨k4', rfl, hk4'⟩ := W5.kok d (List.mem_of_getElem? hd)
              refine ⟨rfl, yesT ⟨_, rfl, k4', x, rfl, .inr hx, fun p H7 np g7 L7 => ?_⟩⟩
              have hD7 := g7.lst hD6 (by simp)
              have pD : p ≠ D' := fun z => by rw [z, hD6] at np; cases np
              have g8 : Go T [D'] H7 (upd H7 D' (.lst (ys ++ [.ref p]))) := .setL hD7
              refine ⟨ys, hD7, lsz (by omega), (g6.trans g7.up).trans g8, ys ++ [.ref p], kq ++ [k4'], upd_same, ?_, fun q hq => ?_, fun x' hx' => ?_, by rw [List.length_append, List.length_singleton]; omega⟩
              · have h1 := LsAll.go g8 (LsAll.go g7 hall fun _ _ => by simp) fun q hq z => hne q hq (List.mem_singleton.mp z)
                have h2 := L7.go g8 fun z => pD (List.mem_singleton.mp z)
                exact h1.snoc ⟨p, rfl, h2⟩
              · rcases List.mem_append.mp hq with z | z
                · exact hne q z
                · have := List.mem_singleton.mp z
                  injection this with this
                  rw [this]; exact pD
              · rcases List.mem_append.mp hx' with z | z
                · exact hko x' z
                · rw [List.mem_singleton.mp z]; exact hk4'
            · rintro H6 ⟨g6, ys, kq, hD6, hall, hne, hko, hlen⟩
              have L6 := L5.go g6 fun z => kkD (List.mem_singleton.mp z)
              have g6' : Go T [] H5 H6 := g6.drop nD
              have P6 := P5.up g6'
              refine ⟨.list (NestedKey.datas k4), _, L6.ls.dp, .lst (.inl (.inl hD6)) hall.dp, L6.ls.shaped hk4.d60, shaped_lists hall hko, _, rfl, ?_⟩
              generalize (!(kq.map fun k4 => PyData.list (NestedKey.datas k4)).any fun z => PyData.eqv z (.list (NestedKey.datas k4))) = bb
              cases bb with
              | true =>
                refine iteT ⟨_, rfl, pn, cl, _, 2, rfl, P6, by decide, by decide, by omega, fun r H7 hr7 g7 P7 => key2 r H7 (by omega) ⟨by omega, g6'.up.trans g7, P7, L6.goP g7 P6⟩⟩
              | false =>
                refine iteF ⟨_, rfl, pn, cl, _, 2, rfl, P6, by decide, by decide, by omega, fun r H7 hr7 g7 P7 => ⟨_, _, rfl, rfl, ?_⟩⟩
                have := key2 (1 + r) H7 (by omega) ⟨by omega, g6'.up.trans g7, P7, L6.goP g7 P6⟩
                rw [show ((1 + r : Nat) : Int) = 1 + (r : Int) by omega] at this
                exact this
          · refine for_range (n := n) (fun t σ H7 => ∃ (k4 : List Dm) (o7 o12 o13 : Option V), σ = [some (.ref pn), some (.int k), some (.int mx), some (.ref l), some (.ref kl), some (.ref g), o6, o7, some (.ref kk), some (.int sk), some (.int (0 + i)), o11, o12, o13, none, none, none, none, none, o19] ∧ KindOk k4 ∧ LstW K H7 kk k4 ∧ Go T [kk, pn] H3 H7 ∧ PenB H7 pn cl (m + 1401 + 20 * i + 5 + 5 * t))
              ⟨k4, _, _, _, rfl, hk4, L6, (g35.trans g56).mono (by simp), P6⟩ ?_ ?_
            · rintro t σ H7 ht ⟨k4, o7, o12, o13, rfl, hk4, L7, g37, P7⟩
              have pnn : pn ∉ [kk] := fun z => pkk (List.mem_singleton.mp z)
              refine ⟨_, rfl, pn, cl, _, 4, rfl, P7, by decide, by decide, by omega, fun sd H8 hr8 g8 P8 => ?_⟩
              refine ⟨_, rfl, pn, cl, _, 3, rfl, P8, by decide, by decide, by omega, fun r9 H9 hr9 g9 P9 => ⟨_, rfl, pn, cl, _, 2, rfl, P9, by decide, by decide, by omega, fun r10 H10 hr10 g10 P10 => ⟨_, _, rfl, rfl, [.num r9, .num (1 + r10)], .cons (.num _) (.cons (.num _) .nil), sz2, fun pl H11 n11 g11 d11 => ?_⟩⟩⟩
              have P11 := P10.up g11
              have g7b : Go T [pn] H7 H11 := ((g8.trans g9).trans g10).trans g11.up
              have W11 := wAt (g37.trans (g7b.mono (by simp))) P11
              have L11 := (((L7.goP g8 P7).goP g9 P8).goP g10 P9).go g11 (by simp)
              refine ⟨_, rfl, [.none, .num 0], .cons .non (.cons (.num _) .nil), sz2, fun pz H12 n12 g12 d12 => ?_⟩
              have W12 := W11.up g12
              refine ⟨_, rfl, _, rfl, pn, cl, _, ks', .ref kl, rfl, W12.P, .inl W12.Kd.ls, kne, by omega, by omega, fun kd v H13 hkd g13 P13 hv => ?_⟩
              obtain ⟨k5, rfl, hk5⟩ := W12.kok kd hkd
              have sd4 : sd < 4 := by omega
              have sd5 : sd < k5.length := by rw [hk5.len]; exact sd4
              have P12 := W12.P
              refine ⟨_, rfl, k5, sd, k5[sd], .inr hv, rfl, atI_nat (List.getElem?_eq_getElem sd5), fun v2 hv2 => ⟨_, rfl, [.tup [.none, .num 0], k5[sd], .tup [.num r9, .num (1 + r10)]], .cons (g13.dat d12) (.cons hv2 (.cons (g13.dat (g12.dat d11)) .nil)), sz3, fun p14 H14 n14 g14 L14 => ?_⟩⟩
              have P14 := P13.up g14
              refine ⟨pn, cl, _, _, .ref p14, rfl, P14, .inl L14.ls, by simp, by simp, by omega, fun gd vg H15 hgd g15 P15 hvg => ?_⟩
              have hglu : Glue gd := by
                simp only [List.mem_cons, List.not_mem_nil, or_false] at hgd
                rcases hgd with rfl | rfl | rfl
                · exact glue0
                · exact hk5.glu _ (List.getElem_mem sd5)
                · exact glue_mk (by rw [num_depth]; decide) (by omega) (by omega)
              have L15 := ((((L11.go g12 (by simp)).goP g13 P12).go g14 (by simp))).goP g15 P14
              have hix : ixN k4.length (sd : Int) = some sd := by
                rw [hk4.len]
                rcases four sd4 with rfl | rfl | rfl | rfl <;> rfl
              have g715 : Go T [pn] H7 H15 := (((g7b.trans g12.up).trans g13).trans g14.up).trans g15
              refine ⟨_, rfl, _, rfl, kk, k4, sd, sd, gd, rfl, rfl, L15, hix, hvg, fun H16 g16 L16 => ⟨k4.set sd gd, _, _, _, rfl, ⟨by rw [List.length_set]; exact hk4.len, fun d hd => ?_⟩, L16, (g37.trans (g715.mono (by simp))).trans (g16.mono (by simp)), (P15.go g16 pnn fun z => ckk (List.mem_singleton.mp z)).le (by omega)⟩⟩
              rcases List.mem_or_eq_of_mem_set hd with z | z
              · exact hk4.glu d z
              · rw [z]; exact hglu
            · rintro σ H7 ⟨k4, o7, o12, o13, rfl, hk4, L7, g37, P7⟩
              exact key _ _ ⟨k4, _, _, _, _, rfl, hk4, L7, g37, P7.le (by omega)⟩
end
end TG

/-! The law's defs: world: own, names. -/
namespace TG
open PySem PySem.Spec L2 TGr LamX
open PyProof.Rows hiding St
/-- own, names, over the world's state at Hb -/
structure OSt (K : PySem.W.Frag) (w : World) (T : Tb) (Hb H : Hp) (pn cl : Addr) (M : Nat) (ow gd nm : Addr) : Prop where
  go : Go T [ow, gd, nm, pn] Hb H
  no : Nw Hb ow
  ng : Nw Hb gd
  nn : Nw Hb nm
  P : PenB H pn cl M
theorem rg_dat {K : PySem.W.Frag} {H : Hp} (n : Nat) : DatA K H ((List.range n).map fun i : Nat => NestedKey.num (i : Int)) (rgV 0 (n : Int)) := by
  unfold rgV
  rw [show ((n : Int) - 0).toNat = n by omega]
  have : ∀ l : List Nat, DatA K H (l.map fun i : Nat => NestedKey.num (i : Int)) (l.map fun i => V.int (0 + (i : Nat))) := by
    intro l
    induction l with
    | nil => exact .nil
    | cons a l ih => exact .cons (show Dat K H (.num (a : Int)) (.int (0 + (a : Int))) by rw [Int.zero_add]; exact .num _) ih
  exact this _
section
variable {K : PySem.W.Frag} {w : World} {T : Tb} {Hb H H' : Hp} {pn cl ow gd nm : Addr} {M M' : Nat}
theorem OSt.le (O : OSt K w T Hb H pn cl M ow gd nm) (h : M ≤ M') : OSt K w T Hb H pn cl M' ow gd nm := { O with P := O.P.le h }
theorem OSt.up (O : OSt K w T Hb H pn cl M ow gd nm) (g : Go T [] H H') : OSt K w T Hb H' pn cl M ow gd nm := { O with go := O.go.trans g.up, P := O.P.up g }
theorem OSt.draw (O : OSt K w T Hb H pn cl M ow gd nm) (g : Go T [pn] H H') (p : PenB H' pn cl M') : OSt K w T Hb H' pn cl M' ow gd nm := { O with go := O.go.trans (g.mono (by simp)), P := p }
theorem OSt.gop (O : OSt K w T Hb H pn cl M ow gd nm) : Go T [pn] Hb H := ((O.go.dropN O.no).dropN O.ng).dropN O.nn
theorem OSt.ws {H0 : Hp} {m : Nat} {l kl g : Addr} {cs : List Pl} {ks : List Dm} {es : Es} (O : OSt K w T Hb H pn cl M ow gd nm) (W : WSt K w T H0 Hb pn cl m l kl g cs ks es) : WSt K w T H0 H pn cl M l kl g cs ks es := W.draw O.gop O.P
theorem OSt.chg {q : Addr} {m : Nat} (O : OSt K w T Hb H pn cl M ow gd nm) (Pb : PenB Hb pn cl m) (g : Go T [q] H H') (hq : q = ow ∨ q = gd ∨ q = nm) : OSt K w T Hb H' pn cl M ow gd nm := by
  have nq : Nw Hb q := by
    rcases hq with e | e | e <;> rw [e]
    · exact O.no
    · exact O.ng
    · exact O.nn
  refine { O with go := O.go.trans (g.mono fun a ha => ?_), P := O.P.go g (fun z => Pb.nwp nq (List.mem_singleton.mp z)) fun z => Pb.nwc nq (List.mem_singleton.mp z) }
  rw [List.mem_singleton.mp ha]
  rcases hq with e | e | e <;> rw [e] <;> simp
end
/-- behind the names -/
def PoN (K : PySem.W.Frag) (w : World) (T : Tb) (H0 : Hp) (pn cl : Addr) (m k : Nat) (mx : Int) : L2.St → Hp → Prop := fun σ H => ∃ (Hb : Hp) (l kl g ow gd nm : Addr) (cs : List Pl) (ks : List Dm) (es : Es) (sk : Nat) (fs nl : List Dm) (o6 o7 o8 o10 o11 o12 o13 o16 o19 : Option V),
  σ = [some (.ref pn), some (.int k), some (.int mx), some (.ref l), some (.ref kl), some (.ref g), o6, o7, o8, some (.int sk), o10, o11, o12, o13, some (.ref ow), some (.ref nm), o16, none, none, o19] ∧ WSt K w T H0 Hb pn cl (m + 1600) l kl g cs ks es ∧ sk < ks.length ∧ ks.length ≤ 16 ∧
  OSt K w T Hb H pn cl (m + 2200) ow gd nm ∧ H ow = some (.dK [(kS "glues", .ref gd)]) ∧ DicW K w H gd [] ∧ fs.Perm ((List.range ks.length).map fun i : Nat => NestedKey.num (i : Int)) ∧ nl.length = fs.length ∧ (∀ n ∈ nl, Nm 6 n) ∧ LstW K H nm (List.zipWith (fun a b => NestedKey.tup [a, b]) fs nl)
section
variable {P : Program} {w : World} {K : PySem.W.Frag} {mg : Str → Option Value} {base : Heap} {f fD fK fS fA c : Addr} {fd fdD fdK fdS fdA : FuncData}
variable {A : Around} {outer : List Env} {s : Shared} {H0 : Hp} {E : XK} {D : Ends}
theorem wor_D (T : Tb) (B : Blt mg) (hr : Room 4 (A.deeper (envOfC "_law_t2_world" (defScope sWor) s.heap.objs.size f (.ref c))))
    (FK : TopF K mg "_law_pick" sPick ["_law_pen_here", "_law_some"] fK fdK) (GK : FnOk P w K mg base CX0 2 fK fdK ["_law_pen_here", "_law_some"] (spPick K T))
    (FS : TopF K mg "_law_shuffled" sShuf ["_law_pen_here", "_law_some"] fS fdS) (GS : FnOk P w K mg base CX0 2 fS fdS ["_law_pen_here", "_law_some"] (spShuf K T))
    (FA : TopF K mg "_law_t2_datum" sDat ["_law_pen_here", "_law_serial"] fA fdA) (GA : FnOk P w K mg base CX0 3 fA fdA ["_law_pen_here", "_law_serial"] (spDat K T))
    {pn cl : Addr} {m k : Nat} {mx : Int} (hP : PenB H0 pn cl m) (hm : m + 3000 ≤ 1000000000)
    (R : Tail (XW P w K mg base f c A outer s H0 E) ((defBody sWor).drop 8) D (PoN K w T H0 pn cl m k mx)) :
    Tail (XW P w K mg base f c A outer s H0 E) ((defBody sWor).drop 6) D (PoA K w T H0 pn cl m k mx 1600 16) := by
  have st7 : Tail (XW P w K mg base f c A outer s H0 E) ((defBody sWor).drop 7) D (fun σ H => ∃ (Hb : Hp) (l kl g ow gd nm : Addr) (cs : List Pl) (ks : List Dm) (es : Es) (sk : Nat) (o6 o7 o8 o10 o11 o12 o13 o19 : Option V),
      σ = [some (.ref pn), some (.int k), some (.int mx), some (.ref l), some (.ref kl), some (.ref g), o6, o7, o8, some (.int sk), o10, o11, o12, o13, some (.ref ow), some (.ref nm), none, none, none, o19] ∧ WSt K w T H0 Hb pn cl (m + 1600) l kl g cs ks es ∧ sk < ks.length ∧ ks.length ≤ 16 ∧
      OSt K w T Hb H pn cl (m + 1600) ow gd nm ∧ H ow = some (.dK [(kS "glues", .ref gd)]) ∧ DicW K w H gd [] ∧ LstW K H nm []) := by
    refine Tail.cons (st := _) (ps_for PassesOwn.never rfl (pi_list (pe_call GS (hr.mono (by decide)) (by rfl) FS.mg FS.fn.kp FS.b .nil pass0 (pa_cons (pv 0) (pa_cons (pe_listRg (by rfl) (by rfl) B.list (prg_1 (by rfl) B.range (pe_callB call_lenL (by rfl) B.len boot_len (pa_cons (pv 4) pa_nil)))) pa_nil)))) (pg_name (i := 16) scWor.nd rfl (.inl rfl)) (pss_one (ps_expr (pe_bm PySem.F.plainAttrs_list PySem.F.slot_list_append PySem.F.type_list_append (mt_appD T) (pv 15) (pa_cons (pe_tupD T (pa_cons (pv 16) (pa_cons (pe_call GA (hr.mono (by decide)) (by rfl) FA.mg FA.fn.kp FA.b .nil pass0 (pa_cons (pv 0) (pa_cons (pe_op op_add (pe_callB call_lenL (by rfl) B.len boot_len (pa_cons (pv 15) pa_nil)) (pe_op op_mul (pe_call GK (hr.mono (by decide)) (by rfl) FK.mg FK.fn.kp FK.b .nil pass0 (pa_cons (pv 0) (pa_cons (pe_lstD T (pa_cons pe_int (pa_cons pe_int pa_nil))) pa_nil))) pe_int)) pa_nil))) pa_nil))) pa_nil))))) (fun N hN => ?_) R
    rintro σ H ⟨Hb, l, kl, g, ow, gd, nm, cs, ks, es, sk, o6, o7, o8, o10, o11, o12, o13, o19, rfl, W, hsk, hB, O, how, hgd, hnm⟩
    have W1 := O.ws W
    refine ⟨_, rfl, _, rfl, ks, .ref kl, rfl, .inl W1.Kd.ls, ks.length, rfl, .of_le (by decide) (by omega) (by decide) (by omega), fun rl nrl => ?_⟩
    have gr : Go T [] H (upd H rl (.lst (rgV 0 (ks.length : Int)))) := .new nrl
    have Lr : LstW K (upd H rl (.lst (rgV 0 (ks.length : Int)))) rl ((List.range ks.length).map fun i : Nat => NestedKey.num (i : Int)) := ⟨_, upd_same, rg_dat _⟩
    have O2 := O.up gr
    refine ⟨pn, cl, _, _, .ref rl, rfl, O2.P, .inl Lr.ls, by rw [List.length_map, List.length_range]; omega, by rw [List.length_map, List.length_range]; omega, fun sl fs H3 hperm nsl g3 P3 L3 => ?_⟩
    have O3 := O2.draw g3 P3
    have hfl : fs.length = ks.length := by rw [hperm.length_eq, List.length_map, List.length_range]
    rw [List.length_map, List.length_range] at O3
    have how3 := g3.dK (gr.dK how (by simp)) (by
      intro z
      exact (W.P.nwp O.no) (List.mem_singleton.mp z).symm)
    have hgd3 : DicW K w H3 gd [] := (hgd.go gr (by simp)).go g3 (DicW.pne (hgd.go gr (by simp)) O2.P)
    have hnm3 : LstW K H3 nm [] := (hnm.go gr (by simp)).goP g3 O2.P
    have gdnm : gd ≠ nm := fun z => by
      obtain ⟨_, e, _⟩ := hgd.ex
      exact hnm.no_dic e z
    have ownm : ow ≠ nm := by
      obtain ⟨_, e, _⟩ := hnm.ex
      exact ne_of how e fun z => nomatch z
    have slnm : sl ≠ nm := by
      intro z
      obtain ⟨_, e, _⟩ := (hnm.go gr (by simp)).ex
      exact nsl.ne e (fun _ y => nomatch y) z.symm
    refine ⟨sl, rfl, (let ⟨ys, h, _⟩ := L3.ex; ⟨ys, .inl (.inl h)⟩), for_it (walk_L (ds := fs)) (fun i σ H4 => ∃ (nl : List Dm) (o16 : Option V), σ = [some (.ref pn), some (.int k), some (.int mx), some (.ref l), some (.ref kl), some (.ref g), o6, o7, o8, some (.int sk), o10, o11, o12, o13, some (.ref ow), some (.ref nm), o16, none, none, o19] ∧
      OSt K w T Hb H4 pn cl (m + 1600 + ks.length + 25 * i) ow gd nm ∧ Go T [nm, pn] H3 H4 ∧ nl.length = i ∧ (∀ n ∈ nl, Nm 6 n) ∧ LstW K H4 nm (List.zipWith (fun a b => NestedKey.tup [a, b]) (fs.take i) nl)) ⟨[], _, rfl, O3, .refl, rfl, fun _ z => (nomatch z), by simpa using hnm3⟩ (fun i σ H4 _ ⟨_, _, _, _, g4, _⟩ => (L3.go g4 fun z => by
        rcases List.mem_cons.mp z with z | z
        · exact slnm z
        · exact L3.pne P3 (List.mem_singleton.mp z)).ls) ?_ ?_⟩
    · rintro i x σ H4 H4' hi ⟨nl, o16, rfl, O4, g4, hnl, hnm4, L4⟩ ⟨rfl, d, hd, hx⟩
      have hi16 : i < 16 := by omega
      have zl : (List.zipWith (fun a b => NestedKey.tup [a, b]) (fs.take i) nl).length = i := by
        rw [List.length_zipWith, List.length_take, hnl]
        omega
      obtain ⟨ys, hny, _⟩ := id L4.ex
      refine ⟨_, rfl, .inl ⟨rfl, _, .inl (.inl hny)⟩, _, rfl, _, rfl, _, rfl, _, .ref nm, rfl, .inl L4.ls, _, rfl, [.num 0, .num 95], .cons (.num _) (.cons (.num _) .nil), sz2, fun p5 H5 n5 g5 L5 => ?_⟩
      have O5 := O4.up g5
      refine ⟨pn, cl, _, _, .ref p5, rfl, O5.P, .inl L5.ls, by simp, by simp, by omega, fun dp vp H6 hdp g6 P6 hvp => ?_⟩
      obtain ⟨q, rfl, hq⟩ : ∃ q : Nat, dp = .num q ∧ q ≤ 95 := by
        simp only [List.mem_cons, List.not_mem_nil, or_false] at hdp
        rcases hdp with rfl | rfl
        · exact ⟨0, rfl, by decide⟩
        · exact ⟨95, rfl, by decide⟩
      obtain rfl := hvp.numI
      have O6 := O5.draw g6 P6
      refine ⟨_, _, rfl, rfl, .inl ⟨by omega, by omega⟩, _, _, rfl, rfl, pn, cl, _, _, rfl, P6, ?_, ?_, by omega, fun nd nv H7 hnd g7 P7 hnv => ?_⟩
      · rw [zl]; omega
      · rw [zl]; omega
      have O7 := O6.draw g7 P7
      have g47 : Go T [pn] H4' H7 := (g5.up.trans g6).trans g7
      refine ⟨[d, nd], .cons (g47.dat hx) (.cons hnv .nil), sz2, fun p8 H8 n8 g8 d8 => ?_⟩
      have L8 : LstW K H8 nm _ := (((L4.go g5 (by simp)).goP g6 O5.P).goP g7 O6.P).go g8 (by simp)
      refine ⟨nm, _, .tup [d, nd], .ref p8, rfl, rfl, L8, d8, lsz (by omega), fun H9 g9 L9 => ⟨nl ++ [nd], _, rfl, ((O7.up g8).chg W.P g9 (.inr (.inr rfl))).le (by omega), ?_, by rw [List.length_append, List.length_singleton, hnl], fun n hn => ?_, ?_⟩⟩
      · exact (g4.trans ((g47.trans g8.up).mono (by simp))).trans (g9.mono (by simp))
      · rcases List.mem_append.mp hn with z | z
        · exact hnm4 n z
        · rw [List.mem_singleton.mp z]; exact hnd
      · have e : List.zipWith (fun a b => NestedKey.tup [a, b]) (fs.take (i + 1)) (nl ++ [nd]) = List.zipWith (fun a b => NestedKey.tup [a, b]) (fs.take i) nl ++ [.tup [d, nd]] := by
          rw [List.take_succ, hd, Option.toList, List.zipWith_append]
          · rfl
          · rw [List.length_take, hnl]; omega
        rw [e]
        exact L9
    · rintro σ H4 ⟨nl, o16, rfl, O4, g4, hnl, hnm4, L4⟩
      rw [List.take_length] at L4
      have pN : pn ∉ [nm, pn] → False := fun z => z (by simp)
      refine hN _ _ ⟨Hb, l, kl, g, ow, gd, nm, cs, ks, es, sk, fs, nl, _, _, _, _, _, _, _, _, _, rfl, W, hsk, hB, O4.le (by omega), ?_, ?_, hperm, hnl, hnm4, L4⟩
      · exact g4.dK how3 fun z => by
          rcases List.mem_cons.mp z with z | z
          · exact ownm z
          · exact (W.P.nwp O.no) (List.mem_singleton.mp z).symm
      · exact hgd3.go g4 fun z => by
          rcases List.mem_cons.mp z with z | z
          · exact gdnm z
          · exact DicW.pne hgd3 P3 z
  refine Tail.cons (st := _) (ps_asg (pe_tupG T (pa_cons (pe_disp (pps_cons pe_str (pe_dnew T) pps_nil) (by rfl) (by rfl) (fun z => by cases z) (by decide)) (pa_cons (pe_lstD T pa_nil) pa_nil))) (pg_tup (by rfl) (pgs_cons (pg_name (i := 14) scWor.nd rfl (.inr rfl)) (pgs_cons (pg_name (i := 15) scWor.nd rfl (.inl rfl)) pgs_nil))) (by rfl)) (fun N hN => ?_) st7
  rintro σ H ⟨l, kl, g, cs, ks, es, sk, o6, o7, o8, o10, o11, o12, o13, o19, rfl, W, has, hsk, hB⟩
  intro ow now
  have g1 : Go T [] H (upd H ow (.dK [])) := .new now
  refine fun gd H2 ngd g2 W2 => ⟨g2.dK upd_same (by simp), [(kS "glues", .ref gd)], rfl, (show 1 ≤ 15 by decide), ?_⟩
  have how2 : H2 ow = some (.dK []) := g2.dK upd_same (by simp)
  have e0 : mergeK [] [(kS "glues", V.ref gd)] = [(kS "glues", .ref gd)] := rfl
  rw [e0]
  have g3 : Go T [ow] H2 (upd H2 ow (.dK [(kS "glues", .ref gd)])) := .setK how2
  have owgd : ow ≠ gd := ne_of_none upd_same ngd
  refine ⟨[], .nil, sz0, fun nm H4 nnm g4 L4 => ⟨sz2, fun pt H5 npt g5 h5 => ⟨pt, _, rfl, .inl (.inl h5), rfl, _, _, rfl, _, _, rfl, rfl, ?_⟩⟩⟩
  have gH3 : Go T [] H (upd H2 ow (.dK [(kS "glues", .ref gd)])) := ((g1.trans g2).up.trans g3).drop now
  have gH5 : Go T [] H H5 := gH3.trans (g4.trans g5)
  have W3 : DicW K w (upd H2 ow (.dK [(kS "glues", .ref gd)])) gd [] := W2.go g3 fun z => owgd (List.mem_singleton.mp z).symm
  exact hN _ _ ⟨H, l, kl, g, ow, gd, nm, cs, ks, es, sk, _, _, _, _, _, _, _, _, rfl, W, hsk, hB, ⟨gH5.up, .none now, g1.nw (.none ngd) (by simp), gH3.nw (.none nnm) (by simp), W.P.up gH5⟩, (g4.trans g5).dK upd_same (by simp), W3.go (g4.trans g5) (by simp), L4.go g5 (by simp)⟩
end
end TG

/-! The law's defs: world: glues by name, the end. -/
namespace TG
open PySem PySem.Spec L2 TGr LamX
open PyProof.Rows hiding St
theorem kd12 : ¬ kS "glues" = kS "seed_name" := by decide +kernel
theorem kd13 : ¬ kS "glues" = kS "order" := by decide +kernel
theorem kd14 : ¬ kS "glues" = kS "seed" := by decide +kernel
theorem kd15 : ¬ kS "glues" = kS "cells" := by decide +kernel
theorem kd23 : ¬ kS "seed_name" = kS "order" := by decide +kernel
theorem kd24 : ¬ kS "seed_name" = kS "seed" := by decide +kernel
theorem kd25 : ¬ kS "seed_name" = kS "cells" := by decide +kernel
theorem kd34 : ¬ kS "order" = kS "seed" := by decide +kernel
theorem kd35 : ¬ kS "order" = kS "cells" := by decide +kernel
theorem kd45 : ¬ kS "seed" = kS "cells" := by decide +kernel
/-- the seed's name, if told -/
def ownS (gd : Addr) : Option (Dm × V) → List (Key × V)
  | none => [(kS "glues", .ref gd)]
  | some (_, v) => [(kS "glues", .ref gd), (kS "seed_name", v)]
def own3 (gd : Addr) (vn : V) (od : Addr) : List (Key × V) := [(kS "glues", .ref gd), (kS "seed_name", vn), (kS "order", .ref od)]
def own4 (gd : Addr) (vn : V) (od : Addr) (vs : V) : List (Key × V) := [(kS "glues", .ref gd), (kS "seed_name", vn), (kS "order", .ref od), (kS "seed", vs)]
def ownK (gd : Addr) (vn : V) (od : Addr) (vs : V) (cd : Addr) : List (Key × V) := [(kS "glues", .ref gd), (kS "seed_name", vn), (kS "order", .ref od), (kS "seed", vs), (kS "cells", .ref cd)]
theorem ownS_gl (gd : Addr) (sd : Option (Dm × V)) : valV (ownS gd sd) (kS "glues") = some (.ref gd) := by cases sd <;> exact valV_pos rfl
theorem ownS_put (gd : Addr) (sd : Option (Dm × V)) (d : Dm) (v : V) : putK (ownS gd sd) (kS "seed_name") v = ownS gd (some (d, v)) := by
  cases sd with
  | none => exact putK_new v (valV_neg kd12)
  | some p =>
    unfold putK
    rw [if_pos (by rw [valV_any, show valV (ownS gd (some p)) (kS "seed_name") = some p.2 from (valV_neg kd12).trans (valV_pos rfl)]; rfl)]
    simp only [ownS, List.map_cons, List.map_nil, if_neg kd12, if_pos]
theorem own_order (gd : Addr) (d : Dm) (vn : V) (od : Addr) : putK (ownS gd (some (d, vn))) (kS "order") (.ref od) = own3 gd vn od := putK_new _ ((valV_neg kd13).trans ((valV_neg kd23).trans valV_nil))
theorem own_seed (gd : Addr) (vn : V) (od : Addr) (vs : V) : putK (own3 gd vn od) (kS "seed") vs = own4 gd vn od vs := putK_new _ ((valV_neg kd14).trans ((valV_neg kd24).trans ((valV_neg kd34).trans valV_nil)))
theorem own_cells (gd : Addr) (vn : V) (od : Addr) (vs : V) (cd : Addr) : putK (own4 gd vn od vs) (kS "cells") (.ref cd) = ownK gd vn od vs cd := putK_new _ ((valV_neg kd15).trans ((valV_neg kd25).trans ((valV_neg kd35).trans ((valV_neg kd45).trans valV_nil))))
theorem own4_seed (gd : Addr) (vn : V) (od : Addr) (vs : V) : valV (own4 gd vn od vs) (kS "seed") = some vs := (valV_neg kd14).trans ((valV_neg kd24).trans ((valV_neg kd34).trans (valV_pos rfl)))
section
variable {gd od cd : Addr} {vn vs : V}
theorem ok_glues : valV (ownK gd vn od vs cd) (kS "glues") = some (.ref gd) := valV_pos rfl
theorem ok_name : valV (ownK gd vn od vs cd) (kS "seed_name") = some vn := (valV_neg kd12).trans (valV_pos rfl)
theorem ok_order : valV (ownK gd vn od vs cd) (kS "order") = some (.ref od) := (valV_neg kd13).trans ((valV_neg kd23).trans (valV_pos rfl))
theorem ok_seed : valV (ownK gd vn od vs cd) (kS "seed") = some vs := (valV_neg kd14).trans ((valV_neg kd24).trans ((valV_neg kd34).trans (valV_pos rfl)))
theorem ok_cells : valV (ownK gd vn od vs cd) (kS "cells") = some (.ref cd) := (valV_neg kd15).trans ((valV_neg kd25).trans ((valV_neg kd35).trans ((valV_neg kd45).trans (valV_pos rfl))))
end
theorem DGet.of {H : Hp} {a : Addr} {kvs : List (Key × V)} {x : Str} {v : V} (h : H a = some (.dK kvs)) (e : valV kvs (kS x) = some v) : DGet H a (.str x) (some v) := by
  have := DGet.k (k := kS x) h
  rw [e] at this
  exact this
theorem DPut.of {H : Hp} {a : Addr} {kvs kvs' : List (Key × V)} {x : Str} {v : V} (h : H a = some (.dK kvs)) (hl : kvs.length ≤ 1000) (e : putK kvs (kS x) v = kvs') : DPut H a (.str x) v (upd H a (.dK kvs')) := by
  have := DPut.k (k := kS x) (v := v) h (lsz hl)
  rw [e] at this
  exact this
/-- what the law owns: the glues by name, the order, the seed, the cells -/
structure OwnAt (K : PySem.W.Frag) (w : World) (H : Hp) (ow : Addr) (T : Ts) (ord : List Dm) (sp : Pl) (sn : Dm) (cls : List Pl) : Prop where
  ex : ∃ (gd od cd : Addr) (vn vs : V) (e : Es), H ow = some (.dK (ownK gd vn od vs cd)) ∧ DicW K w H gd e ∧ (∀ n ∈ ord, look e n = some (.tup [T.gl n 0, T.gl n 1, T.gl n 2, T.gl n 3])) ∧ LstW K H od ord ∧ Dat K H sn vn ∧ Dat K H (pd sp) vs ∧ LstW K H cd (cls.map pd)
  sn : sn ∈ ord
theorem OwnAt.up {K : PySem.W.Frag} {w : World} {Tb' : Tb} {H H' : Hp} {ow : Addr} {T : Ts} {ord : List Dm} {sp : Pl} {sn : Dm} {cls : List Pl} (h : OwnAt K w H ow T ord sp sn cls) (g : Go Tb' [] H H') : OwnAt K w H' ow T ord sp sn cls := by
  obtain ⟨gd, od, cd, vn, vs, e, h1, h2, h3, h4, h5, h6, h7⟩ := h.ex
  exact ⟨⟨gd, od, cd, vn, vs, e, g.dK h1 (by simp), h2.go g (by simp), h3, h4.go g (by simp), g.dat h5, g.dat h6, h7.go g (by simp)⟩, h.sn⟩
/-- behind the glues by name -/
def PoG (K : PySem.W.Frag) (w : World) (T : Tb) (H0 : Hp) (pn cl : Addr) (m k : Nat) (mx : Int) : L2.St → Hp → Prop := fun σ H => ∃ (Hb : Hp) (l kl g ow gd nm : Addr) (cs : List Pl) (ks : List Dm) (es e : Es) (sn : Dm) (vn : V) (o6 o7 o8 o9 o10 o11 o12 o13 o16 o17 o19 : Option V),
  σ = [some (.ref pn), some (.int k), some (.int mx), some (.ref l), some (.ref kl), some (.ref g), o6, o7, o8, o9, o10, o11, o12, o13, some (.ref ow), some (.ref nm), o16, o17, none, o19] ∧ WSt K w T H0 Hb pn cl (m + 1600) l kl g cs ks es ∧
  OSt K w T Hb H pn cl (m + 2200) ow gd nm ∧ H ow = some (.dK (ownS gd (some (sn, vn)))) ∧ DicW K w H gd e ∧ Dat K H sn vn ∧ (look e sn).isSome = true ∧ (∀ n d, look e n = some d → Nm 6 n ∧ ∃ k4, d = .tup k4 ∧ KindOk k4) ∧ e.length ≤ 16
section
variable {P : Program} {w : World} {K : PySem.W.Frag} {mg : Str → Option Value} {base : Heap} {f fD fK fS fA c PT : Addr} {fd fdD fdK fdS fdA : FuncData}
variable {A : Around} {outer : List Env} {s : Shared} {H0 : Hp} {E : XK} {D : Ends}
theorem wor_E (T : Tb) (B : Blt mg) (hr : Room 4 (A.deeper (envOfC "_law_t2_world" (defScope sWor) s.heap.objs.size f (.ref c))))
    {pn cl : Addr} {m k : Nat} {mx : Int} (hP : PenB H0 pn cl m) (hm : m + 3000 ≤ 1000000000)
    (R : Tail (XW P w K mg base f c A outer s H0 E) ((defBody sWor).drop 9) D (PoG K w T H0 pn cl m k mx)) :
    Tail (XW P w K mg base f c A outer s H0 E) ((defBody sWor).drop 8) D (PoN K w T H0 pn cl m k mx) := by
  have hu := hu_of hr
  refine Tail.cons (st := _) (ps_for PassesOwn.never rfl (pi_list (pv 15)) (pg_tup (by rfl) (pgs_cons (pg_name (i := 16) scWor.nd rfl (.inl rfl)) (pgs_cons (pg_name (i := 17) scWor.nd rfl (.inl rfl)) pgs_nil))) (pss_cons (ps_asg (pe_ix ix_DL (pv 4) (pv 16) (fun _ _ => rfl)) (pg_sub (pe_dget hu (pv 14) pe_str (fun _ _ => rfl)) (pv 17) (put_D T (Room.u9 hr))))
        (pss_one (ps_if (pt_cmpR op_eq (pv 16) (pv 9) (nomark _)) (pss_one (ps_dput hu (pv 14) pe_str (pv 17) rfl)) pss_nil)))) (fun N hN => ?_) R
  rintro σ H ⟨Hb, l, kl, g, ow, gd, nm, cs, ks, es, sk, fs, nl, o6, o7, o8, o10, o11, o12, o13, o16, o19, rfl, W, hsk, hB, O, how, hgd, hperm, hnl, hnm6, hnm⟩
  have hfl : fs.length = ks.length := by rw [hperm.length_eq, List.length_map, List.length_range]
  have owgd : ow ≠ gd := by
    obtain ⟨_, e, _⟩ := hgd.ex
    exact ne_of how e fun z => by unfold DicO at z; cases z
  have nmgd : nm ≠ gd := fun z => by
    obtain ⟨_, e, _⟩ := hgd.ex
    exact hnm.no_dic e z.symm
  have nmow : nm ≠ ow := by
    obtain ⟨_, e, _⟩ := hnm.ex
    exact ne_of e how fun z => nomatch z
  refine ⟨_, rfl, nm, rfl, (let ⟨ys, h, _⟩ := hnm.ex; ⟨ys, .inl (.inl h)⟩), for_it (walk_L (ds := List.zipWith (fun a b => NestedKey.tup [a, b]) fs nl)) (fun i σ H1 => ∃ (e : Es) (sd : Option (Dm × V)) (o16 o17 : Option V), σ = [some (.ref pn), some (.int k), some (.int mx), some (.ref l), some (.ref kl), some (.ref g), o6, o7, o8, some (.int sk), o10, o11, o12, o13, some (.ref ow), some (.ref nm), o16, o17, none, o19] ∧
    OSt K w T Hb H1 pn cl (m + 2200) ow gd nm ∧ Go T [ow, gd] H H1 ∧ H1 ow = some (.dK (ownS gd sd)) ∧ DicW K w H1 gd e ∧ (∀ n d, look e n = some d → Nm 6 n ∧ ∃ k4, d = .tup k4 ∧ KindOk k4) ∧ e.length ≤ i ∧ (match sd with | none => ∀ j, j < i → fs[j]? ≠ some (.num (sk : Int)) | some (sn, vn) => Dat K H1 sn vn ∧ (look e sn).isSome = true)) ⟨[], none, _, _, rfl, O, .refl, how, hgd, fun _ _ z => (nomatch z), Nat.le_refl _, fun _ z => absurd z (Nat.not_lt_zero _)⟩ (fun i σ H1 _ ⟨_, _, _, _, _, _, g1, _⟩ => (hnm.go g1 fun z => by
      rcases List.mem_cons.mp z with z | z
      · exact nmow z
      · exact nmgd (List.mem_singleton.mp z)).ls) ?_ ?_⟩
  · rintro i x σ H1 H1' hi ⟨e, sd, o16, o17, rfl, O1, g1, how1, W1, he, hel, hsd⟩ ⟨rfl, d, hd, hx⟩
    rw [List.length_zipWith] at hi
    obtain ⟨a, n, ha, hn, rfl⟩ : ∃ a n, fs[i]? = some a ∧ nl[i]? = some n ∧ d = .tup [a, n] := by
      rw [List.getElem?_zipWith] at hd
      cases ha : fs[i]? with
      | none => rw [ha] at hd; simp at hd
      | some a =>
        cases hn : nl[i]? with
        | none => rw [ha, hn] at hd; simp at hd
        | some n => rw [ha, hn] at hd; exact ⟨a, n, rfl, rfl, (Option.some.inj hd).symm⟩
    obtain ⟨q, hq, rfl⟩ : ∃ q : Nat, q < ks.length ∧ a = .num (q : Int) := by
      have := hperm.mem_iff.mp (List.mem_of_getElem? ha)
      obtain ⟨q, hq, rfl⟩ := List.mem_map.mp this
      exact ⟨q, List.mem_range.mp hq, rfl⟩
    have hn6 := hnm6 n (List.mem_of_getElem? hn)
    obtain ⟨pa, y1, y2, rfl, hs, hy1, hy2⟩ := hx.two
    obtain rfl := hy1.numI
    have Wk := O1.ws W
    obtain ⟨k4, hk, hk4⟩ := W.kok ks[q] (List.getElem_mem hq)
    refine ⟨pa, _, rfl, hs, rfl, _, _, rfl, _, _, rfl, rfl, ?_⟩
    refine ⟨_, rfl, _, rfl, ks, q, ks[q], .inl Wk.Kd.ls, rfl, atI_nat (List.getElem?_eq_getElem hq), fun v hv => ?_⟩
    have n8 : n.depth ≤ 8 := Nat.le_trans hn6.dp (by decide)
    refine ⟨_, rfl, ow, _, rfl, DGet.of how1 (ownS_gl gd sd), _, rfl, gd, e, n, ks[q], rfl, W1, hy2, n8, hv, lsz (by omega), fun H2 g2 W2 => ?_⟩
    have O2 := O1.chg W.P g2 (.inr (.inl rfl))
    have how2 := g2.dK how1 fun z => owgd (List.mem_singleton.mp z)
    have he2 : ∀ n' d, look (putD e n ks[q]) n' = some d → Nm 6 n' ∧ ∃ k4, d = .tup k4 ∧ KindOk k4 := fun n' d h => by
      rw [look_putD] at h
      by_cases cn : n' = n
      · rw [if_pos cn] at h
        cases h
        rw [cn]
        exact ⟨hn6, k4, hk, hk4⟩
      · rw [if_neg cn] at h
        exact he n' d h
    have hl2 := putD_len e n ks[q]
    have g12 : Go T [ow, gd] H H2 := g1.trans (g2.mono (by simp))
    refine ⟨_, rfl, _, rfl, rfl, _, rfl, ?_⟩
    by_cases cq : V.int (q : Int) = V.int (sk : Int)
    · refine iteTp cq ⟨_, rfl, _, rfl, ow, _, rfl, DPut.of how2 (by cases sd <;> simp [ownS]) (ownS_put gd sd n y2), ?_⟩
      have g3 : Go T [ow] H2 (upd H2 ow (.dK (ownS gd (some (n, y2))))) := .setK how2
      refine ⟨_, some (n, y2), _, _, rfl, O2.chg W.P g3 (.inl rfl), g12.trans (g3.mono (by simp)), upd_same, W2.go g3 fun z => owgd (List.mem_singleton.mp z).symm, he2, by omega, g3.dat (g2.dat hy2), ?_⟩
      rw [look_putD, if_pos rfl]
      rfl
    · refine iteFp cq ⟨_, sd, _, _, rfl, O2, g12, how2, W2, he2, by omega, ?_⟩
      cases sd with
      | none =>
        intro j hj h
        rcases Nat.lt_succ_iff_lt_or_eq.mp hj with z | z
        · exact hsd j z h
        · rw [z, ha] at h
          injection h with h
          injection h with h
          exact cq (by rw [h])
      | some p =>
        obtain ⟨sn, vn⟩ := p
        refine ⟨g2.dat hsd.1, ?_⟩
        rw [look_putD]
        by_cases cn : sn = n
        · rw [if_pos cn]; rfl
        · rw [if_neg cn]; exact hsd.2
  · rintro σ H1 ⟨e, sd, o16, o17, rfl, O1, g1, how1, W1, he, hel, hsd⟩
    have zl : (List.zipWith (fun a b => NestedKey.tup [a, b]) fs nl).length = fs.length := by rw [List.length_zipWith, hnl, Nat.min_self]
    rw [zl] at hsd hel
    cases sd with
    | none =>
      exfalso
      have hm : NestedKey.num (sk : Int) ∈ fs := hperm.mem_iff.mpr (List.mem_map.mpr ⟨sk, List.mem_range.mpr hsk, rfl⟩)
      obtain ⟨j, hj⟩ := List.mem_iff_getElem?.mp hm
      exact hsd j (List.getElem?_eq_some_iff.mp hj).1 hj
    | some p =>
      obtain ⟨sn, vn⟩ := p
      exact hN _ _ ⟨Hb, l, kl, g, ow, gd, nm, cs, ks, es, e, sn, vn, _, _, _, _, _, _, _, _, _, _, _, rfl, W, O1, how1, W1, hsd.1, hsd.2, he, by omega⟩
end
end TG

/-! The law's defs: world: the end. -/
namespace TG
open PySem PySem.Spec L2 TGr LamX
open PyProof.Rows hiding St
def glOf (e : Es) (n : Dm) (i : Nat) : Dm := match look e n with
  | some (.tup k4) => k4.getD i .none
  | _ => .none
theorem glOf_eq {e : Es} {n : Dm} {k4 : List Dm} (h : look e n = some (.tup k4)) (hk : KindOk k4) : NestedKey.tup k4 = .tup [glOf e n 0, glOf e n 1, glOf e n 2, glOf e n 3] := by
  unfold glOf
  rw [h]
  congr 1
  match k4, hk.len with
  | [a, b, c, d], _ => rfl
theorem glOf_ok {e : Es} {n : Dm} {k4 : List Dm} (h : look e n = some (.tup k4)) (hk : KindOk k4) {i : Nat} (hi : i < 4) : Glue (glOf e n i) := by
  unfold glOf
  rw [h]
  dsimp only
  have hi' : i < k4.length := by rw [hk.len]; exact hi
  rw [List.getD_eq_getElem?_getD, List.getElem?_eq_getElem hi']
  exact hk.glu _ (List.getElem_mem hi')
section
variable {P : Program} {w : World} {K : PySem.W.Frag} {mg : Str → Option Value} {base : Heap} {f fD fK c PT : Addr} {fd fdD fdK : FuncData}
variable {A : Around} {outer : List Env} {s : Shared} {H0 : Hp} {E : XK} {Q : VK}
theorem wor_F (T : Tb) (B : Blt mg) (hr : Room 4 (A.deeper (envOfC "_law_t2_world" (defScope sWor) s.heap.objs.size f (.ref c)))) (hgd : A.guards = some []) (L : LamT T base mg ("_law_t2_world.<locals>." ++ "<lambda>") c PT)
    (FD : TopF K mg "_law_draw" sDraw ["_law_pen_here", "_law_many"] fD fdD) (GD : FnOk P w K mg base CX0 1 fD fdD ["_law_pen_here", "_law_many"] (spDraw T))
    (FK : TopF K mg "_law_pick" sPick ["_law_pen_here", "_law_some"] fK fdK) (GK : FnOk P w K mg base CX0 2 fK fdK ["_law_pen_here", "_law_some"] (spPick K T))
    {pn cl : Addr} {m k : Nat} {mx : Int} (hP : PenB H0 pn cl m) (hm : m + 3000 ≤ 1000000000) (hT : Tabs T H0)
    (q : ∀ ow (T0 : Ts) sp sn cls H', Nw H0 ow → T0.Ok → (∀ n ∈ T0.ns, Shw n) → cls.length ≤ 10 → Go T [pn] H0 H' → PenB H' pn cl (m + 3000) → OwnAt K w H' ow T0 T0.ns sp sn cls → Q (.ref ow) H') :
    Tail (XW P w K mg base f c A outer s H0 E) ((defBody sWor).drop 9) { nx := fun _ H' => Q .non H', rt := Q } (PoG K w T H0 pn cl m k mx) := by
  have hu := hu_of hr
  refine ⟨_, pss_cons (ps_dput hu (pv 14) pe_str (pe_sortL (T := T) (c := c) (P := PT) (x := "_law_name") (k := fun d => .str d.data.shown) (ok := fun _ _ d => Shw d) (by rfl) B.sorted (pe_callTy (call_listDD T hr.hd) (by rfl) B.list (by decide +kernel) (pa_cons (pe_dget hu (pv 14) pe_str (fun _ _ => rfl)) pa_nil)) L.tb rfl L.mem L.un hr.depth (Room.u40 hr) (lam1_by (sc := defScope sWor) (by decide +kernel)) rfl (fun _ _ _ _ _ _ => rfl) (.inr fun d => ⟨_, rfl⟩) (fun σ => lamB_repr B.repr rfl rfl rfl hgd (Room.u90 hr)) (fun h g => h)) rfl) (pss_cons (ps_set (i := 18) scWor.nd rfl (.inl rfl) (pe_call GK (hr.mono (by decide)) (by rfl) FK.mg FK.fn.kp FK.b .nil pass0 (pa_cons (pv 0) (pa_cons (pe_lstD T (pa_cons pe_int (pa_cons pe_int (pa_cons pe_int (pa_cons (pe_op op_pow pe_int pe_int) pa_nil))))) pa_nil)))) (pss_cons (ps_dput hu (pv 14) pe_str (pe_tupD T (pa_cons (pe_op op_mul (pe_op op_sub (pe_call GD (hr.mono (by decide)) (by rfl) FD.mg FD.fn.kp FD.b .nil pass0 (pa_cons (pv 0) (pa_cons pe_int pa_nil))) pe_int) (pv 18)) (pa_cons (pe_op op_mul (pe_op op_sub (pe_call GD (hr.mono (by decide)) (by rfl) FD.mg FD.fn.kp FD.b .nil pass0 (pa_cons (pv 0) (pa_cons pe_int pa_nil))) pe_int) (pv 18)) pa_nil))) rfl) (pss_cons (ps_dput hu (pv 14) pe_str (pe_lc (own := [("_law_cell", 6)]) (g := gName 6) (te := tTupD K T (tCons (tOp (rI0 fun i j => .int (i + j)) (tOp (rIxL' K) (tVar 6) (tC (.int 0))) (tOp (rIxL' K) (tDGet (tVar 14) (tC (.str "seed"))) (tC (.int 0)))) (tCons (tOp (rI0 fun i j => .int (i + j)) (tOp (rIxL' K) (tVar 6) (tC (.int 1))) (tOp (rIxL' K) (tDGet (tVar 14) (tC (.str "seed"))) (tC (.int 1)))) tNil))) (by rfl) scWor.nd (pi_list (pv 3)) (blkOk_by (own := [("_law_cell", 6)]) (N := nWor) (sc := defScope sWor) (by decide +kernel)) (fun _ _ _ _ _ => pg_name (i := 6) scWor.nd rfl (Or.inl rfl)) (fun _ _ _ _ _ => pts_nil) (fun _ _ _ _ _ => (pe_tupD T (pa_cons (pe_op op_add (pe_ix ix_DL (pv 6) pe_int (fun _ _ => rfl)) (pe_ix ix_DL (pe_dget hu (pv 14) pe_str (fun _ _ => rfl)) pe_int (fun _ _ => rfl))) (pa_cons (pe_op op_add (pe_ix ix_DL (pv 6) pe_int (fun _ _ => rfl)) (pe_ix ix_DL (pe_dget hu (pv 14) pe_str (fun _ _ => rfl)) pe_int (fun _ _ => rfl))) pa_nil))))) rfl) (pss_one (ps_ret (pv 14)))))), ?_⟩
  rintro σ H ⟨Hb, l, kl, g, ow, gd, nm, cs, ks, es, e, sn, vn, o6, o7, o8, o9, o10, o11, o12, o13, o16, o17, o19, rfl, W, O, how, hgd', hvn, hsn, he, hel⟩
  have shw : ∀ d ∈ e.map (·.1), Shw d := fun d hd => by
    cases q : look e d with
    | none => exact absurd hd (look_none_iff.mp q)
    | some x => exact (he d x q).1.shw (by decide)
  have tabs : ∀ {H'}, Go T [ow, gd, nm, pn] Hb H' → Tabs T H' := fun {H'} g => g.tabs (W.go.tabs hT)
  refine ⟨_, rfl, ow, _, rfl, DGet.of how (ownS_gl gd _), gd, e, rfl, hgd'.toD, fun p H1 xs np g1 l1 a1 => ⟨e.map (·.1), ⟨p, xs, rfl, .inl (.inl l1), a1⟩, shw, g1.tabs (tabs O.go), fun od H2 g2 L2' => ?_⟩⟩
  have hper : ((e.map (·.1)).mergeSort (PySem.W.dataLe false fun d => .str d.data.shown)).Perm (e.map (·.1)) := List.mergeSort_perm _ _
  generalize (e.map (·.1)).mergeSort (PySem.W.dataLe false fun d => .str d.data.shown) = ord at hper L2'
  have O2 := O.up (g1.trans g2)
  have how2 := (g1.trans g2).dK how (by simp)
  have gd2 := hgd'.go (g1.trans g2) (by simp)
  have owgd : ow ≠ gd := by
    obtain ⟨_, e, _⟩ := gd2.ex
    exact ne_of how2 e fun z => by unfold DicO at z; cases z
  have owod : ow ≠ od := by
    obtain ⟨_, e, _⟩ := L2'.ex
    exact ne_of how2 e fun z => nomatch z
  refine ⟨_, rfl, ow, _, rfl, DPut.of how2 (by simp [ownS]) (own_order gd sn vn od), ?_⟩
  have n1 : ∀ {a : Addr}, a ≠ ow → a ∉ [ow] := fun h z => h (List.mem_singleton.mp z)
  have g3 : Go T [ow] H2 (upd H2 ow (.dK (own3 gd vn od))) := .setK how2
  have O3 := O2.chg W.P g3 (.inl rfl)
  have how3 : upd H2 ow (.dK (own3 gd vn od)) ow = some (.dK (own3 gd vn od)) := upd_same
  have gd3 := gd2.go g3 (n1 owgd.symm)
  have od3 := L2'.go g3 (n1 owod.symm)
  have vn3 : Dat K (upd H2 ow (.dK (own3 gd vn od))) sn vn := g3.dat ((g1.trans g2).dat hvn)
  generalize upd H2 ow (.dK (own3 gd vn od)) = H3 at g3 O3 how3 gd3 od3 vn3
  -- far
  refine ⟨_, rfl, _, _, rfl, rfl, ⟨by decide, by decide, by decide⟩, [.num 1, .num 1, .num 1, .num (10 ^ (12 : Int).toNat)], .cons (.num _) (.cons (.num _) (.cons (.num _) (.cons (.num _) .nil))), sz4, fun p4 H4 n4 g4 L4 => ?_⟩
  have O4 := O3.up g4
  refine ⟨pn, cl, _, _, .ref p4, rfl, O4.P, .inl L4.ls, by simp, by simp, by omega, fun df vf H5 hdf g5 P5 hvf => ?_⟩
  obtain ⟨fr, rfl, hf0, hf1⟩ : ∃ fr : Int, df = .num fr ∧ 0 ≤ fr ∧ fr ≤ 10 ^ 12 := by
    simp only [List.mem_cons, List.not_mem_nil, or_false] at hdf
    rcases hdf with rfl | rfl | rfl | rfl
    · exact ⟨1, rfl, by decide, by decide⟩
    · exact ⟨1, rfl, by decide, by decide⟩
    · exact ⟨1, rfl, by decide, by decide⟩
    · exact ⟨_, rfl, by decide, by decide⟩
  obtain rfl := hvf.numI
  have O5 := O4.draw g5 P5
  -- the seed
  refine ⟨_, rfl, pn, cl, _, 9, rfl, P5, by decide, by decide, by omega, fun r6 H6 hr6 g6 P6 => ⟨_, _, rfl, rfl, _, rfl, _, _, rfl, rfl, .inl ⟨by omega, by omega⟩, ?_⟩⟩
  have O6 := O5.draw g6 P6
  refine ⟨_, rfl, pn, cl, _, 9, rfl, P6, by decide, by decide, by omega, fun r7 H7 hr7 g7 P7 => ⟨_, _, rfl, rfl, _, rfl, _, _, rfl, rfl, .inl ⟨by omega, by omega⟩, ?_⟩⟩
  have O7 := O6.draw g7 P7
  obtain ⟨sp, esp⟩ : ∃ sp : Pl, sp = (((r6 : Int) - 4) * fr, ((r7 : Int) - 4) * fr) := ⟨_, rfl⟩
  refine ⟨[.num sp.1, .num sp.2], by rw [esp]; exact .cons (.num _) (.cons (.num _) .nil), sz2, fun p8 H8 n8 g8 d8 => ?_⟩
  have O8 := O7.up g8
  have g37 : Go T [pn] H3 H7 := ((g4.up.trans g5).trans g6).trans g7
  have g38 : Go T [pn] H3 H8 := g37.trans g8.up
  have owpn : ow ∉ [pn] := fun z => (W.P.nwp O.no) (List.mem_singleton.mp z).symm
  have how8 := g38.dK how3 owpn
  have gd8 := gd3.go g38 (DicW.pne gd3 O3.P)
  have od8 := od3.goP g38 O3.P
  refine ⟨_, rfl, ow, _, rfl, DPut.of how8 (by simp [own3]) (own_seed gd vn od (.ref p8)), ?_⟩
  have g9 : Go T [ow] H8 (upd H8 ow (.dK (own4 gd vn od (.ref p8)))) := .setK how8
  have O9 := O8.chg W.P g9 (.inl rfl)
  have how9 : upd H8 ow (.dK (own4 gd vn od (.ref p8))) ow = some (.dK (own4 gd vn od (.ref p8))) := upd_same
  have gd9 := gd8.go g9 (n1 owgd.symm)
  have od9 := od8.go g9 (n1 owod.symm)
  have vn9 : Dat K (upd H8 ow (.dK (own4 gd vn od (.ref p8)))) sn vn := g9.dat (g38.dat vn3)
  have vs9 : Dat K (upd H8 ow (.dK (own4 gd vn od (.ref p8)))) (pd sp) (.ref p8) := g9.dat d8
  generalize upd H8 ow (.dK (own4 gd vn od (.ref p8))) = H9 at g9 O9 how9 gd9 od9 vn9 vs9
  -- the cells
  have W9 := O9.ws W
  refine ⟨_, rfl, l, rfl, (let ⟨ys, h, _⟩ := W9.L.ex; ⟨ys, .inl (.inl h)⟩), fun D' nD => ?_⟩
  refine lc_D (K := K) T (walk_L (ds := cs.map pd)) nD (fun j ds H10 => Go T [D'] H9 H10 ∧ ∃ qs : List Pl, ds = qs.map pd ∧ qs.length = j) (fun H10 g' _ => ⟨g'.up, [], rfl, rfl⟩) (fun j ds H10 _ ⟨g', _⟩ => (W9.own g' nD).L.ls) ?_ ?_
  · rintro j ds x H10 H10' hj ⟨g10, qs, rfl, hq⟩ D10 ⟨rfl, d, hd, hx⟩
    obtain ⟨cc, hcc, rfl⟩ : ∃ cc, cs[j]? = some cc ∧ pd cc = d := by
      rw [List.getElem?_map] at hd
      obtain ⟨r, h1, h2⟩ := Option.map_eq_some_iff.mp hd
      exact ⟨r, h1, h2⟩
    have hj10 : j < 10 := by
      have := W9.c10
      rw [List.length_map] at hj
      omega
    have how10 := g10.dK how9 fun z => ne_of_none how9 nD (List.mem_singleton.mp z)
    have vs10 := g10.dat vs9
    refine ⟨rfl, yesT ⟨_, rfl, [.num cc.1, .num cc.2], 0, .num cc.1, .inr hx, rfl, rfl, fun v hv => ?_⟩⟩
    obtain rfl := hv.numI
    refine ⟨_, rfl, ow, _, rfl, DGet.of how10 (own4_seed gd vn od (.ref p8)), [.num sp.1, .num sp.2], 0, .num sp.1, .inr vs10, rfl, rfl, fun v hv => ?_⟩
    obtain rfl := hv.numI
    refine ⟨_, _, rfl, rfl, _, rfl, [.num cc.1, .num cc.2], 1, .num cc.2, .inr hx, rfl, rfl, fun v hv => ?_⟩
    obtain rfl := hv.numI
    refine ⟨_, rfl, ow, _, rfl, DGet.of how10 (own4_seed gd vn od (.ref p8)), [.num sp.1, .num sp.2], 1, .num sp.2, .inr vs10, rfl, rfl, fun v hv => ?_⟩
    obtain rfl := hv.numI
    refine ⟨_, _, rfl, rfl, [.num (cc.1 + sp.1), .num (cc.2 + sp.2)], .cons (.num _) (.cons (.num _) .nil), sz2, fun p11 H11 n11 g11 d11 => lcN T (D10.go g11 (by simp)) d11 (lsz (by rw [List.length_map, hq]; omega)) fun H12 g12 L12 => ⟨(g10.trans g11.up).trans g12, qs ++ [(cc.1 + sp.1, cc.2 + sp.2)], by rw [List.map_append]; rfl, by rw [List.length_append, hq]; rfl⟩⟩
  · rintro ds H10 ⟨g10, qs, rfl, hq⟩ D10
    have g10' := g10.drop nD
    have O10 := O9.up g10'
    have how10 := g10'.dK how9 (by simp)
    have owD : ow ≠ D' := ne_of_none how9 nD
    refine ⟨_, rfl, ow, _, rfl, DPut.of how10 (by simp [own4]) (own_cells gd vn od (.ref p8) D'), ?_⟩
    have g11 : Go T [ow] H10 (upd H10 ow (.dK (ownK gd vn od (.ref p8) D'))) := .setK how10
    have O11 := O10.chg W.P g11 (.inl rfl)
    refine ⟨_, rfl, ?_⟩
    have key : ∀ n ∈ ord, ∃ k4, look e n = some (.tup k4) ∧ KindOk k4 ∧ Nm 6 n := fun n hn => by
      have hm := hper.mem_iff.mp hn
      cases q : look e n with
      | none => exact absurd hm (look_none_iff.mp q)
      | some x =>
        obtain ⟨h1, k4, rfl, h2⟩ := he n x q
        exact ⟨k4, rfl, h2, h1⟩
    have e16 : ord.length ≤ 20 := by rw [hper.length_eq, List.length_map]; omega
    refine q ow ⟨ord, glOf e⟩ sp sn qs _ (W.go.nw O.no fun z => owpn z) ⟨hper.nodup_iff.mpr hgd'.nd, e16, fun n hn => ?_, fun n hn i hi => ?_⟩ (fun n hn => ?_) (by rw [hq, List.length_map]; exact W9.c10) (W.go.trans O11.gop) (O11.P.le (by omega)) ⟨⟨gd, od, D', vn, .ref p8, e, upd_same, (gd9.go g10' (by simp)).go g11 (n1 owgd.symm), fun n hn => ?_, (od9.go g10' (by simp)).go g11 (n1 owod.symm), g11.dat (g10'.dat vn9), g11.dat (g10'.dat vs9), D10.go g11 (n1 owD.symm)⟩, ?_⟩
    · obtain ⟨_, _, _, h⟩ := key n hn
      exact ⟨h.ne, h.dp⟩
    · obtain ⟨k4, h1, h2, _⟩ := key n hn
      exact glOf_ok h1 h2 hi
    · obtain ⟨_, _, _, h⟩ := key n hn
      exact h.shw (by decide)
    · obtain ⟨k4, h1, h2, _⟩ := key n hn
      rw [h1, glOf_eq h1 h2]
    · refine hper.mem_iff.mpr ?_
      cases q : look e sn with
      | none => rw [q] at hsn; cases hsn
      | some x => exact List.mem_map.mpr ⟨_, look_mem q, rfl⟩
end
end TG

/-! The law's defs: world, whole; tile_set. -/
namespace TG
open PySem PySem.Spec L2 TGr LamX
open PyProof.Rows hiding St
def spWor (K : PySem.W.Frag) (w : World) (T : Tb) : Sp := fun vs H Q _ => ∃ (pn cl : Addr) (m : Nat) (k : Nat) (mx : Int), vs = [.ref pn, .int k, .int mx] ∧ PenB H pn cl m ∧ 0 < k ∧ k ≤ 10 ∧ m + 3000 ≤ 1000000000 ∧ Tabs T H ∧
  ∀ ow (T0 : Ts) sp sn cls H', Nw H ow → T0.Ok → (∀ n ∈ T0.ns, Shw n) → cls.length ≤ 10 → Go T [pn] H H' → PenB H' pn cl (m + 3000) → OwnAt K w H' ow T0 T0.ns sp sn cls → Q (.ref ow) H'
section
variable {P : Program} {w : World} {K : PySem.W.Frag} {mg : Str → Option Value} {base : Heap} {f fD fK fA fP fE fO fL fS c PT : Addr} {fd fdD fdK fdA fdP fdE fdO fdL fdS : FuncData}
theorem ok_wor (T : Tb) (F : FunC K "_law_t2_world" "_law_t2_world" sWor f fd c) (B : Blt mg) (L : LamT T base mg ("_law_t2_world.<locals>." ++ "<lambda>") c PT)
    (FD : TopF K mg "_law_draw" sDraw ["_law_pen_here", "_law_many"] fD fdD) (FK : TopF K mg "_law_pick" sPick ["_law_pen_here", "_law_some"] fK fdK) (FS : TopF K mg "_law_shuffled" sShuf ["_law_pen_here", "_law_some"] fS fdS)
    (FA : TopF K mg "_law_t2_datum" sDat ["_law_pen_here", "_law_serial"] fA fdA) (GA : FnOk P w K mg base CX0 3 fA fdA ["_law_pen_here", "_law_serial"] (spDat K T))
    (FP : TopF K mg "_law_t2_patch" sPat ["_law_pen_here", "_law_many"] fP fdP) (GP : FnOk P w K mg base CX0 3 fP fdP ["_law_pen_here", "_law_many"] (spPat K T))
    (FE : TopF K mg "_law_t2_edge_glues" sEdge ["_law_pen_here", "_law_cells", "_law_mixture"] fE fdE) (GE : FnOk P w K mg base CX0 4 fE fdE ["_law_pen_here", "_law_cells", "_law_mixture"] (spEdge K w T))
    (FO : TopF K mg "_law_t2_outer_glue" sOut ["_law_pen_here", "_law_mixture"] fO fdO) (GO : FnOk P w K mg base CX0 2 fO fdO ["_law_pen_here", "_law_mixture"] (spOut K T))
    (FL : TopF K mg "_law_t2_late_rival" sLate ["_law_glues", "_law_cells", "_law_at"] fL fdL) (GL : FnOk P w K mg base CX0 2 fL fdL ["_law_glues", "_law_cells", "_law_at"] (spLate K w T)) :
    FnG P w K mg base 5 f fd ["_law_pen_here", "_law_many", "_law_mixture"] (spWor K w T) := by
  have GD : FnOk P w K mg base CX0 1 fD fdD ["_law_pen_here", "_law_many"] (spDraw T) := ok_draw T FD B
  have GK : FnOk P w K mg base CX0 2 fK fdK ["_law_pen_here", "_law_some"] (spPick K T) := ok_pick T FK B FD
  have GS : FnOk P w K mg base CX0 2 fS fdS ["_law_pen_here", "_law_some"] (spShuf K T) := ok_shuf T FS B FD
  refine F.okG scWor (fun vs H Q E h => ?_) (fun A outer s H vs Q E hr hgd h => ?_)
  · obtain ⟨pn, _, _, k, mx, rfl, _⟩ := h
    rfl
  · obtain ⟨pn, cl, m, k, mx, rfl, hP, k0, k1, hm, hT, q⟩ := h
    obtain ⟨t, h1, h2⟩ := wor_A T B hr FD GD FP GP FE GE FO GO hP k0 k1 (by omega) (wor_B T B hr FD GD FK GK hP (by omega) (wor_C T B hr FD GD FK GK FL GL hP (by omega) (wor_D T B hr FK GK FS GS FA GA hP (by omega) (wor_E T B hr hP (by omega) (wor_F T B hr hgd L FD GD FK GK hP (by omega) hT q)))))
    exact ⟨t, h1, h2 _ _ ⟨rfl, rfl⟩⟩
end
theorem paired_imp {α β : Type} {F G : α → β → Prop} : ∀ {xs : List α} {ys : List β}, Paired F xs ys → (∀ x y, F x y → G x y) → Paired G xs ys
  | _, _, .nil, _ => .nil
  | _, _, .cons r t, h => .cons (h _ _ r) (paired_imp t h)
/-! ### tile_set -/
abbrev sMade : Stmt := top 32
theorem scMade : FnScope ["_law_pen_here", "_law_own", "_law_tiles", "_law_name", "_law_kind"] ["_law_pen_here", "_law_own"] (defScope sMade) := ⟨rfl, rfl, rfl, by decide +kernel, rfl, by decide +kernel, by decide +kernel⟩
def spMade (K : PySem.W.Frag) (w : World) (T : Tb) (CT CS : Addr) : Sp := fun vs H Q _ => ∃ (pn cl ow : Addr) (m : Nat) (T0 : Ts) (sp : Pl) (sn : Dm) (cls : List Pl), vs = [.ref pn, .ref ow] ∧ PenB H pn cl m ∧ ow ≠ pn ∧ OwnAt K w H ow T0 T0.ns sp sn cls ∧ T0.Ok ∧ (∀ n ∈ T0.ns, Shw n) ∧ m + 100 ≤ 1000000000 ∧ Tabs T H ∧
  ∀ ts (ns : List Dm) H', ns.Perm T0.ns → Go T [pn] H H' → PenB H' pn cl (m + 100) → TsAt K w CT CS H' ts ⟨ns, T0.gl⟩ → Q (.ref ts) H'
section
variable {P : Program} {w : World} {K : PySem.W.Frag} {mg : Str → Option Value} {base : Heap} {f fD fS fTI fSI : Addr} {fd fdD fdS fdTI fdSI : FuncData} {CT CS : Addr}
theorem OwnAt.goP {T : Tb} {H H' : Hp} {ow pn cl : Addr} {m : Nat} {T0 : Ts} {ord : List Dm} {sp : Pl} {sn : Dm} {cls : List Pl} (h : OwnAt K w H ow T0 ord sp sn cls) (g : Go T [pn] H H') (P : PenB H pn cl m) (n : ow ≠ pn) : OwnAt K w H' ow T0 ord sp sn cls := by
  obtain ⟨gd, od, cd, vn, vs, e, h1, h2, h3, h4, h5, h6, h7⟩ := h.ex
  exact ⟨⟨gd, od, cd, vn, vs, e, g.dK h1 fun z => n (List.mem_singleton.mp z), h2.go g (DicW.pne h2 P), h3, h4.goP g P, g.dat h5, g.dat h6, h7.goP g P⟩, h.sn⟩
theorem ok_made (T : Tb) (F : TopF K mg "_law_t2_tile_set" sMade ["_law_pen_here", "_law_own"] f fd) (B : Blt mg) (XT : TxtT K mg CT) (XS : TxtS K mg CS)
    (FD : TopF K mg "_law_draw" sDraw ["_law_pen_here", "_law_many"] fD fdD) (FS : TopF K mg "_law_shuffled" sShuf ["_law_pen_here", "_law_some"] fS fdS)
    (MT : Mk K CT fTI) (BT : Binds K fdTI ["self", "name", "west", "south", "east", "north"] []) (GT : FnOk P w K mg base CX0 3 fTI fdTI ["self", "name", "west", "south", "east", "north"] (spTiI K T CT))
    (MS : Mk K CS fSI) (BS : Binds K fdSI ["self", "tiles"] []) (GSI : FnG P w K mg base 4 fSI fdSI ["self", "tiles"] (spTsI K w T CT CS)) :
    FnG P w K mg base 6 f fd ["_law_pen_here", "_law_own"] (spMade K w T CT CS) := by
  have GD : FnOk P w K mg base CX0 1 fD fdD ["_law_pen_here", "_law_many"] (spDraw T) := ok_draw T FD B
  have GS : FnOk P w K mg base CX0 2 fS fdS ["_law_pen_here", "_law_some"] (spShuf K T) := ok_shuf T FS B FD
  refine Fun.okG F.fn scMade (fun vs H Q E h => ?_) (fun cdv A outer s H vs Q E hr hgd h => ?_)
  · obtain ⟨pn, _, ow, _, _, _, _, _, rfl, _⟩ := h
    rfl
  · obtain ⟨pn, cl, ow, m, T0, sp, sn, cls, rfl, hP, opn, hO, hok, hsh, hm, hT, q⟩ := h
    have hu := hu_of hr
    refine ⟨_, pss_cons (ps_set (i := 2) scMade.nd rfl (.inl rfl) (pe_lstD T pa_nil))
      (pss_cons (ps_for PassesOwn.never rfl (pi_list (pe_call GS (hr.mono (by decide)) (by rfl) FS.mg FS.fn.kp FS.b .nil pass0 (pa_cons (pv 0) (pa_cons (pe_dget hu (pv 1) pe_str (fun _ _ => rfl)) pa_nil)))) (pg_name (i := 3) scMade.nd rfl (.inl rfl))
        (pss_cons (ps_set (i := 4) scMade.nd rfl (.inl rfl) (pe_ix (ix_D (Room.u9 hr)) (pe_dget hu (pv 1) pe_str (fun _ _ => rfl)) (pv 3) (fun _ _ => rfl)))
        (pss_one (ps_expr (pe_bm PySem.F.plainAttrs_list PySem.F.slot_list_append PySem.F.type_list_append mt_append (pv 2) (pa_cons (pe_make MT GT (hr.mono (by decide)) (by rfl) XT.mg BT .nil pass0 (pa_cons (pv 3) (pa_cons (pe_ix ix_DL (pv 4) pe_int (fun _ _ => rfl)) (pa_cons (pe_ix ix_DL (pv 4) pe_int (fun _ _ => rfl)) (pa_cons (pe_ix ix_DL (pv 4) pe_int (fun _ _ => rfl)) (pa_cons (pe_ix ix_DL (pv 4) pe_int (fun _ _ => rfl)) pa_nil)))))) pa_nil))))))
      (pss_one (ps_ret (pe_makeG (E := E0) MS GSI hr hgd (by rfl) XS.mg BS (pa_cons (pe_ifExp (pt_cmpR op_eq (pe_call GD (hr.mono (by decide)) (by rfl) FD.mg FD.fn.kp FD.b .nil pass0 (pa_cons (pv 0) (pa_cons pe_int pa_nil))) pe_int (nomark _)) (pv 2) (pe_callTy (call_tupV T) (by rfl) B.tuple boot_tuple (pa_cons (pv 2) pa_nil))) pa_nil))))), ?_⟩
    refine ⟨[], .nil, sz0, fun tl H1 ntl g1 L1 => ?_⟩
    have O1 := hO.up g1
    have P1 := hP.up g1
    obtain ⟨gd, od, cd, vn, vs, e, w1, w2, w3, w4, w5, w6, w7⟩ := id O1.ex
    refine ⟨_, rfl, _, rfl, ow, _, rfl, DGet.of w1 ok_order, pn, cl, m, T0.ns, .ref od, rfl, P1, .inl w4.ls, Nat.le_trans hok.len (by decide), by have := hok.len; omega, fun sl fs H2 hper nsl g2 P2 L2' => ?_⟩
    have hl20 : T0.ns.length ≤ 20 := hok.len
    have hfl := hper.length_eq
    obtain ⟨ys0, htl1, hy0⟩ := id L1.ex
    cases hy0
    have htl2 : H2 tl = some (.lst []) := g2.lst htl1 fun z => hP.pne ntl (List.mem_singleton.mp z).symm
    have sltl : sl ≠ tl := fun z => nsl.ne htl1 (fun _ y => nomatch y) z.symm
    have g02 : Go T [pn] H H2 := g1.up.trans g2
    refine ⟨sl, rfl, (let ⟨ys, h, _⟩ := L2'.ex; ⟨ys, .inl (.inl h)⟩), for_it (walk_L (ds := fs)) (fun i σ H3 => ∃ (xs : List V) (o3 o4 : Option V), σ = [some (.ref pn), some (.ref ow), some (.ref tl), o3, o4] ∧ Go T [tl] H2 H3 ∧ H3 tl = some (.lst xs) ∧ Paired (fun x n => ∃ t, x = V.ref t ∧ TileG K CT H3 t n (T0.gl n)) xs (fs.take i)) ⟨[], _, _, rfl, .refl, htl2, by simpa using Paired.nil⟩ (fun i σ H3 _ ⟨_, _, _, _, g3, _⟩ => (L2'.go g3 fun z => sltl (List.mem_singleton.mp z)).ls) ?_ ?_⟩
    · rintro i x σ H3 H3' hi ⟨xs, o3, o4, rfl, g3, htl, hpa⟩ ⟨rfl, n, hn, hx⟩
      have hns : n ∈ T0.ns := hper.mem_iff.mp (List.mem_of_getElem? hn)
      have gH3 : Go T [pn] H H3' := (((g02.mono (S' := [tl, pn]) (by simp)).trans (g3.mono (by simp)))).drop ntl
      have O3 := hO.goP gH3 hP opn
      obtain ⟨gd, od, cd, vn, vs, e, w1, w2, w3, w4, w5, w6, w7⟩ := id O3.ex
      refine ⟨_, rfl, ow, _, rfl, DGet.of w1 ok_glues, _, rfl, gd, e, n, _, rfl, w2.toD, hx, hok.d8 hns, w3 n hns, fun v hv => ?_⟩
      have gg : ∀ i, i < 4 → Glue (T0.gl n i) := hok.glu n hns
      refine ⟨_, rfl, .inl ⟨rfl, _, .inl (.inl htl)⟩, _, rfl, _, rfl, [T0.gl n 0, T0.gl n 1, T0.gl n 2, T0.gl n 3], 0, T0.gl n 0, .inr hv, rfl, rfl, fun v0 h0 => ⟨_, rfl, [T0.gl n 0, T0.gl n 1, T0.gl n 2, T0.gl n 3], 1, T0.gl n 1, .inr hv, rfl, rfl, fun v1 h1 => ⟨_, rfl, [T0.gl n 0, T0.gl n 1, T0.gl n 2, T0.gl n 3], 2, T0.gl n 2, .inr hv, rfl, rfl, fun v2 h2 => ⟨_, rfl, [T0.gl n 0, T0.gl n 1, T0.gl n 2, T0.gl n 3], 3, T0.gl n 3, .inr hv, rfl, rfl, fun v3 h3 => fun t dx nt ndx ne => ?_⟩⟩⟩⟩
      have gm : Go T [] H3' (upd (upd H3' dx (.own t)) t (.ins CT dx [])) := (Go.new ndx).trans (.new (by rw [upd_ne ne.symm]; exact nt))
      refine ⟨t, dx, n, T0.gl n, x, v0, v1, v2, v3, rfl, upd_same, gm.dat hx, (hok.nam n hns).1, gg, gm.dat h0, gm.dat h1, gm.dat h2, gm.dat h3, fun H4 g4 ht => ⟨rfl, ?_⟩⟩
      have g34 : Go T [] H3' H4 := (gm.up.trans g4).drop nt
      have htl4 := g34.lst htl (by simp)
      have g5 : Go T [tl] H4 (upd H4 tl (.lst (xs ++ [.ref t]))) := .setL htl4
      have hxl : xs.length = (fs.take i).length := Paired.length hpa
      have tin : ∀ {t' : Addr} {n' : Dm} {H'' : Hp}, TileG K CT H'' t' n' (T0.gl n') → H'' tl = some (.lst xs) → t' ∉ [tl] := fun {t' n' H''} h hl z => by
        obtain ⟨_, _, _, _, _, _, e, _⟩ := h.ex
        rw [List.mem_singleton.mp z, hl] at e
        cases e
      refine ⟨tl, xs, .ref t, rfl, rfl, htl4, lsz (by rw [hxl, List.length_take]; omega), xs ++ [.ref t], _, _, rfl, (g3.trans g34.up).trans g5, upd_same, ?_⟩
      rw [List.take_succ, hn]
      refine paired_snoc ⟨t, rfl, ht.go g5 (tin ht htl4)⟩ ?_
      refine paired_imp hpa fun x n ⟨t', e', h'⟩ => ⟨t', e', ?_⟩
      have h4 := h'.go g34 (by simp)
      exact h4.go g5 (tin h4 htl4)
    · rintro σ H3 ⟨xs, o3, o4, rfl, g3, htl, hpa⟩
      rw [List.take_length] at hpa
      have gH3 : Go T [pn] H H3 := (((g02.mono (S' := [tl, pn]) (by simp)).trans (g3.mono (by simp)))).drop ntl
      have P3 : PenB H3 pn cl (m + T0.ns.length) := P2.go g3 (fun z => hP.pne ntl (List.mem_singleton.mp z)) fun z => hP.cne ntl (List.mem_singleton.mp z)
      have okF : (Ts.mk fs T0.gl).Ok := ⟨hper.nodup_iff.mpr hok.nd, by show fs.length ≤ 20; omega, fun n hn => hok.nam n (hper.mem_iff.mp hn), fun n hn => hok.glu n (hper.mem_iff.mp hn)⟩
      have fin : ∀ H4 (a : Addr), Go T [pn] H3 H4 → PenB H4 pn cl (m + T0.ns.length + 1) → (SqL K H4 a xs ∨ SqT K H4 a xs) → ∀ ts dx, H4 ts = none → H4 dx = none → dx ≠ ts → spTsI K w T CT CS (.ref ts :: ([.ref a] ++ [])) (upd (upd H4 dx (.own ts)) ts (.ins CS dx [])) (fun v H5 => v = .non ∧ Q (.ref ts) H5) E0 := by
        intro H4 a g4 P4 hs ts dx nts ndx ne
        have gm : Go T [] H4 (upd (upd H4 dx (.own ts)) ts (.ins CS dx [])) := (Go.new ndx).trans (.new (by rw [upd_ne ne.symm]; exact nts))
        refine ⟨ts, dx, a, xs, fs, T0.gl, rfl, upd_same, gm.tabs ((gH3.trans g4).tabs hT), ?_, paired_imp hpa fun x n ⟨t', e', h'⟩ => ⟨t', e', (h'.go g4 fun z => ?_).go gm (by simp)⟩, okF, fun n hn => hsh n (hper.mem_iff.mp hn), fun ns H5 hp5 g5 hts => ⟨rfl, ?_⟩⟩
        · rcases hs with h | h
          · exact .inl (gm.sqL h (by simp))
          · exact .inr (gm.sqT h)
        · obtain ⟨_, ep⟩ := P3.pd
          obtain ⟨_, _, _, _, _, _, e, _⟩ := h'.ex
          rw [List.mem_singleton.mp z, ep] at e
          cases e
        · have g45 : Go T [] H4 H5 := (gm.up.trans g5).drop nts
          exact q ts ns H5 (hp5.trans hper) ((gH3.trans g4).trans g45.up) ((P4.up g45).le (by omega)) hts
      refine ⟨_, rfl, pn, cl, _, 2, rfl, P3, by decide, by decide, by omega, fun r H4 hr4 g4 P4 => ⟨rfl, _, rfl, ?_⟩⟩
      have htl4 : H4 tl = some (.lst xs) := g4.lst htl fun z => hP.pne ntl (List.mem_singleton.mp z).symm
      by_cases c : V.int r = V.int 0
      · exact iteTp c ⟨_, rfl, fin H4 tl g4 P4 (.inl (.inl (.inl htl4)))⟩
      · exact iteFp c ⟨_, rfl, tl, xs, rfl, .inl (.inl (.inl htl4)), fun b H5 g5 s5 => fin H5 b (g4.trans g5.up) (P4.up g5) (.inr s5)⟩
end
end TG

/-! The law's defs: bonds, fitting. -/
namespace TG
open PySem PySem.Spec L2 TGr LamX
open PyProof.Rows hiding St
theorem opp_mod {k : Nat} (hk : k < 4) : ((k : Int) + 2) % 4 = (opp k : Nat) := by
  rcases four hk with rfl | rfl | rfl | rfl <;> decide
/-- the law's bed: places, known names -/
structure LBed (K : PySem.W.Frag) (w : World) (H : Hp) (bd : Addr) (T : Ts) (eb : Es) : Prop where
  d : DicW K w H bd eb
  bo : BedOk T eb
  sm : eb.length ≤ 60
theorem LBed.go {K : PySem.W.Frag} {w : World} {Tb' : Tb} {S : List Addr} {H H' : Hp} {bd : Addr} {T : Ts} {eb : Es} (h : LBed K w H bd T eb) (g : Go Tb' S H H') (n : bd ∉ S) : LBed K w H' bd T eb := ⟨h.d.go g n, h.bo, h.sm⟩
/-- the kind of a name -/
def kd4 (T : Ts) (n : Dm) : List Dm := [T.gl n 0, T.gl n 1, T.gl n 2, T.gl n 3]
theorem kd4_get (T : Ts) (n : Dm) {i : Nat} (hi : i < 4) : atI (kd4 T n) (i : Int) = some (T.gl n i) := by
  rcases four hi with rfl | rfl | rfl | rfl <;> rfl
section
variable {P : Program} {w : World} {K : PySem.W.Frag} {mg : Str → Option Value} {base : Heap} {f fN fB : Addr} {fd fdN fdB : FuncData}
/-! ### bonds -/
abbrev sLB : Stmt := top 33
theorem scLB : FnScope ["_law_own", "_law_bed", "_law_place", "_law_name", "_law_total", "_law_side", "_law_other", "_law_glue"] ["_law_own", "_law_bed", "_law_place", "_law_name"] (defScope sLB) := ⟨rfl, rfl, rfl, by decide +kernel, rfl, by decide +kernel, by decide +kernel⟩
def spLB (K : PySem.W.Frag) (w : World) (Tb' : Tb) : Sp := fun vs H Q _ => ∃ (ow bd : Addr) (T : Ts) (ord : List Dm) (sp : Pl) (sn : Dm) (cls : List Pl) (eb : Es) (p : Pl) (x : V) (n : Dm) (y : V), vs = [.ref ow, .ref bd, x, y] ∧ OwnAt K w H ow T ord sp sn cls ∧ LBed K w H bd T eb ∧ T.Ok ∧ (∀ n, n ∈ ord ↔ n ∈ T.ns) ∧ Dat K H (pd p) x ∧ n ∈ T.ns ∧ Dat K H n y ∧ ∀ H', Go Tb' [] H H' → Q (.int (bnd T eb p n)) H'
theorem ok_lb (Tb' : Tb) (F : TopF K mg "_law_t2_bonds" sLB ["_law_own", "_law_bed", "_law_place", "_law_name"] f fd) (B : Blt mg) (FN : TopF K mg "_law_t2_next" sNext ["_law_place", "_law_side"] fN fdN) :
    FnOk P w K mg base CX0 2 f fd ["_law_own", "_law_bed", "_law_place", "_law_name"] (spLB K w Tb') := by
  have GN : FnOk P w K mg base CX0 1 fN fdN ["_law_place", "_law_side"] (spNext K Tb') := ok_next Tb' FN
  refine F.fn.ok scLB (fun vs H Q E h => ?_) (fun cdv A outer s H vs Q E hr h => ?_)
  · obtain ⟨ow, bd, _, _, _, _, _, _, _, _, _, _, rfl, _⟩ := h
    rfl
  · obtain ⟨ow, bd, T, ord, sp, sn, cls, eb, p, x, n, y, rfl, hO, hB, hT, hon, hx, hn, hy, q⟩ := h
    have hu := hu_of hr
    refine ⟨_, pss_cons (ps_set (i := 4) scLB.nd rfl (.inl rfl) pe_int)
      (pss_cons (ps_for PassesOwn.never rfl (pi_range1 rfl B.range (pa_cons pe_int pa_nil)) (pg_name (i := 5) scLB.nd rfl (.inl rfl))
        (pss_cons (ps_set (i := 6) scLB.nd rfl (.inl rfl) (pe_dm PySem.F.slot_dict_get PySem.F.type_dict_get (mt_getD (Room.u9 hr)) (pv 1) (pa_cons (pe_call GN hr (by rfl) FN.mg FN.fn.kp FN.b .nil pass0 (pa_cons (pv 2) (pa_cons (pv 5) pa_nil))) pa_nil)))
        (pss_one (ps_if (pt_cmpR op_notN (pv 6) pe_non (nomark _))
          (pss_cons (ps_set (i := 7) scLB.nd rfl (.inl rfl) (pe_ix ix_DL (pe_ix (ix_D (Room.u9 hr)) (pe_dget hu (pv 0) pe_str (fun _ _ => rfl)) (pv 3) (fun _ _ => rfl)) (pv 5) (fun _ _ => rfl)))
          (pss_one (ps_if (pt_cmpR (op_eqT hr.units) (pv 7) (pe_ix ix_DL (pe_ix (ix_D (Room.u9 hr)) (pe_dget hu (pv 0) pe_str (fun _ _ => rfl)) (pv 6) (fun _ _ => rfl)) (pe_op op_mod (pe_callTy call_int1 (by rfl) B.int boot_int (pa_cons (pe_op op_add (pv 5) pe_int) pa_nil)) pe_int) (fun _ _ => rfl)) (nomark _))
            (pss_one (ps_set (i := 4) scLB.nd rfl (.inl rfl) (pe_op op_add (pv 4) (pe_ix ix_DL (pv 7) pe_int (fun _ _ => rfl))))) pss_nil))) pss_nil))))
      (pss_one (ps_ret (pv 4)))), ?_⟩
    refine ⟨4, rfl, by decide, by decide, for_range (n := 4) (fun i σ H1 => ∃ (o5 o6 o7 : Option V), σ = [some (.ref ow), some (.ref bd), some x, some y, some (.int (((List.range i).map fun j => tm T eb p n j).sum)), o5, o6, o7] ∧ Go Tb' [] H H1) ⟨_, _, _, rfl, .refl⟩ ?_ ?_⟩
    · rintro i σ H1 hi ⟨o5, o6, o7, rfl, g1⟩
      have hsum : ((List.range (i + 1)).map fun j => tm T eb p n j).sum = ((List.range i).map fun j => tm T eb p n j).sum + tm T eb p n i := by
        rw [List.range_succ, List.map_append, List.sum_append]
        simp
      have hB1 := hB.go g1 (by simp)
      refine ⟨_, rfl, ⟨_, _, rfl, hB1.d.toD.ex.choose_spec.1⟩, _, rfl, _, rfl, p, x, i, by rw [Int.zero_add]; rfl, g1.dat hx, hi, fun v H2 g2 hv => ?_⟩
      have g12 := g1.trans g2
      have hB2 := hB.go g12 (by simp)
      refine ⟨bd, eb, pd (nb p i), v, rfl, rfl, hB2.d.toD, hv, pd_depth _, fun u hu' => ?_⟩
      refine ⟨_, rfl, rfl, _, rfl, ?_⟩
      cases e : at' eb (nb p i) with
      | none =>
        rw [show look eb (pd (nb p i)) = none from e] at hu'
        obtain rfl : u = .non := hu'
        refine iteF ⟨some (.int (0 + i)), some .non, o7, ?_, g12⟩
        have : tm T eb p n i = 0 := by unfold tm; rw [e]
        rw [hsum, this, Int.add_zero]
        rfl
      | some mm =>
        rw [show look eb (pd (nb p i)) = some mm from e] at hu'
        have hu' : Dat K H2 mm u := hu'
        have hm : mm ∈ T.ns := hB.bo.nam _ _ e
        have hnn := hu'.nn (hT.nam mm hm).1
        rw [hnn]
        have hO2 := hO.up g12
        obtain ⟨gd, od, cd, vn, vs, eo, w1, w2, w3, w4, w5, w6, w7⟩ := id hO2.ex
        have tmi : tm T eb p n i = if T.gl n i = T.gl mm (opp i) then gstr (T.gl mm (opp i)) else 0 := by unfold tm; rw [e]
        refine iteT ⟨_, rfl, ow, _, rfl, DGet.of w1 ok_glues, _, rfl, gd, eo, n, _, rfl, w2.toD, g12.dat hy, hT.d8 hn, w3 n ((hon n).mpr hn), fun v3 hv3 => ⟨_, rfl, kd4 T n, i, T.gl n i, .inr hv3, by rw [Int.zero_add], kd4_get T n hi, fun v4 hv4 => ?_⟩⟩
        have hgl := hT.glu n hn i hi
        have hgl2 := hT.glu mm hm (opp i) (opp_lt hi)
        refine ⟨_, rfl, _, rfl, ow, _, rfl, DGet.of w1 ok_glues, _, rfl, gd, eo, mm, _, rfl, w2.toD, hu', hT.d8 hm, w3 mm ((hon mm).mpr hm), fun v5 hv5 => ⟨_, rfl, _, _, rfl, rfl, .inl ⟨_, rfl, _, _, rfl, rfl, (by show (0 : Int) < 4; decide), ?_⟩⟩⟩
        refine ⟨kd4 T mm, opp i, T.gl mm (opp i), .inr hv5, ?_, kd4_get T mm (opp_lt hi), fun v6 hv6 => ⟨T.gl n i, T.gl mm (opp i), hv4, hv6, hgl.d60, hgl2.d60, _, rfl, ?_⟩⟩
        · show V.int ((0 + (i : Int) + 2) % 4) = _
          rw [Int.zero_add, opp_mod hi]
        by_cases c : T.gl n i = T.gl mm (opp i)
        · rw [if_pos c] at tmi
          obtain ⟨lb, st, e1, _⟩ := id hgl
          rw [e1] at hv4
          refine iteTp c ⟨_, rfl, _, rfl, [lb, .num st], 1, .num st, .inr hv4, rfl, rfl, fun v7 hv7 => ?_⟩
          obtain rfl := hv7.numI
          refine ⟨_, _, rfl, rfl, some (.int (0 + i)), some u, some v4, ?_, g12⟩
          rw [hsum, tmi, ← c, e1]
          rfl
        · rw [if_neg c] at tmi
          refine iteFp c ⟨some (.int (0 + i)), some u, some v4, ?_, g12⟩
          rw [hsum, tmi, Int.add_zero]
          rfl
    · rintro σ H1 ⟨o5, o6, o7, rfl, g1⟩
      refine ⟨_, rfl, ?_⟩
      have : ((List.range 4).map fun j => tm T eb p n j).sum = bnd T eb p n := by
        rw [bnd_tm]
        simp [List.range_succ]
        omega
      rw [this]
      exact q H1 g1
end
end TG

/-! The law's defs: fitting. -/
namespace TG
open PySem PySem.Spec L2 TGr LamX
open PyProof.Rows hiding St
theorem datA_ints {K : PySem.W.Frag} {H : Hp} : ∀ {ns : List Int} {xs : List V}, DatA K H (ns.map NestedKey.num) xs → xs = ns.map V.int
  | [], _, h => by cases h; rfl
  | n :: ns, _, h => by
    cases h with
    | cons h1 h2 =>
      obtain rfl := h1.numI
      rw [datA_ints h2]
      rfl
section
variable {P : Program} {w : World} {K : PySem.W.Frag} {mg : Str → Option Value} {base : Heap} {f fN fB : Addr} {fd fdN fdB : FuncData}
abbrev sLF : Stmt := top 34
theorem scLF : FnScope ["_law_own", "_law_bed", "_law_place", "_law_shown", "_law_side", "_law_other", "_law_name"] ["_law_own", "_law_bed", "_law_place"] (defScope sLF) := ⟨rfl, rfl, rfl, by decide +kernel, rfl, by decide +kernel, by decide +kernel⟩
def spLF (K : PySem.W.Frag) (w : World) (Tb' : Tb) : Sp := fun vs H Q _ => ∃ (ow bd : Addr) (T : Ts) (ord : List Dm) (sp : Pl) (sn : Dm) (cls : List Pl) (eb : Es) (p : Pl) (x : V), vs = [.ref ow, .ref bd, x] ∧ OwnAt K w H ow T ord sp sn cls ∧ LBed K w H bd T eb ∧ T.Ok ∧ (∀ n, n ∈ ord ↔ n ∈ T.ns) ∧ ord.length ≤ 20 ∧ Dat K H (pd p) x ∧
  ∀ l ds H', Nw H l → Go Tb' [] H H' → LstW K H' l ds → ds.length ≤ 20 → (∀ n ∈ ds, n ∈ T.ns ∧ 2 ≤ bnd T eb p n) → Q (.ref l) H'
theorem ok_lf (Tb' : Tb) (F : TopF K mg "_law_t2_fitting" sLF ["_law_own", "_law_bed", "_law_place"] f fd) (B : Blt mg) (FN : TopF K mg "_law_t2_next" sNext ["_law_place", "_law_side"] fN fdN) (FB : TopF K mg "_law_t2_bonds" sLB ["_law_own", "_law_bed", "_law_place", "_law_name"] fB fdB) :
    FnOk P w K mg base CX0 3 f fd ["_law_own", "_law_bed", "_law_place"] (spLF K w Tb') := by
  have GN : FnOk P w K mg base CX0 1 fN fdN ["_law_place", "_law_side"] (spNext K Tb') := ok_next Tb' FN
  have GB : FnOk P w K mg base CX0 2 fB fdB ["_law_own", "_law_bed", "_law_place", "_law_name"] (spLB K w Tb') := ok_lb Tb' FB B FN
  refine F.fn.ok scLF (fun vs H Q E h => ?_) (fun cdv A outer s H vs Q E hr h => ?_)
  · obtain ⟨ow, bd, _, _, _, _, _, _, _, _, rfl, _⟩ := h
    rfl
  · obtain ⟨ow, bd, T, ord, sp, sn, cls, eb, p, x, rfl, hO, hB, hT, hon, ho20, hx, q⟩ := h
    have hu := hu_of hr
    refine ⟨_, pss_cons (ps_set (i := 3) scLF.nd rfl (.inl rfl) (pe_lstD Tb' pa_nil))
      (pss_cons (ps_for PassesOwn.never rfl (pi_range1 rfl B.range (pa_cons pe_int pa_nil)) (pg_name (i := 4) scLF.nd rfl (.inl rfl))
        (pss_cons (ps_set (i := 5) scLF.nd rfl (.inl rfl) (pe_dm PySem.F.slot_dict_get PySem.F.type_dict_get (mt_getD (Room.u9 hr)) (pv 1) (pa_cons (pe_call GN (hr.mono (by decide)) (by rfl) FN.mg FN.fn.kp FN.b .nil pass0 (pa_cons (pv 2) (pa_cons (pv 4) pa_nil))) pa_nil)))
        (pss_one (ps_if (pt_cmpR op_notN (pv 5) pe_non (nomark _))
          (pss_one (ps_expr (pe_bm PySem.F.plainAttrs_list PySem.F.slot_list_append PySem.F.type_list_append (mt_appD Tb') (pv 3) (pa_cons (pe_ix ix_DL (pe_ix ix_DL (pe_ix (ix_D (Room.u9 hr)) (pe_dget hu (pv 0) pe_str (fun _ _ => rfl)) (pv 5) (fun _ _ => rfl)) (pe_op op_mod (pe_callTy call_int1 (by rfl) B.int boot_int (pa_cons (pe_op op_add (pv 4) pe_int) pa_nil)) pe_int) (fun _ _ => rfl)) pe_int (fun _ _ => rfl)) pa_nil)))) pss_nil))))
      (pss_cons (ps_if (pt_cmpR op_lt (pe_callB (cr_sum rfl) (by rfl) B.sum (by decide +kernel) (pa_cons (pv 3) pa_nil)) pe_int (nomark _)) (pss_one (ps_ret (pe_lstD Tb' pa_nil))) pss_nil)
      (pss_one (ps_ret (pe_lc (own := [("_law_name", 6)]) (g := gName 6) (tt := tTest (tOp (rI0 fun i j => .bl (decide (j ≤ i))) (tCall (spLB K w Tb') [] E0 (tCons (tVar 0) (tCons (tVar 1) (tCons (tVar 2) (tCons (tVar 6) tNil))))) (tC (.int 2)))) (te := tVar 6) (by rfl) scLF.nd (pi_list (pe_dget hu (pv 0) pe_str (fun _ _ => rfl)))
        (blkOk_by (own := [("_law_name", 6)]) (N := ["_law_own", "_law_bed", "_law_place", "_law_shown", "_law_side", "_law_other", "_law_name"]) (sc := defScope sLF) (by decide +kernel)) (fun _ _ _ _ _ => pg_name (i := 6) scLF.nd rfl (Or.inl rfl))
        (fun _ _ _ _ _ => pts_one (pt_cmpR op_ge (pe_call GB hr (by rfl) FB.mg FB.fn.kp FB.b .nil pass0 (pa_cons (pv 0) (pa_cons (pv 1) (pa_cons (pv 2) (pa_cons (pv 6) pa_nil))))) pe_int (nomark _))) (fun _ _ _ _ _ => pv 6)))))), ?_⟩
    refine ⟨[], .nil, sz0, fun l H1 nl g1 L1 => ?_⟩
    refine ⟨4, rfl, by decide, by decide, for_range (n := 4) (fun i σ H2 => ∃ (ns : List Int) (o4 o5 : Option V), σ = [some (.ref ow), some (.ref bd), some x, some (.ref l), o4, o5, none] ∧ Go Tb' [l] H1 H2 ∧ LstW K H2 l (ns.map NestedKey.num) ∧ ns.length ≤ i) ⟨[], _, _, rfl, .refl, L1, Nat.le_refl _⟩ ?_ ?_⟩
    · rintro i σ H2 hi ⟨ns, o4, o5, rfl, g2, L2', hns⟩
      have gH2 : Go Tb' [] H H2 := (g1.up.trans g2).drop nl
      have hB2 := hB.go gH2 (by simp)
      refine ⟨_, rfl, ⟨_, _, rfl, hB2.d.toD.ex.choose_spec.1⟩, _, rfl, _, rfl, p, x, i, by rw [Int.zero_add]; rfl, gH2.dat hx, hi, fun v H3 g3 hv => ?_⟩
      have gH3 := gH2.trans g3
      have hB3 := hB.go gH3 (by simp)
      have L3 := L2'.go g3 (by simp)
      refine ⟨bd, eb, pd (nb p i), v, rfl, rfl, hB3.d.toD, hv, pd_depth _, fun u hu' => ?_⟩
      refine ⟨_, rfl, rfl, _, rfl, ?_⟩
      cases e : at' eb (nb p i) with
      | none =>
        rw [show look eb (pd (nb p i)) = none from e] at hu'
        obtain rfl : u = .non := hu'
        exact iteF ⟨ns, _, _, rfl, g2.trans g3.up, L3, by omega⟩
      | some mm =>
        rw [show look eb (pd (nb p i)) = some mm from e] at hu'
        have hu' : Dat K H3 mm u := hu'
        have hm : mm ∈ T.ns := hB.bo.nam _ _ e
        have hnn := hu'.nn (hT.nam mm hm).1
        rw [hnn]
        have hO3 := hO.up gH3
        obtain ⟨gd, od, cd, vn, vs, eo, w1, w2, w3, w4, w5, w6, w7⟩ := id hO3.ex
        have hgl2 := hT.glu mm hm (opp i) (opp_lt hi)
        obtain ⟨ys, hl3, _⟩ := id L3.ex
        refine iteT ⟨_, rfl, .inl ⟨rfl, _, .inl (.inl hl3)⟩, _, rfl, ow, _, rfl, DGet.of w1 ok_glues, _, rfl, gd, eo, mm, _, rfl, w2.toD, hu', hT.d8 hm, w3 mm ((hon mm).mpr hm), fun v5 hv5 => ⟨_, rfl, _, _, rfl, rfl, .inl ⟨_, rfl, _, _, rfl, rfl, (by show (0 : Int) < 4; decide), ?_⟩⟩⟩
        refine ⟨kd4 T mm, opp i, T.gl mm (opp i), .inr hv5, ?_, kd4_get T mm (opp_lt hi), fun v6 hv6 => ?_⟩
        · show V.int ((0 + (i : Int) + 2) % 4) = _
          rw [Int.zero_add, opp_mod hi]
        obtain ⟨lb, st, e1, _⟩ := id hgl2
        rw [e1] at hv6
        refine ⟨[lb, .num st], 1, .num st, .inr hv6, rfl, rfl, fun v7 hv7 => ?_⟩
        refine ⟨l, _, .num st, v7, rfl, rfl, L3, hv7, lsz (by rw [List.length_map]; omega), fun H4 g4 L4 => ⟨ns ++ [st], _, _, rfl, (g2.trans g3.up).trans g4, by rw [List.map_append]; exact L4, by rw [List.length_append, List.length_singleton]; omega⟩⟩
    · rintro σ H2 ⟨ns, o4, o5, rfl, g2, L2', hns⟩
      have gH2 : Go Tb' [] H H2 := (g1.up.trans g2).drop nl
      obtain ⟨ys, hl2, hys⟩ := id L2'.ex
      have eys := datA_ints hys
      subst eys
      refine ⟨_, rfl, l, ns, rfl, .inl (.inl hl2), _, _, rfl, rfl, _, rfl, ?_⟩
      by_cases c : ns.sum < 2
      · refine iteTp c ⟨[], .nil, sz0, fun p3 H3 n3 g3 L3 => ?_⟩
        exact q p3 [] H3 (gH2.nw (.none n3) (by simp)) (gH2.trans g3) L3 (Nat.zero_le _) fun _ z => nomatch z
      · refine iteFp c ?_
        have hO2 := hO.up gH2
        obtain ⟨gd, od, cd, vn, vs, eo, w1, w2, w3, w4, w5, w6, w7⟩ := id hO2.ex
        refine ⟨_, rfl, ow, _, rfl, DGet.of w1 ok_order, od, rfl, (let ⟨ys, h, _⟩ := w4.ex; ⟨ys, .inl (.inl h)⟩), fun D nD => ?_⟩
        have odD : od ≠ D := w4.ne nD
        refine lc_D (K := K) Tb' (walk_L (ds := ord)) nD (fun i ds H3 => Go Tb' [D] H2 H3 ∧ ds.length ≤ i ∧ ∀ n ∈ ds, n ∈ T.ns ∧ 2 ≤ bnd T eb p n) (fun H3 g _ => ⟨g.up, Nat.le_refl _, fun _ z => nomatch z⟩) (fun i ds H3 _ ⟨g, _⟩ => (w4.go g fun z => odD (List.mem_singleton.mp z)).ls) ?_ ?_
        · rintro i ds y H3 H3' hi ⟨g3, hl3, h3⟩ D3 ⟨rfl, n, hn, hy⟩
          have g3' := g3.drop nD
          have hns : n ∈ T.ns := (hon n).mp (List.mem_of_getElem? hn)
          refine ⟨rfl, _, rfl, _, rfl, _, rfl, _, rfl, ow, bd, T, ord, sp, sn, cls, eb, p, x, n, y, rfl, hO2.up g3', hB.go (gH2.trans g3') (by simp), hT, hon, (gH2.trans g3').dat hx, hns, hy, fun H4 g4 => ⟨_, _, rfl, rfl, _, rfl, ?_⟩⟩
          by_cases c2 : 2 ≤ bnd T eb p n
          · refine iteTp c2 ⟨_, rfl, lcN Tb' (D3.go g4 (by simp)) (g4.dat hy) (lsz (by omega)) fun H5 g5 L5 => ⟨(g3.trans g4.up).trans g5, by rw [List.length_append, List.length_singleton]; omega, fun n' hn' => ?_⟩⟩
            rcases List.mem_append.mp hn' with z | z
            · exact h3 n' z
            · rw [List.mem_singleton.mp z]; exact ⟨hns, c2⟩
          · exact iteFp c2 ⟨ds, ⟨g3.trans g4.up, by omega, h3⟩, D3.go g4 (by simp)⟩
        · rintro ds H3 ⟨g3, hl3, h3⟩ D3
          exact q D ds H3 (gH2.nw (.none nD) (by simp)) (gH2.trans (g3.drop nD)) D3 (by omega) h3
end
end TG

/-! The law's defs: may. -/
namespace TG
open PySem PySem.Spec L2 TGr LamX
open PyProof.Rows hiding St
section
variable {P : Program} {w : World} {K : PySem.W.Frag} {mg : Str → Option Value} {base : Heap} {f fN fF : Addr} {fd fdN fdF : FuncData}
abbrev sLM : Stmt := top 35
theorem scLM : FnScope ["_law_own", "_law_bed", "_law_near", "_law_found", "_law_place", "_law_side", "_law_name"] ["_law_own", "_law_bed"] (defScope sLM) := ⟨rfl, rfl, rfl, by decide +kernel, rfl, by decide +kernel, by decide +kernel⟩
def MayP (T : Ts) (eb : Es) (d : Dm) : Prop := ∃ p n, d = .tup [pd p, n] ∧ at' eb p = none ∧ n ∈ T.ns ∧ 2 ≤ bnd T eb p n
def spLM (K : PySem.W.Frag) (w : World) (Tb' : Tb) : Sp := fun vs H Q _ => ∃ (ow bd : Addr) (T : Ts) (ord : List Dm) (sp : Pl) (sn : Dm) (cls : List Pl) (eb : Es), vs = [.ref ow, .ref bd] ∧ OwnAt K w H ow T ord sp sn cls ∧ LBed K w H bd T eb ∧ T.Ok ∧ (∀ n, n ∈ ord ↔ n ∈ T.ns) ∧ ord.length ≤ 20 ∧
  ∀ l ds H', Nw H l → Go Tb' [] H H' → LstW K H' l ds → ds.length ≤ 6000 → (∀ d ∈ ds, MayP T eb d) → Q (.ref l) H'
theorem ok_lm (Tb' : Tb) (F : TopF K mg "_law_t2_may" sLM ["_law_own", "_law_bed"] f fd) (B : Blt mg) (FN : TopF K mg "_law_t2_next" sNext ["_law_place", "_law_side"] fN fdN) (FF : TopF K mg "_law_t2_fitting" sLF ["_law_own", "_law_bed", "_law_place"] fF fdF) (GF : FnOk P w K mg base CX0 3 fF fdF ["_law_own", "_law_bed", "_law_place"] (spLF K w Tb')) :
    FnOk P w K mg base CX0 4 f fd ["_law_own", "_law_bed"] (spLM K w Tb') := by
  have GN : FnOk P w K mg base CX0 1 fN fdN ["_law_place", "_law_side"] (spNext K Tb') := ok_next Tb' FN
  refine F.fn.ok scLM (fun vs H Q E h => ?_) (fun cdv A outer s H vs Q E hr h => ?_)
  · obtain ⟨ow, bd, _, _, _, _, _, _, rfl, _⟩ := h
    rfl
  · obtain ⟨ow, bd, T, ord, sp, sn, cls, eb, rfl, hO, hB, hT, hon, ho20, q⟩ := h
    have hu := hu_of hr
    refine ⟨_, pss_cons (ps_par (i := 2) (j := 3) (by rfl) scLM.nd rfl rfl (by decide) rfl rfl (pa_cons (pe_lstD Tb' pa_nil) (pa_cons (pe_lstD Tb' pa_nil) pa_nil)) (by rfl))
      (pss_cons (ps_lock (ps_for PassesOwn.never rfl (pi_keysX (pv 1)) (pg_name (i := 4) scLM.nd rfl (.inr rfl))
        (pss_one (ps_for PassesOwn.never rfl (pi_range1 rfl B.range (pa_cons pe_int pa_nil)) (pg_name (i := 5) scLM.nd rfl (.inl rfl))
          (pss_one (ps_if (pt_cmpR (op_notInD (Room.u9 hr)) (pe_call GN (hr.mono (by decide)) (by rfl) FN.mg FN.fn.kp FN.b .nil pass0 (pa_cons (pv 4) (pa_cons (pv 5) pa_nil))) (pv 1) rfl)
            (pss_one (ps_expr (pe_bm PySem.F.plainAttrs_list PySem.F.slot_list_append PySem.F.type_list_append (mt_appD Tb') (pv 2) (pa_cons (pe_call GN (hr.mono (by decide)) (by rfl) FN.mg FN.fn.kp FN.b .nil pass0 (pa_cons (pv 4) (pa_cons (pv 5) pa_nil))) pa_nil)))) pss_nil))))))
      (pss_cons (ps_for PassesOwn.never rfl (pi_list (pe_callB (cr_sortN Tb' hr.hd (Room.units10 hr)) (by rfl) B.sorted boot_sorted (pa_cons (pe_callTy (cr_setN Tb' hr.hd (Room.units10 hr)) (by rfl) B.set (by decide +kernel) (pa_cons (pv 2) pa_nil)) pa_nil))) (pg_name (i := 4) scLM.nd rfl (.inr rfl))
        (pss_one (ps_set (i := 3) scLM.nd rfl (.inl rfl) (pe_op (op_catD Tb') (pv 3) (pe_lc (own := [("_law_name", 6)]) (g := gName 6) (te := tTupD K Tb' (tCons (tVar 4) (tCons (tVar 6) tNil))) (by rfl) scLM.nd (pi_list (pe_call GF hr (by rfl) FF.mg FF.fn.kp FF.b .nil pass0 (pa_cons (pv 0) (pa_cons (pv 1) (pa_cons (pv 4) pa_nil)))))
          (blkOk_by (own := [("_law_name", 6)]) (N := ["_law_own", "_law_bed", "_law_near", "_law_found", "_law_place", "_law_side", "_law_name"]) (sc := defScope sLM) (by decide +kernel)) (fun _ _ _ _ _ => pg_name (i := 6) scLM.nd rfl (Or.inl rfl)) (fun _ _ _ _ _ => pts_nil) (fun _ _ _ _ _ => pe_tupD Tb' (pa_cons (pv 4) (pa_cons (pv 6) pa_nil))))))))
      (pss_one (ps_ret (pv 3))))), ?_⟩
    refine ⟨[], .nil, sz0, fun nr H1 n1 g1 R1 => ⟨[], .nil, sz0, fun fl H2 n2 g2 F2 => ⟨_, _, rfl, ?_⟩⟩⟩
    have g02 : Go Tb' [] H H2 := g1.trans g2
    have R2 := R1.go g2 (by simp)
    have hB2 := hB.go g02 (by simp)
    obtain ⟨xs, e3, Dx, en⟩ := id hB2.d.ex
    have ek := en.keys
    have bnr : bd ≠ nr := (hB.d).ne n1
    obtain ⟨ps, hps⟩ := hB.bo.key
    have lps : ps.length ≤ 60 := by
      rw [← List.length_map (f := pd) (as := ps), ← hps, List.length_map]
      exact hB.sm
    refine ⟨bd, _, e3, trivial, fun od => ?_⟩
    have Dl := Dx.locked (od := od) e3
    have hkeys : ∀ e ∈ xs, Dat K (upd H2 bd (.frz od (DicO w bd xs))) e.1 e.2.1 := fun e he => (Dl.key e he).1
    have Wl : DicD K w (upd H2 bd (.frz od (DicO w bd xs))) bd eb := ⟨xs, Dl, en.up fun _ _ => (Go.lockd (T := []) (od := od) e3).dat⟩
    have Rl : LstW K (upd H2 bd (.frz od (DicO w bd xs))) nr [] := R2.go (Go.lockd (T := []) (od := od) e3) fun z => bnr (List.mem_singleton.mp z).symm
    refine ⟨_, rfl, bd, od, xs, rfl, upd_same, Dx.sys, for_it (walk_keysD (K := K) (w := w) (a := bd) (o := od) (xs := xs)) (fun i σ H3 => ∃ (ns : List Pl) (o4 o5 : Option V), σ = [some (.ref ow), some (.ref bd), some (.ref nr), some (.ref fl), o4, o5, none] ∧ Go Tb' [nr] (upd H2 bd (.frz od (DicO w bd xs))) H3 ∧ LstW K H3 nr (ns.map pd) ∧ (∀ p ∈ ns, at' eb p = none) ∧ ns.length ≤ 4 * i) ⟨[], _, _, rfl, .refl, Rl, fun _ z => (nomatch z), Nat.le_refl _⟩ (fun i σ H3 _ ⟨_, _, _, _, g, _⟩ => ⟨g.frz upd_same, fun e he => g.dat (hkeys e he)⟩) ?_ ?_⟩
    · rintro i x σ H3 H3' hi ⟨ns, o4, o5, rfl, g3, R3, hns, hnl⟩ ⟨rfl, d, hd, hx⟩
      obtain ⟨c, rfl⟩ : ∃ c, d = pd c := by
        have hm := List.mem_of_getElem? hd
        rw [ek, hps] at hm
        obtain ⟨c, _, h⟩ := List.mem_map.mp hm
        exact ⟨c, h.symm⟩
      have hxl : xs.length ≤ 60 := by rw [en.length]; exact hB.sm
      refine ⟨4, rfl, by decide, by decide, for_range (n := 4) (fun j σ H4 => ∃ (ns' : List Pl) (o5 : Option V), σ = [some (.ref ow), some (.ref bd), some (.ref nr), some (.ref fl), some x, o5, none] ∧ Go Tb' [nr] (upd H2 bd (.frz od (DicO w bd xs))) H4 ∧ Dat K H4 (pd c) x ∧ LstW K H4 nr (ns'.map pd) ∧ (∀ p ∈ ns', at' eb p = none) ∧ ns'.length ≤ ns.length + j) ⟨ns, _, rfl, g3, hx, R3, hns, Nat.le_refl _⟩ ?_ ?_⟩
      · rintro j σ H4 hj ⟨ns', o5, rfl, g4, hx4, R4, hns', hnl'⟩
        have W4 := Wl.go g4 fun z => bnr (List.mem_singleton.mp z)
        refine ⟨_, rfl, _, rfl, c, x, j, by rw [Int.zero_add]; rfl, hx4, hj, fun v H5 g5 hv => ⟨_, rfl, bd, eb, pd (nb c j), rfl, W4.go g5 (by simp), hv, pd_depth _, _, rfl, ?_⟩⟩
        have R5 := R4.go g5 (by simp)
        cases e : at' eb (nb c j) with
        | some mm =>
          rw [show look eb (pd (nb c j)) = some mm from e]
          exact iteF ⟨ns', _, rfl, g4.trans g5.up, g5.dat hx4, R5, hns', by omega⟩
        | none =>
          rw [show look eb (pd (nb c j)) = none from e]
          obtain ⟨ys, hy5, _⟩ := id R5.ex
          refine iteT ⟨_, rfl, .inl ⟨rfl, _, .inl (.inl hy5)⟩, _, rfl, _, rfl, c, x, j, by rw [Int.zero_add]; rfl, g5.dat hx4, hj, fun v2 H6 g6 hv2 => ?_⟩
          refine ⟨nr, _, pd (nb c j), v2, rfl, rfl, R5.go g6 (by simp), hv2, lsz (by rw [List.length_map]; omega), fun H7 g7 R7 => ⟨ns' ++ [nb c j], _, rfl, (g4.trans (g5.trans g6).up).trans g7, g7.dat (g6.dat (g5.dat hx4)), by rw [List.map_append]; exact R7, fun p hp => ?_, by rw [List.length_append, List.length_singleton]; omega⟩⟩
          rcases List.mem_append.mp hp with z | z
          · exact hns' p z
          · rw [List.mem_singleton.mp z]; exact e
      · rintro σ H4 ⟨ns', o5, rfl, g4, hx4, R4, hns', hnl'⟩
        exact ⟨ns', _, _, rfl, g4, R4, hns', by omega⟩
    · rintro σ H3 ⟨ns, o4, o5, rfl, g3, R3, hns, hnl⟩
      have fz := g3.frz (upd_same (H := H2) (a := bd) (o := .frz od (DicO w bd xs)))
      have gu : Go Tb' [nr] H2 (upd H3 bd (DicO w bd xs)) := g3.unlock e3 fz
      refine ⟨fz, ?_⟩
      have Ru := unlock_lst fz R3
      have gHu : Go Tb' [] H (upd H3 bd (DicO w bd xs)) := (g02.up.trans gu).drop n1
      have flnr : fl ≠ nr := fun z => by rw [z] at n2; obtain ⟨_, e, _⟩ := R1.ex; rw [e] at n2; cases n2
      have Fu : LstW K (upd H3 bd (DicO w bd xs)) fl [] := F2.go gu fun z => flnr (List.mem_singleton.mp z)
      have nfl : Nw H fl := g1.nw (.none n2) (by simp)
      have hxl : xs.length ≤ 60 := by rw [en.length]; exact hB.sm
      generalize upd H3 bd (DicO w bd xs) = Hu at gHu Ru Fu ⊢
      refine ⟨_, rfl, ns, .ref nr, rfl, Ru.ls, by omega, fun sa H4 nsa g4 S4 => ⟨sa, ns, rfl, S4, fun p5 H5 qs n5 g5 hq L5 lq => ?_⟩⟩
      have gH5 : Go Tb' [] H H5 := gHu.trans (g4.trans g5)
      refine ⟨p5, rfl, (let ⟨ys, h, _⟩ := L5.ex; ⟨ys, .inl (.inl h)⟩), for_it (walk_L (ds := qs.map pd)) (fun i σ H6 => ∃ (fl : Addr) (ds : List Dm) (o4 : Option V), σ = [some (.ref ow), some (.ref bd), some (.ref nr), some (.ref fl), o4, o5, none] ∧ Go Tb' [] H5 H6 ∧ Nw H fl ∧ LstW K H6 fl ds ∧ (∀ d ∈ ds, MayP T eb d) ∧ ds.length ≤ 20 * i) ⟨fl, [], _, rfl, .refl, nfl, Fu.go (g4.trans g5) (by simp), fun _ z => (nomatch z), Nat.zero_le _⟩ (fun i σ H6 _ ⟨_, _, _, _, g, _⟩ => (L5.go g (by simp)).ls) ?_ ?_⟩
      · rintro i x σ H6 H6' hi ⟨fl, ds, o4, rfl, g6, nfl, F6, hds, hdl⟩ ⟨rfl, d, hd, hx⟩
        obtain ⟨r, hr', rfl⟩ : ∃ r, qs[i]? = some r ∧ pd r = d := by
          rw [List.getElem?_map] at hd
          obtain ⟨r, h1, h2⟩ := Option.map_eq_some_iff.mp hd
          exact ⟨r, h1, h2⟩
        have hi3 : i < 300 := by rw [List.length_map] at hi; omega
        have hrn := hns r (hq r (List.mem_of_getElem? hr'))
        have gH6 := gH5.trans g6
        refine ⟨_, rfl, _, rfl, _, rfl, _, rfl, ow, bd, T, ord, sp, sn, cls, eb, r, x, rfl, hO.up gH6, hB.go gH6 (by simp), hT, hon, ho20, hx, fun f2 fs H7 nf g7 L7 l20 hf => ?_⟩
        refine ⟨f2, rfl, (let ⟨ys, h, _⟩ := L7.ex; ⟨ys, .inl (.inl h)⟩), fun D nD => ?_⟩
        have f2D : f2 ≠ D := L7.ne nD
        have F7 := F6.go g7 (by simp)
        have flD : fl ≠ D := F7.ne nD
        refine lc_D (K := K) Tb' (walk_L (ds := fs)) nD (fun j es2 H8 => Go Tb' [D] H7 H8 ∧ es2.length ≤ j ∧ ∀ d ∈ es2, MayP T eb d) (fun H8 g _ => ⟨g.up, Nat.le_refl _, fun _ z => nomatch z⟩) (fun j es2 H8 _ ⟨g, _⟩ => (L7.go g fun z => f2D (List.mem_singleton.mp z)).ls) ?_ ?_
        · rintro j es2 y H8 H8' hj ⟨g8, hl8, h8⟩ D8 ⟨rfl, n, hn, hy⟩
          obtain ⟨n1', n2'⟩ := hf n (List.mem_of_getElem? hn)
          refine ⟨rfl, yesT ⟨_, rfl, _, rfl, [pd r, n], .cons (g8.dat (g7.dat hx)) (.cons hy .nil), sz2, fun p9 H9 n9 g9 d9 => lcN Tb' (D8.go g9 (by simp)) d9 (lsz (by omega)) fun H10 g10 L10 => ⟨(g8.trans g9.up).trans g10, by rw [List.length_append, List.length_singleton]; omega, fun d hd => ?_⟩⟩⟩
          rcases List.mem_append.mp hd with z | z
          · exact h8 d z
          · rw [List.mem_singleton.mp z]; exact ⟨r, n, rfl, hrn, n1', n2'⟩
        · rintro es2 H8 ⟨g8, hl8, h8⟩ D8
          have g8' := g8.drop nD
          refine ⟨fl, D, ds, es2, rfl, rfl, F7.go g8' (by simp), D8, Nat.le_of_lt (szM (by omega)), fun p9 H9 n9 g9 L9 => ⟨p9, ds ++ es2, _, rfl, g6.trans (g7.trans (g8'.trans g9)), (gH6.trans (g7.trans g8')).nw (.none n9) (by simp), L9, fun d hd => ?_, by rw [List.length_append]; omega⟩⟩
          rcases List.mem_append.mp hd with z | z
          · exact hds d z
          · exact h8 d z
      · rintro σ H6 ⟨fl, ds, o4, rfl, g6, nfl, F6, hds, hdl⟩
        rw [List.length_map] at hdl
        exact ⟨_, rfl, q fl ds H6 nfl (gH5.trans g6) F6 (by omega) hds⟩
end
end TG

/-! The law's defs: near, alike, stays. -/
namespace TG
open PySem PySem.Spec L2 TGr LamX
open PyProof.Rows hiding St
section
variable {P : Program} {w : World} {K : PySem.W.Frag} {mg : Str → Option Value} {base : Heap} {f fD fK fN : Addr} {fd fdD fdK fdN : FuncData}
abbrev sNear : Stmt := top 36
theorem scNear : FnScope ["_law_pen_here", "_law_own", "_law_bed", "_law_place", "_law_lap"] ["_law_pen_here", "_law_own", "_law_bed"] (defScope sNear) := ⟨rfl, rfl, rfl, by decide +kernel, rfl, by decide +kernel, by decide +kernel⟩
def spNear (K : PySem.W.Frag) (w : World) (Tb' : Tb) : Sp := fun vs H Q _ => ∃ (pn cl ow bd : Addr) (m : Nat) (T : Ts) (ord : List Dm) (sp : Pl) (sn : Dm) (cls : List Pl) (eb : Es), vs = [.ref pn, .ref ow, .ref bd] ∧ PenB H pn cl m ∧ OwnAt K w H ow T ord sp sn cls ∧ LBed K w H bd T eb ∧ eb ≠ [] ∧ cls.length ≤ 20 ∧ m + 10 ≤ 1000000000 ∧
  ∀ r v H', Go Tb' [pn] H H' → PenB H' pn cl (m + 10) → Dat K H' (pd r) v → Q v H'
theorem ok_near (Tb' : Tb) (F : TopF K mg "_law_t2_near" sNear ["_law_pen_here", "_law_own", "_law_bed"] f fd) (B : Blt mg) (FD : TopF K mg "_law_draw" sDraw ["_law_pen_here", "_law_many"] fD fdD) (FK : TopF K mg "_law_pick" sPick ["_law_pen_here", "_law_some"] fK fdK) (FN : TopF K mg "_law_t2_next" sNext ["_law_place", "_law_side"] fN fdN) :
    FnOk P w K mg base CX0 3 f fd ["_law_pen_here", "_law_own", "_law_bed"] (spNear K w Tb') := by
  have GD : FnOk P w K mg base CX0 1 fD fdD ["_law_pen_here", "_law_many"] (spDraw Tb') := ok_draw Tb' FD B
  have GK : FnOk P w K mg base CX0 2 fK fdK ["_law_pen_here", "_law_some"] (spPick K Tb') := ok_pick Tb' FK B FD
  have GN : FnOk P w K mg base CX0 1 fN fdN ["_law_place", "_law_side"] (spNext K Tb') := ok_next Tb' FN
  refine F.fn.ok scNear (fun vs H Q E h => ?_) (fun cdv A outer s H vs Q E hr h => ?_)
  · obtain ⟨pn, _, ow, bd, _, _, _, _, _, _, _, rfl, _⟩ := h
    rfl
  · obtain ⟨pn, cl, ow, bd, m, T, ord, sp, sn, cls, eb, rfl, hP, hO, hB, hne, hcl, hm, q⟩ := h
    have hu := hu_of hr
    refine ⟨_, pss_cons (ps_set (i := 3) scNear.nd rfl (.inl rfl) (pe_call GK hr (by rfl) FK.mg FK.fn.kp FK.b .nil pass0 (pa_cons (pv 0) (pa_cons (pe_op (op_catD Tb') (pe_callB (cr_sortP Tb' (Room.units10 hr)) (by rfl) B.sorted boot_sorted (pa_cons (pe_callTy (call_listDD Tb' hr.hd) (by rfl) B.list (by decide +kernel) (pa_cons (pv 2) pa_nil)) pa_nil)) (pe_dget hu (pv 1) pe_str (fun _ _ => rfl))) pa_nil))))
      (pss_cons (ps_for PassesOwn.never rfl (pi_range1 rfl B.range (pa_cons (pe_call GK hr (by rfl) FK.mg FK.fn.kp FK.b .nil pass0 (pa_cons (pv 0) (pa_cons (pe_lstD Tb' (pa_cons pe_int (pa_cons pe_int (pa_cons pe_int (pa_cons pe_int pa_nil))))) pa_nil))) pa_nil)) (pg_name (i := 4) scNear.nd rfl (.inl rfl))
        (pss_one (ps_set (i := 3) scNear.nd rfl (.inl rfl) (pe_call GN (hr.mono (by decide)) (by rfl) FN.mg FN.fn.kp FN.b .nil pass0 (pa_cons (pv 3) (pa_cons (pe_call GD (hr.mono (by decide)) (by rfl) FD.mg FD.fn.kp FD.b .nil pass0 (pa_cons (pv 0) (pa_cons pe_int pa_nil))) pa_nil))))))
      (pss_one (ps_ret (pv 3)))), ?_⟩
    obtain ⟨ps, hps⟩ := hB.bo.key
    have lps : ps.length = eb.length := by rw [← List.length_map (f := pd) (as := ps), ← hps, List.length_map]
    have h60 := hB.sm
    refine ⟨_, rfl, _, rfl, bd, eb, rfl, hB.d.toD, fun p1 H1 x1 n1 g1 l1 a1 => ⟨ps, .ref p1, rfl, ⟨p1, x1, rfl, .inl (.inl l1), hps ▸ a1⟩, fun p2 H2 n2 g2 L2 => ?_⟩⟩
    have g02 : Go Tb' [] H H2 := g1.trans g2
    obtain ⟨gd, od, cd, vn, vs, eo, w1, w2, w3, w4, w5, w6, w7⟩ := id (hO.up g02).ex
    refine ⟨_, rfl, ow, _, rfl, DGet.of w1 ok_cells, p2, cd, _, _, rfl, rfl, L2, w7, Nat.le_of_lt (szM (by rw [List.length_map, List.length_map, List.length_mergeSort]; omega)), fun p3 H3 n3 g3 L3 => ?_⟩
    have g03 := g02.trans g3
    have P3 := hP.up g03
    refine ⟨pn, cl, m, _, .ref p3, rfl, P3, .inl L3.ls, ?_, by rw [List.length_append, List.length_map, List.length_map, List.length_mergeSort]; omega, by omega, fun d v H4 hd g4 P4 hv => ?_⟩
    · intro z
      have := congrArg List.length z
      rw [List.length_append, List.length_map, List.length_mergeSort, lps, List.length_map, List.length_nil] at this
      exact hne (List.eq_nil_of_length_eq_zero (by omega))
    obtain ⟨r, rfl⟩ : ∃ r, d = pd r := by
      rcases List.mem_append.mp hd with z | z
      · obtain ⟨r, _, e⟩ := List.mem_map.mp z
        exact ⟨r, e.symm⟩
      · obtain ⟨r, _, e⟩ := List.mem_map.mp z
        exact ⟨r, e.symm⟩
    have g04 : Go Tb' [pn] H H4 := g03.up.trans g4
    refine ⟨_, rfl, [.num 0, .num 1, .num 1, .num 2], .cons (.num _) (.cons (.num _) (.cons (.num _) (.cons (.num _) .nil))), sz4, fun p5 H5 n5 g5 L5 => ?_⟩
    refine ⟨pn, cl, m + 1, _, .ref p5, rfl, P4.up g5, .inl L5.ls, by simp, by simp, by omega, fun d6 v6 H6 hd6 g6 P6 hv6 => ?_⟩
    obtain ⟨lp, rfl, hlp⟩ : ∃ lp : Nat, d6 = .num lp ∧ lp ≤ 2 := by
      simp only [List.mem_cons, List.not_mem_nil, or_false] at hd6
      rcases hd6 with rfl | rfl | rfl | rfl
      · exact ⟨0, rfl, by decide⟩
      · exact ⟨1, rfl, by decide⟩
      · exact ⟨1, rfl, by decide⟩
      · exact ⟨2, rfl, by decide⟩
    obtain rfl := hv6.numI
    refine ⟨lp, rfl, by omega, by omega, for_range (n := lp) (fun i σ H7 => ∃ (r : Pl) (v : V) (o4 : Option V), σ = [some (.ref pn), some (.ref ow), some (.ref bd), some v, o4] ∧ Go Tb' [pn] H H7 ∧ PenB H7 pn cl (m + 2 + i) ∧ Dat K H7 (pd r) v) ⟨r, v, _, rfl, (g04.trans g5.up).trans g6, P6, g6.dat (g5.dat hv)⟩ ?_ ?_⟩
    · rintro i σ H7 hi ⟨r, v, o4, rfl, g7, P7, hv7⟩
      refine ⟨_, rfl, _, rfl, pn, cl, m + 2 + i, 4, rfl, P7, by decide, by decide, by omega, fun sd H8 hr8 g8 P8 => ⟨r, v, sd, rfl, g8.dat hv7, by omega, fun v9 H9 g9 hv9 => ⟨nb r sd, v9, _, rfl, (g7.trans g8).trans g9.up, P8.up g9, hv9⟩⟩⟩
    · rintro σ H7 ⟨r, v, o4, rfl, g7, P7, hv7⟩
      exact ⟨_, rfl, q r v H7 g7 (P7.le (by omega)) hv7⟩
end
end TG

/-! The law's defs: alike, stays. -/
namespace TG
open PySem PySem.Spec L2 TGr LamX
open PyProof.Rows hiding St
/-- x not in t, t a tuple of data -/
def rNotInTp (K : PySem.W.Frag) : R2 := fun x y H Q => ∃ d ds, Dat K H d x ∧ Dat K H (.tup ds) y ∧ d.depth ≤ 60 ∧ Q (.bl (!decide (d ∈ ds))) H
theorem op_notInTp {X : Cx} (hu : X.A.units + 65 < cLine) : OpR X (compareOp .NotIn) (rNotInTp X.K) := by
  intro pins s σ H x y v u Q I rx ry h
  obtain ⟨d, ds, h1, h2, h3, q⟩ := h
  obtain ⟨as, r1⟩ := Dp.reads I d.data x v (Dat.dp d x h1) rx
  obtain ⟨bs, r2⟩ := Dp.reads I (NestedKey.tup ds).data y u (Dat.dp _ y h2) ry
  have e2 : (NestedKey.tup ds).data = .tuple (NestedKey.datas ds) := by simp [NestedKey.data]
  rw [e2] at r2
  obtain ⟨_, xs, _, _, hxs⟩ := h2.tupI
  have sd := shaped_data h1 h3
  refine SeqAt.notIn_tuple_reads r2 r1 (DatA.lay ds xs hxs) (SeqAt.canLay_of_shaped sd) (room_in_shaped sd hu) ⟨.bl _, H, I, rfl, ?_⟩
  rw [any_dec]
  exact q
theorem depth_tup_le {ds : List Dm} {k : Nat} (h : ∀ d ∈ ds, d.depth ≤ k) : NestedKey.depth (.tup ds) ≤ k + 1 := by
  have : NestedKey.depthAll ds ≤ k := by
    induction ds with
    | nil => simp [NestedKey.depthAll]
    | cons a l ih =>
      have h1 := h a List.mem_cons_self
      have h2 := ih fun d hd => h d (List.mem_cons_of_mem _ hd)
      simp [NestedKey.depthAll]
      omega
  simp [NestedKey.depth]
  omega
theorem pair_depth {p : Pl} {n : Dm} (h : n.depth ≤ 6) : NestedKey.depth (.tup [pd p, n]) ≤ 9 := by
  rw [depth_pair]
  have := pd_depth p
  omega
theorem pr_depth {T : Ts} (hT : T.Ok) {es : Es} (hE : BedOk T es) (ks : List Pl) : NestedKey.depth (.tup (prL es ks)) ≤ 60 := by
  refine Nat.le_trans (depth_tup_le (k := 9) fun d hd => ?_) (by decide)
  obtain ⟨p, _, rfl⟩ := List.mem_map.mp hd
  refine pair_depth ?_
  cases e : at' es p with
  | none => exact Nat.le_trans (Nat.le_of_eq none_depth) (by decide)
  | some n => exact (hT.nam n (hE.nam _ _ e)).2
theorem mc_dep {T : Ts} (hT : T.Ok) {es : Es} (ks : List Pl) : ∀ d ∈ mcL T es ks, d.depth ≤ 9 := fun d hd => by
  unfold mcL at hd
  obtain ⟨p, _, hd⟩ := List.mem_flatMap.mp hd
  obtain ⟨n, hn, rfl⟩ := List.mem_map.mp hd
  exact pair_depth (hT.nam n (mem_fit.mp hn).1).2
theorem mc_depth {T : Ts} (hT : T.Ok) {es : Es} (ks : List Pl) : NestedKey.depth (.tup (mcL T es ks)) ≤ 60 := Nat.le_trans (depth_tup_le (mc_dep hT ks)) (by decide)
section
variable {P : Program} {w : World} {K : PySem.W.Frag} {mg : Str → Option Value} {base : Heap} {f fP fM fH : Addr} {fd fdP fdM fdH : FuncData} {CB : Addr}
/-! ### alike -/
abbrev sAlike : Stmt := top 38
theorem scAlike : FnScope ["_law_one", "_law_two"] ["_law_one", "_law_two"] (defScope sAlike) := ⟨rfl, rfl, rfl, by decide +kernel, rfl, by decide +kernel, by decide +kernel⟩
def spAlike (K : PySem.W.Frag) (w : World) (Tb' : Tb) (CB : Addr) : Sp := fun vs H Q _ => ∃ (H0 : Hp) (ts : Addr) (T : Ts) (b1 dl1 dc1 b2 dl2 dc2 : Addr) (sp sp2 : Pl) (sn sn2 : Dm) (es1 cs1 es2 cs2 : Es), vs = [.ref b1, .ref b2] ∧ BedAt K w CB H0 H b1 ts T sp sn dl1 dc1 es1 cs1 ∧ ComOk T es1 cs1 ∧ BedAt K w CB H0 H b2 ts T sp2 sn2 dl2 dc2 es2 cs2 ∧ ComOk T es2 cs2 ∧ T.Ok ∧ Eqv es1 es2 ∧
  ∀ H', Go Tb' [] H H' → Q (.bl true) H'
theorem ok_alike (Tb' : Tb) (F : TopF K mg "_law_t2_alike" sAlike ["_law_one", "_law_two"] f fd) (X : TxtB K mg CB)
    (MP : MetF K CB "pairs" "Bed.pairs" sPairs ["self"] fP fdP) (GP : FnOk P w K mg base CX0 1 fP fdP ["self"] (spPairs K w Tb' CB))
    (MM : MetF K CB "may_come" "Bed.may_come" sMay ["self"] fM fdM) (GM : FnOk P w K mg base CX0 1 fM fdM ["self"] (spMay K w Tb' CB))
    (MH : MetF K CB "how_many" "Bed.how_many" sMany ["self"] fH fdH) (GH : FnOk P w K mg base CX0 1 fH fdH ["self"] (spMany K w CB)) :
    FnOk P w K mg base CX0 2 f fd ["_law_one", "_law_two"] (spAlike K w Tb' CB) := by
  refine F.fn.ok scAlike (fun vs H Q E h => ?_) (fun cdv A outer s H vs Q E hr h => ?_)
  · obtain ⟨_, _, _, b1, _, _, b2, _, _, _, _, _, _, _, _, _, _, rfl, _⟩ := h
    rfl
  · obtain ⟨H0, ts, T, b1, dl1, dc1, b2, dl2, dc2, sp, sp2, sn, sn2, es1, cs1, es2, cs2, rfl, B1, C1, B2, C2, hT, eqv, q⟩ := h
    refine ⟨_, pss_one (ps_ret (pe_and (pe_cmpR (op_eqT hr.units) (pe_meth0 (pv 0) X.cl MP.me GP hr MP.b .nil pass0) (pe_meth0 (pv 1) X.cl MP.me GP hr MP.b .nil pass0) (nomark _))
      (pe_and (pe_cmpR (op_eqT hr.units) (pe_meth0 (pv 0) X.cl MM.me GM hr MM.b .nil pass0) (pe_meth0 (pv 1) X.cl MM.me GM hr MM.b .nil pass0) (nomark _))
      (pe_one (pe_cmpR op_eq (pe_meth0 (pv 0) X.cl MH.me GH hr MH.b .nil pass0) (pe_meth0 (pv 1) X.cl MH.me GH hr MH.b .nil pass0) (nomark _)))))), ?_⟩
    obtain ⟨dx1, _, _, h1, _⟩ := id B1.ins
    refine ⟨_, rfl, b1, dx1, _, rfl, h1, bd_m (by decide +kernel), H0, b1, ts, T, sp, sn, dl1, dc1, es1, cs1, rfl, B1, fun a1 ps1 H1 e1 g1 d1 => ?_⟩
    have B2a := B2.up g1
    obtain ⟨dx2, _, _, h2, _⟩ := id B2a.ins
    refine ⟨_, rfl, b2, dx2, _, rfl, h2, bd_m (by decide +kernel), H0, b2, ts, T, sp2, sn2, dl2, dc2, es2, cs2, rfl, B2a, fun a2 ps2 H2 e2 g2 d2 => ?_⟩
    obtain ⟨q1, q2⟩ := pr_eqv e1 e2 B1.bo.nd B2.bo.nd eqv
    refine ⟨_, _, g2.dat d1, d2, pr_depth hT B1.bo _, pr_depth hT B2.bo _, true, congrArg V.bl (decide_eq_true (by rw [q1])), iteT ?_⟩
    have g02 := g1.trans g2
    have B1b := B1.up g02
    obtain ⟨dx3, _, _, h3, _⟩ := id B1b.ins
    refine ⟨_, rfl, b1, dx3, _, rfl, h3, bd_m (by decide +kernel), H0, b1, ts, T, sp, sn, dl1, dc1, es1, cs1, rfl, B1b, C1, hT, fun a3 ks1 H3 m1 g3 d3 => ?_⟩
    have B2b := B2.up (g02.trans g3)
    obtain ⟨dx4, _, _, h4, _⟩ := id B2b.ins
    refine ⟨_, rfl, b2, dx4, _, rfl, h4, bd_m (by decide +kernel), H0, b2, ts, T, sp2, sn2, dl2, dc2, es2, cs2, rfl, B2b, C2, hT, fun a4 ks2 H4 m2 g4 d4 => ?_⟩
    have em := m1.eqv m2 eqv
    refine ⟨_, _, g4.dat d3, d4, mc_depth hT _, mc_depth hT _, true, congrArg V.bl (decide_eq_true (by rw [em])), iteT ?_⟩
    have g04 := (g02.trans g3).trans g4
    have B1c := B1.up g04
    have B2c := B2.up g04
    obtain ⟨dx5, _, _, h5, _⟩ := id B1c.ins
    obtain ⟨dx6, _, _, h6, _⟩ := id B2c.ins
    refine ⟨_, rfl, b1, dx5, _, rfl, h5, bd_m (by decide +kernel), H0, b1, ts, T, sp, sn, dl1, dc1, es1, cs1, rfl, B1c, ?_⟩
    refine ⟨_, rfl, b2, dx6, _, rfl, h6, bd_m (by decide +kernel), H0, b2, ts, T, sp2, sn2, dl2, dc2, es2, cs2, rfl, B2c, rfl, ?_⟩
    rw [decide_eq_true (show V.int (es1.length : Int) = V.int (es2.length : Int) by rw [q2])]
    exact q H4 g04
end
end TG

/-! The law's defs: stays, laid. -/
namespace TG
open PySem PySem.Spec L2 TGr LamX
open PyProof.Rows hiding St
section
variable {P : Program} {w : World} {K : PySem.W.Frag} {mg : Str → Option Value} {base : Heap} {f fS fI : Addr} {fd fdS fdI : FuncData} {CT CS CB : Addr}
abbrev sStays : Stmt := top 39
theorem scStays : FnScope ["_law_before", "_law_behind", "_law_place", "_law_pair"] ["_law_before", "_law_behind", "_law_place"] (defScope sStays) := ⟨rfl, rfl, rfl, by decide +kernel, rfl, by decide +kernel, by decide +kernel⟩
def spStays (K : PySem.W.Frag) (Tb' : Tb) : Sp := fun vs H Q _ => ∃ (a b : Addr) (ds es : List Dm) (p : Pl) (x : V), vs = [.ref a, .ref b, x] ∧ Dat K H (.tup ds) (.ref a) ∧ Dat K H (.tup es) (.ref b) ∧ Dat K H (pd p) x ∧ (∀ d ∈ ds, ∃ q n, d = .tup [pd q, n] ∧ n.depth ≤ 6 ∧ (q ≠ p → d ∈ es)) ∧ ∀ H', Go Tb' [] H H' → Q (.bl true) H'
theorem ok_stays (Tb' : Tb) (F : TopF K mg "_law_t2_stays" sStays ["_law_before", "_law_behind", "_law_place"] f fd) : FnOk P w K mg base CX0 1 f fd ["_law_before", "_law_behind", "_law_place"] (spStays K Tb') := by
  refine F.fn.ok scStays (fun vs H Q E h => ?_) (fun cdv A outer s H vs Q E hr h => ?_)
  · obtain ⟨a, b, _, _, _, _, rfl, _⟩ := h
    rfl
  · obtain ⟨a, b, ds, es, p, x, rfl, hd, he, hx, hall, q⟩ := h
    refine ⟨_, pss_one (ps_ret (pe_cmpR (op_eqLs hr.units) (pe_lc (own := [("_law_pair", 3)]) (g := gName 3) (tt := tAnd (tTest (tOp (rNeT K) (tOp (rIxL' K) (tVar 3) (tC (.int 0))) (tVar 2))) (tTest (tOp (rNotInTp K) (tVar 3) (tVar 1)))) (te := tVar 3) (by rfl) scStays.nd (pi_tup (pv 0))
      (blkOk_by (own := [("_law_pair", 3)]) (N := ["_law_before", "_law_behind", "_law_place", "_law_pair"]) (sc := defScope sStays) (by decide +kernel)) (fun _ _ _ _ _ => pg_name (i := 3) scStays.nd rfl (Or.inl rfl))
      (fun _ _ _ _ _ => pts_one (PW.pt (pw_and (pt_cmpR (op_neT hr.units) (pe_ix ix_DL (pv 3) pe_int (fun _ _ => rfl)) (pv 2) (nomark _)) (pw_and1 (pt_cmpR (op_notInTp (Room.u65 hr)) (pv 3) (pv 1) rfl))))) (fun _ _ _ _ _ => pv 3)) (pe_lstD Tb' pa_nil) (nomark _))), ?_⟩
    obtain ⟨_, xs, e0, sa, _⟩ := hd.tupI
    cases e0
    refine ⟨_, rfl, a, rfl, ⟨xs, sa⟩, fun D nD => ?_⟩
    refine lc_D (K := K) Tb' (walk_Tp (ds := ds)) nD (fun i cs H1 => Go Tb' [D] H H1 ∧ cs = []) (fun H1 g _ => ⟨g.up, rfl⟩) (fun i cs H1 _ ⟨g, _⟩ => g.dat hd) ?_ ?_
    · rintro i cs y H1 H1' hi ⟨g1, rfl⟩ D1 ⟨rfl, d, hd', hy⟩
      obtain ⟨r, n, rfl, hn6, hin⟩ := hall d (List.mem_of_getElem? hd')
      refine ⟨rfl, _, rfl, [pd r, n], 0, pd r, .inr hy, rfl, rfl, fun v hv => ⟨_, rfl, pd r, pd p, hv, g1.dat hx, pd_depth60 _, pd_depth60 _, _, rfl, ?_⟩⟩
      by_cases c : r = p
      · rw [decide_eq_true (show pd r = pd p by rw [c])]
        exact iteF ⟨[], ⟨g1, rfl⟩, D1⟩
      · rw [decide_eq_false fun z => c (pd_inj z)]
        refine iteT ⟨_, rfl, _, rfl, _, es, hy, g1.dat he, Nat.le_trans (pair_depth hn6) (by decide), _, rfl, ?_⟩
        rw [decide_eq_true (hin c)]
        exact iteF ⟨[], ⟨g1, rfl⟩, D1⟩
    · rintro cs H1 ⟨g1, rfl⟩ D1
      refine ⟨[], .nil, sz0, fun p2 H2 n2 g2 L2 => ⟨[], [], (D1.go g2 (by simp)).ls, L2.ls, fun _ z => (nomatch z), fun _ z => (nomatch z), ?_⟩⟩
      exact q H2 ((g1.drop nD).trans g2)
end
end TG

/-! The law's defs: laid. -/
namespace TG
open PySem PySem.Spec L2 TGr LamX
open PyProof.Rows hiding St
section
variable {P : Program} {w : World} {K : PySem.W.Frag} {mg : Str → Option Value} {base : Heap} {f fS fI : Addr} {fd fdS fdI : FuncData} {CT CS CB : Addr}
abbrev sLaid : Stmt := top 40
theorem scLaid : FnScope ["_law_made", "_law_own", "_law_pairs", "_law_other", "_law_place", "_law_name"] ["_law_made", "_law_own", "_law_pairs"] (defScope sLaid) := ⟨rfl, rfl, rfl, by decide +kernel, rfl, by decide +kernel, by decide +kernel⟩
def spLaid (K : PySem.W.Frag) (w : World) (Tb' : Tb) (CT CS CB : Addr) : Sp := fun vs H Q _ => ∃ (H0 : Hp) (ts ow l : Addr) (T : Ts) (ord : List Dm) (sp : Pl) (sn : Dm) (cls : List Pl) (es : Es) (fs : List (Pl × Dm)), vs = [.ref ts, .ref ow, .ref l] ∧ Wo K w Tb' CT CS ts T H0 H ∧ OwnAt K w H0 ow T ord sp sn cls ∧ sn ∈ T.ns ∧ LstW K H l (fs.map fun x => .tup [pd x.1, x.2]) ∧ fs.length ≤ 100 ∧ (fs.map (·.1)).Nodup ∧
  (∀ x ∈ fs, at' es x.1 = some x.2 ∧ x.2 ∈ T.ns) ∧ (∀ p n, at' es p = some n → (p, n) ∈ fs) ∧ at' es sp = some sn ∧
  ∀ b2 dl2 dc2 es2 cs2 H', Nw H b2 → Nw H dl2 → Nw H dc2 → Go Tb' [] H H' → BedAt K w CB H0 H' b2 ts T sp sn dl2 dc2 es2 cs2 → ComOk T es2 cs2 → Eqv es2 es → Q (.ref b2) H'
theorem ok_laid (Tb' : Tb) (F : TopF K mg "_law_t2_laid" sLaid ["_law_made", "_law_own", "_law_pairs"] f fd) (X : TxtB K mg CB)
    (MI : Mk K CB fI) (BI : Binds K fdI ["self", "tile_set", "seed_place", "seed_name"] []) (GI : FnOk P w K mg base CX0 8 fI fdI ["self", "tile_set", "seed_place", "seed_name"] (spBI K w Tb' CT CS CB))
    (MS : MetF K CB "slip" "Bed.slip" sSlip ["self", "place", "name"] fS fdS) (GS : FnOk P w K mg base CX0 8 fS fdS ["self", "place", "name"] (spPut K w Tb' CT CS CB false)) :
    FnOk P w K mg base CX0 10 f fd ["_law_made", "_law_own", "_law_pairs"] (spLaid K w Tb' CT CS CB) := by
  refine F.fn.ok scLaid (fun vs H Q E h => ?_) (fun cdv A outer s H vs Q E hr h => ?_)
  · obtain ⟨_, ts, ow, l, _, _, _, _, _, _, _, rfl, _⟩ := h
    rfl
  · obtain ⟨H0, ts, ow, l, T, ord, sp, sn, cls, es, fs, rfl, hW, hO, hsn, hL, hl, hnd, hfs, hall, hsp, q⟩ := h
    have hu := hu_of hr
    refine ⟨_, pss_cons (ps_set (i := 3) scLaid.nd rfl (.inl rfl) (pe_make MI GI hr (by rfl) X.mg BI .nil pass0 (pa_cons (pv 0) (pa_cons (pe_dget hu (pv 1) pe_str (fun _ _ => rfl)) (pa_cons (pe_dget hu (pv 1) pe_str (fun _ _ => rfl)) pa_nil)))))
      (pss_cons (ps_for PassesOwn.never rfl (pi_list (pv 2)) (pg_tup (by rfl) (pgs_cons (pg_name (i := 4) scLaid.nd rfl (.inl rfl)) (pgs_cons (pg_name (i := 5) scLaid.nd rfl (.inl rfl)) pgs_nil)))
        (pss_one (ps_if (pt_cmpR (op_neT hr.units) (pv 4) (pe_dget hu (pv 1) pe_str (fun _ _ => rfl)) (nomark _))
          (pss_one (ps_expr (pe_meth (pv 3) X.cl MS.me GS (hr.mono (by decide)) MS.b .nil pass0 (pa_cons (pv 4) (pa_cons (pv 5) pa_nil))))) pss_nil)))
      (pss_one (ps_ret (pv 3)))), ?_⟩
    obtain ⟨gd, od, cd, vn, vs, eo, w1, w2, w3, w4, w5, w6, w7⟩ := id (hO.up hW.go).ex
    refine ⟨_, rfl, _, rfl, ow, _, rfl, DGet.of w1 ok_seed, _, rfl, ow, _, rfl, DGet.of w1 ok_name, fun b dx nb ndx ne => ?_⟩
    have gm : Go Tb' [] H (upd (upd H dx (.own b)) b (.ins CB dx [])) := (Go.new ndx).trans (.new (by rw [upd_ne ne.symm]; exact nb))
    refine ⟨H0, b, dx, ts, T, sp, sn, vs, vn, rfl, upd_same, hW.go.nw (.none nb) (by simp), hW.up gm, gm.dat w6, hsn, gm.dat w5, fun dl dc cs H1 ndl ndc g1 hB hC => ⟨rfl, ?_⟩⟩
    have gH1 : Go Tb' [] H H1 := (gm.up.trans g1).drop nb
    have nwl : Nw H dl := gm.nw ndl (by simp)
    have nwc : Nw H dc := gm.nw ndc (by simp)
    have hL1 := hL.go gH1 (by simp)
    have lno : l ∉ [dl, dc] := fun z => by
      obtain ⟨ys, e, _⟩ := hL.ex
      rcases List.mem_cons.mp z with z | z
      · exact nwl.ne e (fun _ y => nomatch y) z
      · exact nwc.ne e (fun _ y => nomatch y) (List.mem_singleton.mp z)
    refine ⟨_, rfl, l, rfl, (let ⟨ys, h, _⟩ := hL1.ex; ⟨ys, .inl (.inl h)⟩), for_it (walk_L (ds := fs.map fun x : Pl × Dm => NestedKey.tup [pd x.1, x.2])) (fun i σ H2 => ∃ (e2 cs2 : Es) (o4 o5 : Option V), σ = [some (.ref ts), some (.ref ow), some (.ref l), some (.ref b), o4, o5] ∧ Go Tb' [dl, dc] H1 H2 ∧ BedAt K w CB H0 H2 b ts T sp sn dl dc e2 cs2 ∧ ComOk T e2 cs2 ∧ e2.length ≤ i + 1 ∧
      ∀ p, at' e2 p = if p = sp then some sn else if p ∈ (fs.take i).map (·.1) then at' es p else none) ⟨_, cs, _, _, rfl, .refl, hB, hC, Nat.le_refl _, fun p => ?_⟩ (fun i σ H2 _ ⟨_, _, _, _, _, g, _⟩ => (hL1.go g lno).ls) ?_ ?_⟩
    · have : ([(pd sp, sn)] : Es) = putD [] (pd sp) sn := rfl
      rw [this, at_put]
      by_cases c : p = sp
      · rw [if_pos c, if_pos c]
      · rw [if_neg c, if_neg c]
        simp [at', look]
    · rintro i z σ H2 H2' hi ⟨e2, cs2, o4, o5, rfl, g2, hB2, hC2, hl2, hat⟩ ⟨rfl, d, hd, hz⟩
      obtain ⟨⟨r, n⟩, hr', rfl⟩ : ∃ x, fs[i]? = some x ∧ NestedKey.tup [pd x.1, x.2] = d := by
        rw [List.getElem?_map] at hd
        obtain ⟨r, h1, h2⟩ := Option.map_eq_some_iff.mp hd
        exact ⟨r, h1, h2⟩
      obtain ⟨hes, hns⟩ := hfs _ (List.mem_of_getElem? hr')
      obtain ⟨pa, y1, y2, rfl, hs, hy1, hy2⟩ := hz.two
      have hW2 : Wo K w Tb' CT CS ts T H0 H2' := (hW.up gH1).step g2 fun a ha => by
        rcases List.mem_cons.mp ha with e | e
        · rw [e]; exact hB2.nl
        · rw [List.mem_singleton.mp e]; exact hB2.nc
      obtain ⟨gd, od, cd, vn, vs, eo, w1, w2, w3, w4, w5, w6, w7⟩ := id (hO.up hW2.go).ex
      have hi' : i < fs.length := by simpa using hi
      have tk : ∀ p, (p ∈ (fs.take (i + 1)).map (·.1)) ↔ (p ∈ (fs.take i).map (·.1) ∨ p = r) := fun p => by
        rw [List.take_succ, hr', Option.toList, List.map_append, List.mem_append]
        simp
      refine ⟨pa, _, rfl, hs, rfl, _, _, rfl, _, _, rfl, rfl, ?_⟩
      refine ⟨_, rfl, _, rfl, ow, _, rfl, DGet.of w1 ok_seed, pd r, pd sp, hy1, w6, pd_depth60 _, pd_depth60 _, _, rfl, ?_⟩
      by_cases c : r = sp
      · rw [decide_eq_true (show pd r = pd sp by rw [c])]
        refine iteF ⟨e2, cs2, _, _, rfl, g2, hB2, hC2, by omega, fun p => ?_⟩
        rw [hat]
        by_cases cp : p = sp
        · rw [if_pos cp, if_pos cp]
        · rw [if_neg cp, if_neg cp]
          have : p ≠ r := fun z => cp (z.trans c)
          by_cases c3 : p ∈ (fs.take i).map (·.1)
          · rw [if_pos c3, if_pos ((tk p).mpr (.inl c3))]
          · rw [if_neg c3, if_neg fun z => ((tk p).mp z).elim c3 this]
      · rw [decide_eq_false fun z => c (pd_inj z)]
        have nk : r ∉ (fs.take i).map (·.1) := fun z => by
          rw [List.map_take] at z
          obtain ⟨j, hj, e⟩ := List.getElem_of_mem z
          rw [List.getElem_take] at e
          rw [List.length_take] at hj
          have hii : (fs.map (·.1))[i]? = some r := by rw [List.getElem?_map, hr']; rfl
          obtain ⟨hii, e'⟩ := List.getElem?_eq_some_iff.mp hii
          have := (List.getElem_inj hnd (i := j) (j := i) (h₀ := by omega) (h₁ := hii)).mp (e.trans e'.symm)
          omega
        have emp : at' e2 r = none := by rw [hat, if_neg c, if_neg nk]
        obtain ⟨dx2, _, _, hb2, _⟩ := id hB2.ins
        refine iteT ⟨_, rfl, b, dx2, _, rfl, hb2, bd_m (by decide +kernel), _, rfl, _, rfl, H0, b, ts, T, sp, sn, dl, dc, e2, cs2, r, y1, n, y2, rfl, hB2, hC2, hW2, hy1, hns, hy2, emp, fun z => (nomatch z), by omega, fun H3 cs3 g3 hB3 hC3 => ⟨_, cs3, _, _, rfl, g2.trans g3, hB3, hC3, Nat.le_trans (putD_len _ _ _) (by omega), fun p => ?_⟩⟩
        rw [at_put, hat]
        by_cases cp : p = r
        · subst cp
          rw [if_pos rfl, if_neg c, if_pos ((tk p).mpr (.inr rfl)), hes]
        · rw [if_neg cp]
          by_cases c2 : p = sp
          · rw [if_pos c2, if_pos c2]
          · rw [if_neg c2, if_neg c2]
            by_cases c3 : p ∈ (fs.take i).map (·.1)
            · rw [if_pos c3, if_pos ((tk p).mpr (.inl c3))]
            · rw [if_neg c3, if_neg fun z => ((tk p).mp z).elim c3 cp]
    · rintro σ H2 ⟨e2, cs2, o4, o5, rfl, g2, hB2, hC2, hl2, hat⟩
      rw [List.length_map, List.take_length] at hat
      have gH2 : Go Tb' [] H H2 := ((gH1.up.trans g2).dropN nwl).dropN nwc
      refine ⟨_, rfl, q b dl dc e2 cs2 H2 (.none nb) nwl nwc gH2 hB2 hC2 fun p => ?_⟩
      rw [hat]
      by_cases c : p = sp
      · rw [if_pos c, c, hsp]
      · rw [if_neg c]
        by_cases c3 : p ∈ fs.map (·.1)
        · rw [if_pos c3]
        · rw [if_neg c3]
          cases e : at' es p with
          | none => rfl
          | some n => exact absurd (List.mem_map.mpr ⟨_, hall p n e, rfl⟩) c3
end
end TG

/-! The law's state: the pen apart from the world; {k: v}. -/
namespace TG
open PySem PySem.Spec L2 TGr LamX
open PyProof.Rows hiding St
/-- the heap without the pen -/
def dropP (H : Hp) (a : Addr) : Hp := fun b => if b = a then none else H b
theorem dropP_ne {H : Hp} {a b : Addr} (h : b ≠ a) : dropP H a b = H b := if_neg h
theorem dropP_at {H : Hp} {a : Addr} : dropP H a a = none := if_pos rfl
section
variable {K : PySem.W.Frag} {w : World} {T : Tb} {H H' : Hp} {pn cl a : Addr} {m : Nat}
theorem dropP_go (P : PenB H pn cl m) : Go T [pn] H (dropP H pn) := by
  obtain ⟨kvs, e⟩ := P.pd
  have ne : ∀ {b : Addr} {o : HO}, H b = some o → (∀ q, o ≠ .dK q) → b ≠ pn := fun {b o} h n z => by
    rw [z, e] at h
    exact n kvs (Option.some.inj h).symm
  refine ⟨fun b o h c _ => ?_, fun t p hp => ?_⟩
  · rw [dropP_ne]
    · exact h
    · rintro rfl
      rw [e] at h
      cases h
      rcases c with c | c
      · exact c (by simp)
      · rcases c with ⟨_, z⟩ | ⟨_, _, z⟩ <;> cases z
  · obtain ⟨ps, h1, h2, h3⟩ := t p hp
    refine ⟨ps, by rw [dropP_ne (ne h1 fun _ z => nomatch z)]; exact h1, h2, fun pos cv hv => ?_⟩
    obtain ⟨c, e1, e2⟩ := h3 pos cv hv
    refine ⟨c, e1, ?_⟩
    rw [dropP_ne (ne e2 fun _ z => by unfold CodeO at z; cases z)]
    exact e2
theorem dropP_back : Go T [] (dropP H a) H := by
  have k : ∀ b o, dropP H a b = some o → H b = some o := fun b o h => by
    by_cases c : b = a
    · rw [c, dropP_at] at h; cases h
    · rw [dropP_ne c] at h; exact h
  exact ⟨fun b o h _ _ => k b o h, fun t => t.ext k⟩
theorem Dic.pneP {xs : List Ent} (D : Dic K w H a xs) (P : PenB H pn cl m) : a ∉ [pn] := fun z => by
  obtain ⟨kvs, e⟩ := P.pd
  have z := List.mem_singleton.mp z
  rcases D.rd with q | ⟨_, q⟩
  · rw [z, e] at q
    unfold DicO at q
    cases q
  · rw [z, e] at q
    cases q
theorem DicD.goP {es : Es} (D : DicD K w H a es) (g : Go T [pn] H H') (P : PenB H pn cl m) : DicD K w H' a es := by
  obtain ⟨xs, h, e⟩ := D.ex
  exact D.go g (h.pneP P)
theorem sqL_goP {xs : List V} (h : SqL K H a xs) (g : Go T [pn] H H') (P : PenB H pn cl m) : SqL K H' a xs := by
  obtain ⟨kvs, e⟩ := P.pd
  rcases h with h | h
  · refine .inl (g.rd h (fun z => ?_) fun _ z => nomatch z)
    have z := List.mem_singleton.mp z
    rcases h with q | ⟨_, q⟩ <;> (rw [z, e] at q; cases q)
  · exact .inr h
theorem GlD.goP {ns : List Dm} {f : Dm → Dm} (h : GlD K w H a ns f) (g : Go T [pn] H H') (P : PenB H pn cl m) : GlD K w H' a ns f := by
  obtain ⟨xs, D, h⟩ := h.ex
  refine ⟨xs, D.go g (D.pneP P), fun k => ?_⟩
  have := h k
  cases e : valX xs k with
  | none => rw [e] at this; exact this
  | some v =>
    rw [e] at this
    obtain ⟨l, e1, e2⟩ := this
    exact ⟨l, e1, e2.goP g P⟩
theorem insP (P : PenB H pn cl m) {C dx : Addr} {fs : List (Str × V)} (h : H a = some (.ins C dx fs)) : a ∉ [pn] := fun z => by
  obtain ⟨kvs, e⟩ := P.pd
  rw [List.mem_singleton.mp z, e] at h
  cases h
theorem TileG.pneP {CT t : Addr} {n : Dm} {gl : Nat → Dm} (h : TileG K CT H t n gl) (P : PenB H pn cl m) : t ∉ [pn] := by
  obtain ⟨_, _, _, _, _, _, e, _⟩ := h.ex
  exact insP P e
theorem TsAt.goP {CT CS ts : Addr} {T0 : Ts} (h : TsAt K w CT CS H ts T0) (g : Go T [pn] H H') (P : PenB H pn cl m) : TsAt K w CT CS H' ts T0 := by
  obtain ⟨dx, db, dr, lg, a0, a1, a2, a3, vt, vo, xs, es, h1, h2, h3, h4, h5, h6, h7, h8, h9, h10⟩ := h.ex
  refine ⟨h.ok, dx, db, dr, lg, a0, a1, a2, a3, vt, vo, xs, es, g.ins h1 (insP P h1), h2.go g (h2.pneP P), fun n hn => ?_, h4.goP g P, h5, sqL_goP h6 g P, h7.goP g P, h8.goP g P, h9.goP g P, h10.goP g P⟩
  obtain ⟨t, e1, e2⟩ := h3 n hn
  exact ⟨t, e1, e2.go g (e2.pneP P)⟩
end
theorem dic_ins {K : PySem.W.Frag} {w : World} {H : Hp} {a b C dx : Addr} {es : Es} {fs : List (Str × V)} (D : DicW K w H a es) (h : H b = some (.ins C dx fs)) : b ≠ a := fun z => by
  obtain ⟨_, e, _⟩ := D.ex
  rw [z, e] at h
  unfold DicO at h
  cases h
section
variable {K : PySem.W.Frag} {w : World} {H0 H H' : Hp} {Tb' : Tb} {CT CS CB ts b dl dc bd pn cl : Addr} {T : Ts} {sp : Pl} {sn : Dm} {es cs eb : Es} {m : Nat}
theorem BedAt.goP (B : BedAt K w CB H0 H b ts T sp sn dl dc es cs) (g : Go Tb' [pn] H H') (P : PenB H pn cl m) : BedAt K w CB H0 H' b ts T sp sn dl dc es cs := by
  obtain ⟨dx, vp, vn, h, _⟩ := id B.ins
  exact B.go g (insP P h) (DicW.pne B.L P) (DicW.pne B.C P)
theorem BedAt.goB (B : BedAt K w CB H0 H b ts T sp sn dl dc es cs) (g : Go Tb' [bd] H H') (D : DicW K w H bd eb) (n1 : bd ≠ dl) (n2 : bd ≠ dc) : BedAt K w CB H0 H' b ts T sp sn dl dc es cs := by
  obtain ⟨dx, vp, vn, h, _⟩ := id B.ins
  exact B.go g (fun z => dic_ins D h (List.mem_singleton.mp z)) (fun z => n1 (List.mem_singleton.mp z).symm) fun z => n2 (List.mem_singleton.mp z).symm
theorem PenB.goD (P : PenB H pn cl m) {a1 a2 : Addr} {e1 e2 : Es} (g : Go Tb' [a1, a2] H H') (D1 : DicW K w H a1 e1) (D2 : DicW K w H a2 e2) : PenB H' pn cl m := by
  obtain ⟨_, _, _, _, _, q⟩ := id P.ex
  have no : ∀ {a : Addr} {e : Es}, DicW K w H a e → cl ≠ a := fun {a e} D z => by
    obtain ⟨_, h, _⟩ := D.ex
    have := q.c
    rw [z, h] at this
    unfold DicO at this
    cases this
  refine P.go g (fun z => ?_) fun z => ?_
  · rcases List.mem_cons.mp z with z | z
    · exact DicW.pne D1 P (by rw [z]; simp)
    · exact DicW.pne D2 P (by rw [List.mem_singleton.mp z]; simp)
  · rcases List.mem_cons.mp z with z | z
    · exact no D1 z
    · exact no D2 (List.mem_singleton.mp z)
theorem PenB.goD1 (P : PenB H pn cl m) {a1 : Addr} {e1 : Es} (g : Go Tb' [a1] H H') (D1 : DicW K w H a1 e1) : PenB H' pn cl m := P.goD (a2 := a1) (g.mono (by simp)) D1 D1
theorem Eqv.len {es es' : Es} {T : Ts} (h : BedOk T es) (h' : BedOk T es') (q : Eqv es es') : es.length = es'.length := by
  obtain ⟨ps, e⟩ := h.key
  obtain ⟨ps', e'⟩ := h'.key
  exact (pr_eqv e e' h.nd h'.nd q).2
theorem Eqv.symm {es es' : Es} (q : Eqv es es') : Eqv es' es := fun p => (q p).symm
theorem Eqv.trans {es es' es'' : Es} (q : Eqv es es') (r : Eqv es' es'') : Eqv es es'' := fun p => (q p).trans (r p)
/-- the law's state: the pen, the world, the law's own, its bed, the bed that is told -/
structure LSt (K : PySem.W.Frag) (w : World) (Tb' : Tb) (CT CS CB : Addr) (H0 : Hp) (pn cl ow ts b dl dc : Addr) (T : Ts) (ord : List Dm) (sp : Pl) (sn : Dm) (cls : List Pl) (bd : Addr) (H : Hp) (m : Nat) (eb es cs : Es) : Prop where
  P : PenB H pn cl m
  W : Wo K w Tb' CT CS ts T H0 H
  O : OwnAt K w H0 ow T ord sp sn cls
  B : BedAt K w CB H0 H b ts T sp sn dl dc es cs
  C : ComOk T es cs
  L : LBed K w H bd T eb
  np : Nw H0 pn
  nb : Nw H0 bd
  n1 : bd ≠ dl
  n2 : bd ≠ dc
  on : ∀ n, n ∈ ord ↔ n ∈ T.ns
  ol : ord.length ≤ 20
  cl2 : cls.length ≤ 20
  eq : Eqv eb es
  sd : at' es sp = some sn
variable {ow : Addr} {ord : List Dm} {cls : List Pl} {m' : Nat} {eb' es' cs' : Es}
theorem LSt.le (S : LSt K w Tb' CT CS CB H0 pn cl ow ts b dl dc T ord sp sn cls bd H m eb es cs) (h : m ≤ m') : LSt K w Tb' CT CS CB H0 pn cl ow ts b dl dc T ord sp sn cls bd H m' eb es cs := { S with P := S.P.le h }
theorem LSt.up (S : LSt K w Tb' CT CS CB H0 pn cl ow ts b dl dc T ord sp sn cls bd H m eb es cs) (g : Go Tb' [] H H') : LSt K w Tb' CT CS CB H0 pn cl ow ts b dl dc T ord sp sn cls bd H' m eb es cs :=
  { S with P := S.P.up g, W := S.W.up g, B := S.B.up g, L := S.L.go g (by simp) }
theorem LSt.draw (S : LSt K w Tb' CT CS CB H0 pn cl ow ts b dl dc T ord sp sn cls bd H m eb es cs) (g : Go Tb' [pn] H H') (p : PenB H' pn cl m') : LSt K w Tb' CT CS CB H0 pn cl ow ts b dl dc T ord sp sn cls bd H' m' eb es cs :=
  { S with P := p, W := S.W.step g fun a ha => by rw [List.mem_singleton.mp ha]; exact S.np, B := S.B.goP g S.P, L := S.L.go g (DicW.pne S.L.d S.P) }
theorem LSt.two (S : LSt K w Tb' CT CS CB H0 pn cl ow ts b dl dc T ord sp sn cls bd H m eb es cs) {H1 : Hp} (g : Go Tb' [dl, dc] H H1) (B' : BedAt K w CB H0 H1 b ts T sp sn dl dc es' cs') (C' : ComOk T es' cs')
    (g2 : Go Tb' [bd] H1 H') (L' : LBed K w H' bd T eb') (eq : Eqv eb' es') (sd : at' es' sp = some sn) : LSt K w Tb' CT CS CB H0 pn cl ow ts b dl dc T ord sp sn cls bd H' m eb' es' cs' := by
  have no : bd ∉ [dl, dc] := fun z => by
    rcases List.mem_cons.mp z with z | z
    · exact S.n1 z
    · exact S.n2 (List.mem_singleton.mp z)
  have D1 := S.L.d.go g no
  exact { S with
    P := (S.P.goD g S.B.L S.B.C).goD1 g2 D1
    W := (S.W.step g fun a ha => by
      rcases List.mem_cons.mp ha with e | e
      · rw [e]; exact S.B.nl
      · rw [List.mem_singleton.mp e]; exact S.B.nc).step g2 fun a ha => by rw [List.mem_singleton.mp ha]; exact S.nb
    B := B'.goB g2 D1 S.n1 S.n2, C := C', L := L', eq := eq, sd := sd }
theorem LSt.no (S : LSt K w Tb' CT CS CB H0 pn cl ow ts b dl dc T ord sp sn cls bd H m eb es cs) : bd ∉ [dl, dc] := fun z => by
  rcases List.mem_cons.mp z with z | z
  · exact S.n1 z
  · exact S.n2 (List.mem_singleton.mp z)
theorem LSt.OH (S : LSt K w Tb' CT CS CB H0 pn cl ow ts b dl dc T ord sp sn cls bd H m eb es cs) : OwnAt K w H ow T ord sp sn cls := S.O.up S.W.go
theorem LSt.ne (S : LSt K w Tb' CT CS CB H0 pn cl ow ts b dl dc T ord sp sn cls bd H m eb es cs) : eb ≠ [] := fun z => by
  have h := S.eq sp
  rw [S.sd, z] at h
  cases h
theorem LSt.len (S : LSt K w Tb' CT CS CB H0 pn cl ow ts b dl dc T ord sp sn cls bd H m eb es cs) : es.length = eb.length := (Eqv.len S.L.bo S.B.bo S.eq).symm
end
/-! ### {k: v} -/
def tDis1 (K : PySem.W.Frag) (w : World) (T : Tb) (tk tv : TE) : TE := fun σ H Q => ∀ p H1, H p = none → Go T [] H H1 → DicW K w H1 p [] → tk σ H1 fun y H2 => tv σ H2 fun z H3 => ∃ k d, DicW K w H3 p [] ∧ Dat K H3 k y ∧ k.depth ≤ 8 ∧ Dat K H3 d z ∧ ∀ H', Go T [p] H3 H' → DicW K w H' p [(k, d)] → Q (.ref p) H'
theorem pe_dis1 {X : Cx} (T : Tb) {k v : Expr} {pos : Pos} {tk tv : TE} (hu : X.A.units + 9 < cLine) (hk : PE X k tk) (hv : PE X v tv) : PE X (.Dict [some k] [v] pos) (tDis1 X.K X.w T tk tv) := by
  refine ⟨fun pins s σ H Q I h => ?_⟩
  have I1 := I.laid (a := s.heap.objs.size) (o := DicO X.w s.heap.objs.size []) (h' := s.heap.push { cls := .type "dict", data := .dict #[] }) (t' := s.toks) (fun _ _ q => Heap.get?_push_of_some _ q) (Nat.le_refl _) (dicO_ok .nil (rawD_new s.heap))
  have hp : H s.heap.objs.size = none := I.hok.fresh (Nat.le_refl _)
  have hb : (s.heap.objs.size == sysModules) = false := beq_eq_false_iff_ne.mpr (Ne.symm (Nat.ne_of_lt I.big))
  refine wpAny_Dict_any (by rfl) (by rfl) (by simp) (by show 1 ≤ 15; decide) ?_
  refine pairTrees_cons_walk (thn (hk.run pins _ σ _ _ I1 (h _ _ hp (.new hp) (dicW_new hb))) fun u s1 ⟨x, H1, I2, rx, q1⟩ => thn (hv.run pins s1 σ H1 _ I2 q1) fun w2 s2 ⟨y, H2, I3, ry, kd, d, W, dk, d8, dd, q2⟩ => pairTrees_nil_walk ?_)
  unfold storeAll
  rw [List.forIn_cons]
  refine wpAny_bind (wpAny_bind (dicW_dictSet (X := X) T (Nat.lt_of_succ_lt hu) I3 W dk d8 dd (Nat.lt_of_lt_of_le (by decide) (sz1)) rx ry fun s' H' I' g W' => wpAny_pure ?_))
  exact wpAny_pure ⟨.ref s.heap.objs.size, H', I', rfl, q2 H' g W'⟩
end TG

/-! The law's defs: disturb. -/
namespace TG
open PySem PySem.Spec L2 TGr LamX
open PyProof.Rows hiding St
section
variable {P : Program} {w : World} {K : PySem.W.Frag} {mg : Str → Option Value} {base : Heap} {f fD fK fM fN fC fS fU : Addr} {fd fdD fdK fdM fdN fdC fdS fdU : FuncData} {CT CS CB : Addr}
abbrev sDis : Stmt := top 37
theorem scDis : FnScope ["_law_pen_here", "_law_own", "_law_bed", "_law_told", "_law_many", "_law_lap", "_law_way", "_law_pairs", "_law_place", "_law_name"] ["_law_pen_here", "_law_own", "_law_bed", "_law_told", "_law_many"] (defScope sDis) := ⟨rfl, rfl, rfl, by decide +kernel, rfl, by decide +kernel, by decide +kernel⟩
def spDis (K : PySem.W.Frag) (w : World) (Tb' : Tb) (CT CS CB : Addr) : Sp := fun vs H Q _ => ∃ (H0 : Hp) (pn cl ow ts b dl dc bd : Addr) (m k : Nat) (T : Ts) (ord : List Dm) (sp : Pl) (sn : Dm) (cls : List Pl) (eb es cs : Es), vs = [.ref pn, .ref ow, .ref bd, .ref b, .int k] ∧ LSt K w Tb' CT CS CB H0 pn cl ow ts b dl dc T ord sp sn cls bd H m eb es cs ∧ eb.length + k ≤ 60 ∧ k ≤ 60 ∧ m + 2000 ≤ 1000000000 ∧
  ∀ H' eb' es' cs', LSt K w Tb' CT CS CB H0 pn cl ow ts b dl dc T ord sp sn cls bd H' (m + 20 * k) eb' es' cs' → eb'.length ≤ eb.length + k → Q .non H'
theorem ok_dis (Tb' : Tb) (F : TopF K mg "_law_t2_disturb" sDis ["_law_pen_here", "_law_own", "_law_bed", "_law_told", "_law_many"] f fd) (B : Blt mg) (X : TxtB K mg CB)
    (FD : TopF K mg "_law_draw" sDraw ["_law_pen_here", "_law_many"] fD fdD) (FK : TopF K mg "_law_pick" sPick ["_law_pen_here", "_law_some"] fK fdK)
    (FM : TopF K mg "_law_t2_may" sLM ["_law_own", "_law_bed"] fM fdM) (GM : FnOk P w K mg base CX0 4 fM fdM ["_law_own", "_law_bed"] (spLM K w Tb'))
    (FN : TopF K mg "_law_t2_near" sNear ["_law_pen_here", "_law_own", "_law_bed"] fN fdN) (GN : FnOk P w K mg base CX0 3 fN fdN ["_law_pen_here", "_law_own", "_law_bed"] (spNear K w Tb'))
    (MC : MetF K CB "come" "Bed.come" sCome ["self", "place", "name"] fC fdC) (GC : FnOk P w K mg base CX0 8 fC fdC ["self", "place", "name"] (spPut K w Tb' CT CS CB true))
    (MS : MetF K CB "slip" "Bed.slip" sSlip ["self", "place", "name"] fS fdS) (GS : FnOk P w K mg base CX0 8 fS fdS ["self", "place", "name"] (spPut K w Tb' CT CS CB false))
    (MU : MetF K CB "cut" "Bed.cut" sCut ["self", "places"] fU fdU) (GU : FnOk P w K mg base CX0 8 fU fdU ["self", "places"] (spCut K w Tb' CT CS CB)) :
    FnOk P w K mg base CX0 9 f fd ["_law_pen_here", "_law_own", "_law_bed", "_law_told", "_law_many"] (spDis K w Tb' CT CS CB) := by
  have GD : FnOk P w K mg base CX0 1 fD fdD ["_law_pen_here", "_law_many"] (spDraw Tb') := ok_draw Tb' FD B
  have GK : FnOk P w K mg base CX0 2 fK fdK ["_law_pen_here", "_law_some"] (spPick K Tb') := ok_pick Tb' FK B FD
  refine F.fn.ok scDis (fun vs H Q E h => ?_) (fun cdv A outer s H vs Q E hr h => ?_)
  · obtain ⟨_, pn, _, ow, _, b, _, _, bd, _, k, _, _, _, _, _, _, _, _, rfl, _⟩ := h
    rfl
  · obtain ⟨H0, pn, cl, ow, ts, b, dl, dc, bd, m, k, T, ord, sp, sn, cls, eb, es, cs, rfl, S, hl60, hk60, hm, q⟩ := h
    have hu := hu_of hr
    refine ⟨_, pss_one (ps_for PassesOwn.never rfl (pi_range1 rfl B.range (pa_cons (pv 4) pa_nil)) (pg_name (i := 5) scDis.nd rfl (.inl rfl))
      (pss_cons (ps_par (i := 6) (j := 7) (by rfl) scDis.nd rfl rfl (by decide) rfl rfl (pa_cons (pe_call GD (hr.mono (by decide)) (by rfl) FD.mg FD.fn.kp FD.b .nil pass0 (pa_cons (pv 0) (pa_cons pe_int pa_nil))) (pa_cons (pe_call GM (hr.mono (by decide)) (by rfl) FM.mg FM.fn.kp FM.b .nil pass0 (pa_cons (pv 1) (pa_cons (pv 2) pa_nil))) pa_nil)) (by rfl))
      (pss_cons (ps_set (i := 8) scDis.nd rfl (.inl rfl) (pe_call GN (hr.mono (by decide)) (by rfl) FN.mg FN.fn.kp FN.b .nil pass0 (pa_cons (pv 0) (pa_cons (pv 1) (pa_cons (pv 2) pa_nil)))))
      (pss_one (ps_if (PW.pt (pw_and (pt_cmpR op_lt (pv 6) pe_int (nomark _)) (pw_and1 (pt_cmpR (op_neLs hr.units) (pv 7) (pe_lstD Tb' pa_nil) (nomark _)))))
        (pss_cons (ps_asg (pe_call GK (hr.mono (by decide)) (by rfl) FK.mg FK.fn.kp FK.b .nil pass0 (pa_cons (pv 0) (pa_cons (pv 7) pa_nil))) (pg_tup (by rfl) (pgs_cons (pg_name (i := 8) scDis.nd rfl (.inl rfl)) (pgs_cons (pg_name (i := 9) scDis.nd rfl (.inl rfl)) pgs_nil))))
        (pss_cons (ps_expr (pe_meth (pv 3) X.cl MC.me GC hr MC.b .nil pass0 (pa_cons (pv 8) (pa_cons (pv 9) pa_nil))))
        (pss_one (ps_asg (pv 9) (pg_sub (pv 2) (pv 8) (put_D Tb' (Room.u9 hr)))))))
        (pss_one (ps_if (PW.pt (pw_and (pt_cmpR op_eq (pv 6) pe_int (nomark _)) (pw_and1 (pt_cmpR (op_notInD (Room.u9 hr)) (pv 8) (pv 2) rfl))))
          (pss_cons (ps_set (i := 9) scDis.nd rfl (.inl rfl) (pe_call GK (hr.mono (by decide)) (by rfl) FK.mg FK.fn.kp FK.b .nil pass0 (pa_cons (pv 0) (pa_cons (pe_dget hu (pv 1) pe_str (fun _ _ => rfl)) pa_nil))))
          (pss_cons (ps_expr (pe_meth (pv 3) X.cl MS.me GS hr MS.b .nil pass0 (pa_cons (pv 8) (pa_cons (pv 9) pa_nil))))
          (pss_one (ps_asg (pv 9) (pg_sub (pv 2) (pv 8) (put_D Tb' (Room.u9 hr)))))))
          (pss_one (ps_if (PW.pt (pw_and (pt_cmpR op_eq (pv 6) pe_int (nomark _)) (pw_and (pt_cmpR (op_inD (Room.u9 hr)) (pv 8) (pv 2) rfl) (pw_and1 (pt_cmpR (op_neT hr.units) (pv 8) (pe_dget hu (pv 1) pe_str (fun _ _ => rfl)) (nomark _))))))
            (pss_cons (ps_expr (pe_meth (pv 3) X.cl MU.me GU hr MU.b .nil pass0 (pa_cons (pe_lstD Tb' (pa_cons (pv 8) pa_nil)) pa_nil)))
            (pss_one (ps_expr (pe_dm PySem.F.slot_dict_pop PySem.F.type_dict_pop (mt_popD Tb' (Room.u9 hr)) (pv 2) (pa_cons (pv 8) pa_nil)))))
            pss_nil))))))))), ?_⟩
    refine ⟨_, rfl, k, rfl, by omega, by omega, for_range (n := k) (fun i σ H1 => ∃ (eb' es' cs' : Es) (o5 o6 o7 o8 o9 : Option V), σ = [some (.ref pn), some (.ref ow), some (.ref bd), some (.ref b), some (.int k), o5, o6, o7, o8, o9] ∧ LSt K w Tb' CT CS CB H0 pn cl ow ts b dl dc T ord sp sn cls bd H1 (m + 20 * i) eb' es' cs' ∧ eb'.length ≤ eb.length + i) ⟨eb, es, cs, _, _, _, _, _, rfl, S, Nat.le_refl _⟩ ?_ ?_⟩
    · rintro i σ H1 hi ⟨eb', es', cs', o5, o6, o7, o8, o9, rfl, S1, hl1⟩
      have hT := S1.W.ok
      have esl := S1.len
      refine ⟨_, rfl, pn, cl, m + 20 * i, 4, rfl, S1.P, by decide, by decide, by omega, fun way H2 hw g2 P2 => ?_⟩
      have S2 := S1.draw g2 P2
      refine ⟨_, rfl, _, rfl, ow, bd, T, ord, sp, sn, cls, eb', rfl, S2.OH, S2.L, hT, S2.on, S2.ol, fun pl ds H3 npl g3 L3 l6 hds => ⟨_, _, rfl, ?_⟩⟩
      have S3 := S2.up g3
      refine ⟨_, rfl, _, rfl, _, rfl, pn, cl, ow, bd, m + 20 * i + 1, T, ord, sp, sn, cls, eb', rfl, S3.P, S3.OH, S3.L, S3.ne, S3.cl2, by omega, fun r v H4 g4 P4 hv => ?_⟩
      have S4 := S3.draw g4 P4
      have L4 := L3.goP g4 S3.P
      obtain ⟨dx, _, _, hb4, _⟩ := id S4.B.ins
      -- nothing is done
      have skip : ∀ H9 (o9 : Option V), Go Tb' [] H4 H9 → ∃ (eb' es' cs' : Es) (o5 o6 o7 o8 o9' : Option V), ([some (.ref pn), some (.ref ow), some (.ref bd), some (.ref b), some (.int k), some (.int (0 + (i : Int))), some (.int way), some (.ref pl), some v, o9] : L2.St) = [some (.ref pn), some (.ref ow), some (.ref bd), some (.ref b), some (.int k), o5, o6, o7, o8, o9'] ∧ LSt K w Tb' CT CS CB H0 pn cl ow ts b dl dc T ord sp sn cls bd H9 (m + 20 * (i + 1)) eb' es' cs' ∧ eb'.length ≤ eb.length + (i + 1) :=
        fun H9 o9 g9 => ⟨eb', es', cs', _, _, _, _, _, rfl, (S4.up g9).le (by omega), by omega⟩
      -- a tile is laid
      have lay : ∀ {H5 H6 H7 : Hp} {M : Nat} {cs6 : Es} {p : Pl} {n : Dm}, LSt K w Tb' CT CS CB H0 pn cl ow ts b dl dc T ord sp sn cls bd H5 M eb' es' cs' → M ≤ m + 20 * (i + 1) → at' eb' p = none → n ∈ T.ns → Go Tb' [dl, dc] H5 H6 → BedAt K w CB H0 H6 b ts T sp sn dl dc (putD es' (pd p) n) cs6 → ComOk T (putD es' (pd p) n) cs6 → Go Tb' [bd] H6 H7 → DicW K w H7 bd (putD eb' (pd p) n) →
          LSt K w Tb' CT CS CB H0 pn cl ow ts b dl dc T ord sp sn cls bd H7 (m + 20 * (i + 1)) (putD eb' (pd p) n) (putD es' (pd p) n) cs6 ∧ (putD eb' (pd p) n).length ≤ eb.length + (i + 1) := by
        intro H5 H6 H7 M cs6 p n S5 hM emp hn g6 B6 C6 g7 D7
        have pl' := putD_len eb' (pd p) n
        have emp' : at' es' p = none := (S5.eq p).symm.trans emp
        refine ⟨(S5.two g6 B6 C6 g7 ⟨D7, S5.L.bo.put hn, by omega⟩ (fun r => ?_) ?_).le hM, by omega⟩
        · rw [at_put, at_put, S5.eq r]
        · rw [at_put, if_neg]
          · exact S5.sd
          · intro z
            rw [← z, S5.sd] at emp'
            cases emp'
      refine ⟨_, rfl, _, _, rfl, rfl, _, rfl, ?_⟩
      by_cases c1 : (way : Int) < 2
      · refine iteTp c1 ⟨_, rfl, [], .nil, sz0, fun p5 H5 n5 g5 L5 => ?_⟩
        have S5 := S4.up g5
        have L5' := L4.go g5 (by simp)
        refine ⟨ds, [], L5'.ls, L5.ls, fun d hd => ?_, fun _ z => (nomatch z), _, rfl, ?_⟩
        · obtain ⟨p, n, rfl, _, hn, _⟩ := hds d hd
          exact Nat.le_trans (pair_depth (hT.nam n hn).2) (by decide)
        by_cases c2 : ds = []
        · rw [decide_eq_true c2]
          refine iteF ⟨_, rfl, rfl, _, rfl, iteFp (fun z => ?_) (iteF ⟨_, rfl, rfl, _, rfl, iteFp (fun z => ?_) (iteF (skip H5 _ g5))⟩)⟩
          · have := (V.int.inj z : (way : Int) = 2); omega
          · have := (V.int.inj z : (way : Int) = 3); omega
        · rw [decide_eq_false c2]
          refine iteT ⟨_, rfl, _, rfl, pn, cl, m + 20 * i + 1 + 10, ds, .ref pl, rfl, S5.P, .inl L5'.ls, c2, by omega, by omega, fun d v6 H6 hd g6 P6 hv6 => ?_⟩
          have S6 := S5.draw g6 P6
          obtain ⟨p, n, rfl, emp, hn, hb2⟩ := hds d hd
          obtain ⟨pa, y1, y2, rfl, hs, hy1, hy2⟩ := hv6.two
          obtain ⟨dx6, _, _, hb6, _⟩ := id S6.B.ins
          refine ⟨pa, _, rfl, hs, rfl, _, _, rfl, _, _, rfl, rfl, ?_⟩
          refine ⟨_, rfl, b, dx6, _, rfl, hb6, bd_m (by decide +kernel), _, rfl, _, rfl, H0, b, ts, T, sp, sn, dl, dc, es', cs', p, y1, n, y2, rfl, S6.B, S6.C, S6.W, hy1, hn, hy2, (S6.eq p).symm.trans emp, fun _ => ?_, by omega, fun H7 cs7 g7 B7 C7 => ?_⟩
          · rw [← bnd_eqv S6.eq]; exact hb2
          refine ⟨_, rfl, _, rfl, _, rfl, bd, eb', pd p, n, rfl, S6.L.d.go g7 S6.no, g7.dat hy1, pd_depth p, g7.dat hy2, lsz (by omega), fun H8 g8 W8 => ?_⟩
          obtain ⟨S8, l8⟩ := lay S6 (by omega) emp hn g7 B7 C7 g8 W8
          exact ⟨_, _, _, _, _, _, _, _, rfl, S8, l8⟩
      · refine iteFp c1 (iteF ⟨_, rfl, rfl, _, rfl, ?_⟩)
        by_cases c2 : V.int way = V.int 2
        · refine iteTp c2 ⟨_, rfl, _, rfl, bd, eb', pd r, rfl, S4.L.d.toD, hv, pd_depth r, _, rfl, ?_⟩
          cases e : at' eb' r with
          | some mm =>
            rw [show look eb' (pd r) = some mm from e]
            refine iteF ⟨_, rfl, rfl, _, rfl, iteFp (fun z => ?_) (iteF (skip H4 _ .refl))⟩
            have h2 := (V.int.inj c2 : (way : Int) = 2)
            have := (V.int.inj z : (way : Int) = 3); omega
          | none =>
            rw [show look eb' (pd r) = none from e]
            obtain ⟨gd, od, cd, vn, vs, eo, w1, w2, w3, w4, w5, w6, w7⟩ := id S4.OH.ex
            refine iteT ⟨_, rfl, _, rfl, ow, _, rfl, DGet.of w1 ok_order, pn, cl, m + 20 * i + 1 + 10, ord, .ref od, rfl, S4.P, .inl w4.ls, fun z => ?_, by have := S4.ol; omega, by omega, fun n v6 H6 hn g6 P6 hv6 => ?_⟩
            · have := S4.O.sn
              rw [z] at this
              cases this
            have S6 := S4.draw g6 P6
            have hns := (S6.on n).mp hn
            have hv6' := g6.dat hv
            obtain ⟨dx6, _, _, hb6, _⟩ := id S6.B.ins
            refine ⟨_, rfl, b, dx6, _, rfl, hb6, bd_m (by decide +kernel), _, rfl, _, rfl, H0, b, ts, T, sp, sn, dl, dc, es', cs', r, v, n, v6, rfl, S6.B, S6.C, S6.W, hv6', hns, hv6, (S6.eq r).symm.trans e, fun z => (nomatch z), by omega, fun H7 cs7 g7 B7 C7 => ?_⟩
            refine ⟨_, rfl, _, rfl, _, rfl, bd, eb', pd r, n, rfl, S6.L.d.go g7 S6.no, g7.dat hv6', pd_depth r, g7.dat hv6, lsz (by omega), fun H8 g8 W8 => ?_⟩
            obtain ⟨S8, l8⟩ := lay S6 (by omega) e hns g7 B7 C7 g8 W8
            exact ⟨_, _, _, _, _, _, _, _, rfl, S8, l8⟩
        · refine iteFp c2 (iteF ⟨_, rfl, rfl, _, rfl, ?_⟩)
          by_cases c3 : V.int way = V.int 3
          rotate_left
          · exact iteFp c3 (iteF (skip H4 _ .refl))
          refine iteTp c3 ⟨_, rfl, _, rfl, bd, eb', pd r, rfl, S4.L.d.toD, hv, pd_depth r, _, rfl, ?_⟩
          cases e : at' eb' r with
          | none =>
            rw [show look eb' (pd r) = none from e]
            exact iteF (iteF (skip H4 _ .refl))
          | some mm =>
            rw [show look eb' (pd r) = some mm from e]
            obtain ⟨gd, od, cd, vn, vs, eo, w1, w2, w3, w4, w5, w6, w7⟩ := id S4.OH.ex
            refine iteT ⟨_, rfl, _, rfl, ow, _, rfl, DGet.of w1 ok_seed, pd r, pd sp, hv, w6, pd_depth60 _, pd_depth60 _, _, rfl, ?_⟩
            by_cases c4 : r = sp
            · rw [decide_eq_true (show pd r = pd sp by rw [c4])]
              exact iteF (skip H4 _ .refl)
            · rw [decide_eq_false fun z => c4 (pd_inj z)]
              refine iteT ⟨_, rfl, b, dx, _, rfl, hb4, bd_m (by decide +kernel), _, rfl, [pd r], .cons hv .nil, sz1, fun p5 H5 n5 g5 L5 => ?_⟩
              have S5 := S4.up g5
              refine ⟨H0, b, ts, T, sp, sn, dl, dc, es', cs', [r], .ref p5, rfl, S5.B, S5.C, S5.W, L5.ls, fun q' hq' => by rw [List.mem_singleton.mp hq']; exact c4, by show 1 ≤ 60; decide, by omega, fun nn H6 es6 cs6 g6 B6 C6 hat hlen => ?_⟩
              have D6 := S5.L.d.go g6 S5.no
              refine ⟨_, rfl, ⟨_, _, rfl, D6.toD.ex.choose_spec.1⟩, _, rfl, bd, eb', pd r, v, mm, rfl, rfl, D6, g6.dat (g5.dat hv), pd_depth r, e, fun v7 H7 g7 W7 hd7 => ?_⟩
              have dl7 : (delX eb' (pd r)).length ≤ eb'.length := List.length_filter_le _ _
              refine ⟨_, _, _, _, _, _, _, _, rfl, (S5.two g6 B6 C6 g7 ⟨W7, S5.L.bo.del, by omega⟩ (fun r' => ?_) ?_).le (by omega), by omega⟩
              · rw [at_del, hat, S5.eq r']
                by_cases c : r' = r
                · rw [if_pos c, if_pos (by rw [c]; simp)]
                · rw [if_neg c, if_neg (by simpa using c)]
              · rw [hat, if_neg (by simpa using fun z => c4 z.symm)]
                exact S5.sd
    · rintro σ H1 ⟨eb', es', cs', o5, o6, o7, o8, o9, rfl, S1, hl1⟩
      exact q H1 eb' es' cs' S1 hl1
end
end TG

/-! The law: blocks; the mathematics of its turns. -/
namespace TG
open PySem PySem.Spec L2 TGr LamX
open PyProof.Rows hiding St
/-- a block that never leaves: from Pre to Post -/
def Blk (X : Cx) (ss : List Stmt) (Pre Post : L2.St → Hp → Prop) : Prop := ∃ t, PSs X ss t ∧ ∀ (D : Ends) (N : L2.St → Hp → Prop), (∀ σ H, Post σ H → N σ H) → ∀ σ H, Pre σ H → t { D with nx := N } σ H
section
variable {X : Cx} {st : Stmt} {ss : List Stmt} {Pre Mid Post : L2.St → Hp → Prop} {t1 : TS}
theorem Blk.cons (h1 : PS X st t1) (h : ∀ (D : Ends) (N : L2.St → Hp → Prop), (∀ σ H, Mid σ H → N σ H) → ∀ σ H, Pre σ H → t1 { D with nx := N } σ H) (r : Blk X ss Mid Post) : Blk X (st :: ss) Pre Post := by
  obtain ⟨t, h2, h3⟩ := r
  exact ⟨_, pss_cons h1 h2, fun D N hN σ H p => h D (t { D with nx := N }) (fun σ H m => h3 D N hN σ H m) σ H p⟩
theorem Blk.nil : Blk X [] Pre Pre := ⟨_, pss_nil, fun D N hN σ H p => hN σ H p⟩
/-- if .. : a block, where the test is told -/
theorem Blk.imp {Pre' Post' : L2.St → Hp → Prop} (r : Blk X ss Pre Post) (h1 : ∀ σ H, Pre' σ H → Pre σ H) (h2 : ∀ σ H, Post σ H → Post' σ H) : Blk X ss Pre' Post' := by
  obtain ⟨t, h, q⟩ := r
  exact ⟨t, h, fun D N hN σ H p => q D N (fun σ H z => hN σ H (h2 σ H z)) σ H (h1 σ H p)⟩
end
/-! ### mathematics -/
theorem BedOk.none_of {T : Ts} {es : Es} {p : Pl} (h : (at' es p).isSome = false) : at' es p = none := by
  cases e : at' es p with
  | none => rfl
  | some _ => rw [e] at h; cases h
/-- the pairs of a bed in any order -/
theorem pr_shuf {T : Ts} {es : Es} {ps : List Pl} {fs : List Dm} (e : es.map (·.1) = ps.map pd) (hB : BedOk T es) (hp : fs.Perm (prL es (ps.mergeSort plLe))) :
    ∃ gs : List (Pl × Dm), fs = gs.map (fun x => .tup [pd x.1, x.2]) ∧ gs.length = es.length ∧ (gs.map (·.1)).Nodup ∧ (∀ x ∈ gs, at' es x.1 = some x.2 ∧ x.2 ∈ T.ns) ∧ ∀ p n, at' es p = some n → (p, n) ∈ gs := by
  have e0 : prL es (ps.mergeSort plLe) = ((ps.mergeSort plLe).map fun p => (p, (at' es p).getD .none)).map fun x : Pl × Dm => NestedKey.tup [pd x.1, x.2] := by
    unfold prL
    rw [List.map_map]
    rfl
  obtain ⟨gs, hg, rfl⟩ := perm_pre (fun x : Pl × Dm => NestedKey.tup [pd x.1, x.2]) (e0 ▸ hp) _ rfl
  have hm : ∀ x, x ∈ gs ↔ ∃ p, p ∈ ps ∧ (p, (at' es p).getD .none) = x := fun x => by
    rw [hg.mem_iff, List.mem_map]
    constructor
    · rintro ⟨p, h1, h2⟩
      exact ⟨p, sorted_mem.mp h1, h2⟩
    · rintro ⟨p, h1, h2⟩
      exact ⟨p, sorted_mem.mpr h1, h2⟩
  refine ⟨gs, rfl, ?_, ?_, ?_, ?_⟩
  · rw [hg.length_eq, List.length_map, List.length_mergeSort]
    have := congrArg List.length e
    simpa using this.symm
  · refine (hg.map (·.1)).nodup_iff.mpr ?_
    rw [List.map_map]
    have : ((fun x : Pl × Dm => x.1) ∘ fun p => (p, (at' es p).getD .none)) = id := rfl
    rw [this, List.map_id]
    exact (List.mergeSort_perm ps plLe).nodup_iff.mpr (nd_keys e hB.nd)
  · intro x hx
    obtain ⟨p, h1, rfl⟩ := (hm x).mp hx
    obtain ⟨n, hn⟩ := Option.isSome_iff_exists.mp ((mem_keys e p).mp h1)
    exact ⟨by rw [hn]; rfl, by rw [hn]; exact hB.nam _ _ hn⟩
  · intro p n h
    refine (hm _).mpr ⟨p, (mem_keys e p).mpr (by rw [h]; rfl), by rw [h]; rfl⟩
/-- what may come at other places still may, behind a tile that is laid -/
theorem stay_put {T : Ts} (hT : T.Ok) {es : Es} (hE : BedOk T es) {r : Pl} {n0 : Dm} (emp : at' es r = none) (hn : n0 ∈ T.ns) {ks ks' : List Pl} (h : McOk T es ks) (h' : McOk T (putD es (pd r) n0) ks') :
    ∀ d ∈ mcL T es ks, ∃ q n, d = .tup [pd q, n] ∧ n.depth ≤ 6 ∧ (q ≠ r → d ∈ mcL T (putD es (pd r) n0) ks') := fun d hd => by
  obtain ⟨q, n, rfl, h1, h2⟩ := (mem_mcL h).mp hd
  refine ⟨q, n, rfl, (hT.nam n (mem_fit.mp h2).1).2, fun c => (mem_mcL h').mpr ⟨q, n, rfl, ?_, fit_mono hT (hE.put hn) (fun p m e => ?_) h2⟩⟩
  · rw [at_put, if_neg c]
    exact h1
  · rw [at_put, if_neg]
    · exact e
    · rintro rfl
      rw [emp] at e
      cases e
theorem mc_len {T : Ts} (hT : T.Ok) {es cs : Es} (hE : BedOk T es) (hC : ComOk T es cs) {ks : List Pl} (h : McOk T es ks) : (mcL T es ks).length ≤ 80 * es.length := by
  obtain ⟨ps, e⟩ := hC.key
  have ek : ks = ps.mergeSort plLe := rising_eq h.ris (com_mc hC e).ris fun p => by rw [h.mem, (com_mc hC e).mem]
  have h1 := mcL_len T hT es ks
  have h2 := hC.len hE
  have h3 := congrArg List.length e
  rw [List.length_map, List.length_map] at h3
  have h4 : ks.length = cs.length := by rw [ek, List.length_mergeSort, h3]
  omega
/-- two tiles at unlike places: the order is all one -/
theorem put_swap {es : Es} {p q : Pl} {m n : Dm} (h : p ≠ q) : Eqv (putD (putD es (pd p) m) (pd q) n) (putD (putD es (pd q) n) (pd p) m) := fun r => by
  rw [at_put, at_put, at_put, at_put]
  by_cases c1 : r = q
  · rw [if_pos c1, if_neg fun z => h (z.symm.trans c1), if_pos c1]
  · rw [if_neg c1, if_neg c1]
/-! ### beds beside one another -/
def Apt (xs ys : List Addr) : Prop := ∀ x ∈ xs, x ∉ ys
section
variable {K : PySem.W.Frag} {w : World} {H0 H H1 H' : Hp} {Tb' : Tb} {CT CS CB ts b dl dc b1 dl1 dc1 bd pn cl ow : Addr} {T : Ts} {sp sp1 : Pl} {sn sn1 : Dm} {es cs eb e1 c1 : Es} {ord : List Dm} {cls : List Pl} {m : Nat}
theorem nw_dic {a p : Addr} (D : DicW K w H a es) (h : Nw H p) : a ≠ p := by
  obtain ⟨_, e, _⟩ := D.ex
  exact h.ne e fun ps z => by unfold DicO at z; cases z
theorem apt_of {xs : List Addr} (h : ∀ a ∈ xs, ∃ e : Es, DicW K w H a e) (n1 : Nw H dl1) (n2 : Nw H dc1) : Apt xs [dl1, dc1] := fun a ha z => by
  obtain ⟨e, D⟩ := h a ha
  rcases List.mem_cons.mp z with z | z
  · exact nw_dic D n1 z
  · exact nw_dic D n2 (List.mem_singleton.mp z)
theorem BedAt.dics (B : BedAt K w CB H0 H b ts T sp sn dl dc es cs) : ∀ a ∈ [dl, dc], ∃ e : Es, DicW K w H a e := fun a ha => by
  rcases List.mem_cons.mp ha with z | z
  · exact ⟨_, z ▸ B.L⟩
  · exact ⟨_, List.mem_singleton.mp z ▸ B.C⟩
theorem LSt.dics (S : LSt K w Tb' CT CS CB H0 pn cl ow ts b dl dc T ord sp sn cls bd H m eb es cs) : ∀ a ∈ [bd, dl, dc], ∃ e : Es, DicW K w H a e := fun a ha => by
  rcases List.mem_cons.mp ha with z | z
  · exact ⟨_, z ▸ S.L.d⟩
  · exact S.B.dics a z
theorem BedAt.oth (B : BedAt K w CB H0 H b ts T sp sn dl dc es cs) (B1 : BedAt K w CB H0 H b1 ts T sp1 sn1 dl1 dc1 e1 c1) (n : Apt [dl, dc] [dl1, dc1]) (g : Go Tb' [dl1, dc1] H H') : BedAt K w CB H0 H' b ts T sp sn dl dc es cs := by
  obtain ⟨dx, vp, vn, h, _⟩ := id B.ins
  refine B.go g (fun z => ?_) (n dl (by simp)) (n dc (by simp))
  obtain ⟨e, D⟩ := B1.dics b z
  exact dic_ins D h rfl
theorem LSt.oth (S : LSt K w Tb' CT CS CB H0 pn cl ow ts b dl dc T ord sp sn cls bd H m eb es cs) (B1 : BedAt K w CB H0 H b1 ts T sp1 sn1 dl1 dc1 e1 c1) (n : Apt [bd, dl, dc] [dl1, dc1]) (g : Go Tb' [dl1, dc1] H H') : LSt K w Tb' CT CS CB H0 pn cl ow ts b dl dc T ord sp sn cls bd H' m eb es cs :=
  { S with
    P := S.P.goD g B1.L B1.C
    W := S.W.step g fun a ha => by
      rcases List.mem_cons.mp ha with e | e
      · rw [e]; exact B1.nl
      · rw [List.mem_singleton.mp e]; exact B1.nc
    B := S.B.oth B1 (fun x hx => n x (List.mem_cons_of_mem _ hx)) g
    L := S.L.go g (n bd (by simp)) }
end
end TG

/-! The law: a turn's first statements. -/
namespace TG
open PySem PySem.Spec L2 TGr LamX
open PyProof.Rows hiding St
abbrev sLaw : Stmt := top 41
abbrev nLaw : List Str := ["_law_script", "_law_pen_here", "_law_own", "_law_made", "_law_bed", "_law_told", "_law_turn", "_law_before", "_law_place", "_law_name", "_law_other", "_law_first", "_law_second", "_law_one", "_law_two", "_law_gone"]
theorem scLaw : FnScope nLaw ["_law_script"] (defScope sLaw) := ⟨rfl, rfl, rfl, by decide +kernel, rfl, by decide +kernel, by decide +kernel⟩
/-- the context of the law's body -/
abbrev XL (P : Program) (w : World) (K : PySem.W.Frag) (mg : Str → Option Value) (base : Heap) (f : Addr) (cdv : Value) (A : Around) (outer : List Env) (s : Shared) (H : Hp) (E : XK) : Cx := (cxOf CX0 P w K mg base nLaw "law" (defScope sLaw) f cdv A outer s H E).nox
def forB : Stmt → List Stmt
  | .For _ _ b _ _ => b
  | _ => []
abbrev lawB : List Stmt := forB ((defBody sLaw).getD 4 (.Pass ⟨0, 0, 0, 0⟩))
/-- what stays through the law's turns -/
structure Fx where
  H0 : Hp
  pn : Addr
  cl : Addr
  ow : Addr
  ts : Addr
  b : Addr
  dl : Addr
  dc : Addr
  T : Ts
  ord : List Dm
  sp : Pl
  sn : Dm
  cls : List Pl
  a : Addr
abbrev LS (K : PySem.W.Frag) (w : World) (Tb' : Tb) (CT CS CB : Addr) (x : Fx) (bd : Addr) (H : Hp) (m : Nat) (eb es cs : Es) : Prop := LSt K w Tb' CT CS CB x.H0 x.pn x.cl x.ow x.ts x.b x.dl x.dc x.T x.ord x.sp x.sn x.cls bd H m eb es cs
def T0 (K : PySem.W.Frag) (w : World) (Tb' : Tb) (CT CS CB : Addr) (x : Fx) (M L : Nat) : L2.St → Hp → Prop := fun σ H => ∃ (bd : Addr) (eb es cs : Es) (o6 o7 o8 o9 o10 o11 o12 o13 o14 o15 : Option V),
  σ = [some (.ref x.a), some (.ref x.pn), some (.ref x.ow), some (.ref x.ts), some (.ref bd), some (.ref x.b), o6, o7, o8, o9, o10, o11, o12, o13, o14, o15] ∧ LS K w Tb' CT CS CB x bd H M eb es cs ∧ eb.length ≤ L
/-- behind before -/
def T2 (K : PySem.W.Frag) (w : World) (Tb' : Tb) (CT CS CB : Addr) (x : Fx) (M L : Nat) : L2.St → Hp → Prop := fun σ H => ∃ (bd av : Addr) (eb es cs : Es) (ks : List Pl) (o6 o8 o9 o10 o11 o12 o13 o14 o15 : Option V),
  σ = [some (.ref x.a), some (.ref x.pn), some (.ref x.ow), some (.ref x.ts), some (.ref bd), some (.ref x.b), o6, some (.ref av), o8, o9, o10, o11, o12, o13, o14, o15] ∧ LS K w Tb' CT CS CB x bd H M eb es cs ∧ eb.length ≤ L ∧ McOk x.T es ks ∧ Dat K H (.tup (mcL x.T es ks)) (.ref av)
/-- behind the drawn place and name -/
def T3 (K : PySem.W.Frag) (w : World) (Tb' : Tb) (CT CS CB : Addr) (x : Fx) (M L : Nat) : L2.St → Hp → Prop := fun σ H => ∃ (bd av : Addr) (eb es cs : Es) (ks : List Pl) (r : Pl) (n : Dm) (v y : V) (o6 o10 o11 o12 o13 o14 o15 : Option V),
  σ = [some (.ref x.a), some (.ref x.pn), some (.ref x.ow), some (.ref x.ts), some (.ref bd), some (.ref x.b), o6, some (.ref av), some v, some y, o10, o11, o12, o13, o14, o15] ∧ LS K w Tb' CT CS CB x bd H M eb es cs ∧ eb.length ≤ L ∧ McOk x.T es ks ∧ Dat K H (.tup (mcL x.T es ks)) (.ref av) ∧ Dat K H (pd r) v ∧ n ∈ x.ord ∧ Dat K H n y
section
variable {P : Program} {w : World} {K : PySem.W.Frag} {mg : Str → Option Value} {base : Heap} {f fD fK fZ fY fA fL fP fM fT fS fQ fN : Addr} {fd fdD fdK fdZ fdY fdA fdL fdP fdM fdT fdS fdQ fdN : FuncData} {CT CS CB : Addr} {cdv : Value}
variable {A : Around} {outer : List Env} {s : Shared} {Hs : Hp} {E : XK} {Post : L2.St → Hp → Prop}
theorem law_0 (Tb' : Tb) (B : Blt mg) (hr : Room 10 (A.deeper (envOfC "law" (defScope sLaw) s.heap.objs.size f cdv)))
    (FD : TopF K mg "_law_draw" sDraw ["_law_pen_here", "_law_many"] fD fdD) (GD : FnOk P w K mg base CX0 1 fD fdD ["_law_pen_here", "_law_many"] (spDraw Tb'))
    (FY : TopF K mg "_law_t2_disturb" sDis ["_law_pen_here", "_law_own", "_law_bed", "_law_told", "_law_many"] fY fdY) (GY : FnOk P w K mg base CX0 9 fY fdY ["_law_pen_here", "_law_own", "_law_bed", "_law_told", "_law_many"] (spDis K w Tb' CT CS CB))
    {x : Fx} {M L : Nat} (hM : M + 3000 ≤ 1000000000) (hL : L + 4 ≤ 60)
    (R : Blk (XL P w K mg base f cdv A outer s Hs E) (lawB.drop 1) (T0 K w Tb' CT CS CB x (M + 81) (L + 4)) Post) :
    Blk (XL P w K mg base f cdv A outer s Hs E) lawB (T0 K w Tb' CT CS CB x M L) Post := by
  refine Blk.cons (st := _) (ps_expr (pe_call GY (hr.mono (by decide)) (by rfl) FY.mg FY.fn.kp FY.b .nil pass0 (pa_cons (pv 1) (pa_cons (pv 2) (pa_cons (pv 4) (pa_cons (pv 5) (pa_cons (pe_call GD (hr.mono (by decide)) (by rfl) FD.mg FD.fn.kp FD.b .nil pass0 (pa_cons (pv 1) (pa_cons pe_int pa_nil))) pa_nil))))))) (fun D N hN => ?_) R
  rintro σ H ⟨bd, eb, es, cs, o6, o7, o8, o9, o10, o11, o12, o13, o14, o15, rfl, S, hl⟩
  refine ⟨_, rfl, _, rfl, _, rfl, _, rfl, _, rfl, x.pn, x.cl, M, 5, rfl, S.P, by decide, by decide, by omega, fun r H1 hr1 g1 P1 => ?_⟩
  refine ⟨x.H0, x.pn, x.cl, x.ow, x.ts, x.b, x.dl, x.dc, bd, M + 1, r, x.T, x.ord, x.sp, x.sn, x.cls, eb, es, cs, rfl, S.draw g1 P1, by omega, by omega, by omega, fun H2 eb' es' cs' S2 l2 => hN _ _ ⟨bd, eb', es', cs', _, _, _, _, _, _, _, _, _, _, rfl, S2.le (by omega), by omega⟩⟩
theorem law_1 (Tb' : Tb) (B : Blt mg) (X : TxtB K mg CB) (hr : Room 10 (A.deeper (envOfC "law" (defScope sLaw) s.heap.objs.size f cdv)))
    (FZ : TopF K mg "_law_shuffled" sShuf ["_law_pen_here", "_law_some"] fZ fdZ) (GZ : FnOk P w K mg base CX0 2 fZ fdZ ["_law_pen_here", "_law_some"] (spShuf K Tb'))
    (FA : TopF K mg "_law_t2_alike" sAlike ["_law_one", "_law_two"] fA fdA) (GA : FnOk P w K mg base CX0 2 fA fdA ["_law_one", "_law_two"] (spAlike K w Tb' CB))
    (FL : TopF K mg "_law_t2_laid" sLaid ["_law_made", "_law_own", "_law_pairs"] fL fdL) (GL : FnOk P w K mg base CX0 10 fL fdL ["_law_made", "_law_own", "_law_pairs"] (spLaid K w Tb' CT CS CB))
    (MP : MetF K CB "pairs" "Bed.pairs" sPairs ["self"] fP fdP) (GP : FnOk P w K mg base CX0 1 fP fdP ["self"] (spPairs K w Tb' CB))
    {x : Fx} {M L : Nat} (hM : M + 3000 ≤ 1000000000) (hL : L ≤ 60)
    (R : Blk (XL P w K mg base f cdv A outer s Hs E) (lawB.drop 2) (T0 K w Tb' CT CS CB x (M + L) L) Post) :
    Blk (XL P w K mg base f cdv A outer s Hs E) (lawB.drop 1) (T0 K w Tb' CT CS CB x M L) Post := by
  refine Blk.cons (st := _) (ps_if (pt_not (pt_val (pe_call GA (hr.mono (by decide)) (by rfl) FA.mg FA.fn.kp FA.b .nil pass0 (pa_cons (pv 5) (pa_cons (pe_call GL hr (by rfl) FL.mg FL.fn.kp FL.b .nil pass0 (pa_cons (pv 3) (pa_cons (pv 2) (pa_cons (pe_call GZ (hr.mono (by decide)) (by rfl) FZ.mg FZ.fn.kp FZ.b .nil pass0 (pa_cons (pv 1) (pa_cons (pe_callTy (call_listL Tb') (by rfl) B.list (by decide +kernel) (pa_cons (pe_meth0 (pv 5) X.cl MP.me GP (hr.mono (by decide)) MP.b .nil pass0) pa_nil)) pa_nil))) pa_nil)))) pa_nil)))))
      (pss_one (ps_ret pe_bl)) pss_nil) (fun D N hN => ?_) R
  rintro σ H ⟨bd, eb, es, cs, o6, o7, o8, o9, o10, o11, o12, o13, o14, o15, rfl, S, hl⟩
  obtain ⟨dx, _, _, hb, _⟩ := id S.B.ins
  have esl := S.len
  refine ⟨_, rfl, _, rfl, _, rfl, _, rfl, _, rfl, x.b, dx, _, rfl, hb, bd_m (by decide +kernel), x.H0, x.b, x.ts, x.T, x.sp, x.sn, x.dl, x.dc, es, cs, rfl, S.B, fun a1 ps H1 e1 g1 d1 => ⟨_, .ref a1, rfl, .inr d1, fun p2 H2 n2 g2 L2 => ?_⟩⟩
  have S2 := S.up (g1.trans g2)
  have lp : (prL es (ps.mergeSort plLe)).length = es.length := by
    unfold prL
    rw [List.length_map, List.length_mergeSort]
    simpa using (congrArg List.length e1).symm
  refine ⟨x.pn, x.cl, M, _, .ref p2, rfl, S2.P, .inl L2.ls, by omega, by omega, fun l fs H3 hper nl g3 P3 L3 => ?_⟩
  have S3 := S2.draw g3 P3
  obtain ⟨gs, rfl, hgl, hgn, hg1, hg2⟩ := pr_shuf e1 S.B.bo hper
  refine ⟨x.H0, x.ts, x.ow, l, x.T, x.ord, x.sp, x.sn, x.cls, es, gs, rfl, S3.W, S3.O, (S3.on _).mp S3.O.sn, L3, by omega, hgn, hg1, hg2, S3.sd, fun b2 dl2 dc2 es2 cs2 H4 nb2 ndl ndc g4 B2 C2 eqv => ?_⟩
  have S4 := S3.up g4
  refine ⟨x.H0, x.ts, x.T, x.b, x.dl, x.dc, b2, dl2, dc2, x.sp, x.sp, x.sn, x.sn, es, cs, es2, cs2, rfl, S4.B, S4.C, B2, C2, S4.W.ok, eqv.symm, fun H5 g5 => ⟨true, rfl, iteF (hN _ _ ⟨bd, eb, es, cs, _, _, _, _, _, _, _, _, _, _, rfl, (S4.up g5).le (by omega), hl⟩)⟩⟩
theorem law_2 (Tb' : Tb) (X : TxtB K mg CB) (hr : Room 10 (A.deeper (envOfC "law" (defScope sLaw) s.heap.objs.size f cdv)))
    (MM : MetF K CB "may_come" "Bed.may_come" sMay ["self"] fM fdM) (GM : FnOk P w K mg base CX0 1 fM fdM ["self"] (spMay K w Tb' CB))
    {x : Fx} {M L : Nat} (R : Blk (XL P w K mg base f cdv A outer s Hs E) (lawB.drop 3) (T2 K w Tb' CT CS CB x M L) Post) :
    Blk (XL P w K mg base f cdv A outer s Hs E) (lawB.drop 2) (T0 K w Tb' CT CS CB x M L) Post := by
  refine Blk.cons (st := _) (ps_set (i := 7) scLaw.nd rfl (.inl rfl) (pe_meth0 (pv 5) X.cl MM.me GM (hr.mono (by decide)) MM.b .nil pass0)) (fun D N hN => ?_) R
  rintro σ H ⟨bd, eb, es, cs, o6, o7, o8, o9, o10, o11, o12, o13, o14, o15, rfl, S, hl⟩
  obtain ⟨dx, _, _, hb, _⟩ := id S.B.ins
  refine ⟨_, rfl, x.b, dx, _, rfl, hb, bd_m (by decide +kernel), x.H0, x.b, x.ts, x.T, x.sp, x.sn, x.dl, x.dc, es, cs, rfl, S.B, S.C, S.W.ok, fun av ks H1 m1 g1 d1 => hN _ _ ⟨bd, av, eb, es, cs, ks, _, _, _, _, _, _, _, _, _, rfl, S.up g1, hl, m1, d1⟩⟩
theorem law_3 (Tb' : Tb) (B : Blt mg) (hr : Room 10 (A.deeper (envOfC "law" (defScope sLaw) s.heap.objs.size f cdv)))
    (FN : TopF K mg "_law_t2_near" sNear ["_law_pen_here", "_law_own", "_law_bed"] fN fdN) (GN : FnOk P w K mg base CX0 3 fN fdN ["_law_pen_here", "_law_own", "_law_bed"] (spNear K w Tb'))
    (FK : TopF K mg "_law_pick" sPick ["_law_pen_here", "_law_some"] fK fdK) (GK : FnOk P w K mg base CX0 2 fK fdK ["_law_pen_here", "_law_some"] (spPick K Tb'))
    {x : Fx} {M L : Nat} (hM : M + 3000 ≤ 1000000000)
    (R : Blk (XL P w K mg base f cdv A outer s Hs E) (lawB.drop 4) (T3 K w Tb' CT CS CB x (M + 11) L) Post) :
    Blk (XL P w K mg base f cdv A outer s Hs E) (lawB.drop 3) (T2 K w Tb' CT CS CB x M L) Post := by
  have hu := hu_of hr
  refine Blk.cons (st := _) (ps_par (i := 8) (j := 9) (by rfl) scLaw.nd rfl rfl (by decide) rfl rfl (pa_cons (pe_call GN (hr.mono (by decide)) (by rfl) FN.mg FN.fn.kp FN.b .nil pass0 (pa_cons (pv 1) (pa_cons (pv 2) (pa_cons (pv 4) pa_nil)))) (pa_cons (pe_call GK (hr.mono (by decide)) (by rfl) FK.mg FK.fn.kp FK.b .nil pass0 (pa_cons (pv 1) (pa_cons (pe_dget hu (pv 2) pe_str (fun _ _ => rfl)) pa_nil))) pa_nil)) (by rfl)) (fun D N hN => ?_) R
  rintro σ H ⟨bd, av, eb, es, cs, ks, o6, o8, o9, o10, o11, o12, o13, o14, o15, rfl, S, hl, hmc, hd⟩
  refine ⟨_, rfl, _, rfl, _, rfl, x.pn, x.cl, x.ow, bd, M, x.T, x.ord, x.sp, x.sn, x.cls, eb, rfl, S.P, S.OH, S.L, S.ne, S.cl2, by omega, fun r v H1 g1 P1 hv => ?_⟩
  have S1 := S.draw g1 P1
  obtain ⟨gd, od, cd, vn, vs, eo, w1, w2, w3, w4, w5, w6, w7⟩ := id S1.OH.ex
  refine ⟨_, rfl, _, rfl, x.ow, _, rfl, DGet.of w1 ok_order, x.pn, x.cl, M + 10, x.ord, .ref od, rfl, S1.P, .inl w4.ls, fun z => ?_, by have := S1.ol; omega, by omega, fun n y H2 hn g2 P2 hy => ⟨_, _, rfl, hN _ _ ⟨bd, av, eb, es, cs, ks, r, n, v, y, _, _, _, _, _, _, _, rfl, S1.draw g2 P2, hl, hmc, g2.dat (g1.dat hd), g2.dat hv, hn, hy⟩⟩⟩
  have := S1.O.sn
  rw [z] at this
  cases this
theorem law_4 (Tb' : Tb) (X : TxtB K mg CB) (hr : Room 10 (A.deeper (envOfC "law" (defScope sLaw) s.heap.objs.size f cdv)))
    (MT : MetF K CB "twin" "Bed.twin" sTwin ["self"] fT fdT) (GT : FnOk P w K mg base CX0 10 fT fdT ["self"] (spTwin K w Tb' CT CS CB))
    (MS : MetF K CB "slip" "Bed.slip" sSlip ["self", "place", "name"] fS fdS) (GS : FnOk P w K mg base CX0 8 fS fdS ["self", "place", "name"] (spPut K w Tb' CT CS CB false))
    (MM : MetF K CB "may_come" "Bed.may_come" sMay ["self"] fM fdM) (GM : FnOk P w K mg base CX0 1 fM fdM ["self"] (spMay K w Tb' CB))
    (FQ : TopF K mg "_law_t2_stays" sStays ["_law_before", "_law_behind", "_law_place"] fQ fdQ) (GQ : FnOk P w K mg base CX0 1 fQ fdQ ["_law_before", "_law_behind", "_law_place"] (spStays K Tb'))
    {x : Fx} {M L : Nat} (hL : L ≤ 60)
    (R : Blk (XL P w K mg base f cdv A outer s Hs E) (lawB.drop 5) (T2 K w Tb' CT CS CB x M L) Post) :
    Blk (XL P w K mg base f cdv A outer s Hs E) (lawB.drop 4) (T3 K w Tb' CT CS CB x M L) Post := by
  refine Blk.cons (st := _) (ps_if (pt_cmpR (op_notInD (Room.u9 hr)) (pv 8) (pv 4) rfl)
      (pss_cons (ps_set (i := 10) scLaw.nd rfl (.inl rfl) (pe_meth0 (pv 5) X.cl MT.me GT hr MT.b .nil pass0))
      (pss_cons (ps_expr (pe_meth (pv 10) X.cl MS.me GS (hr.mono (by decide)) MS.b .nil pass0 (pa_cons (pv 8) (pa_cons (pv 9) pa_nil))))
      (pss_one (ps_if (pt_not (pt_val (pe_call GQ (hr.mono (by decide)) (by rfl) FQ.mg FQ.fn.kp FQ.b .nil pass0 (pa_cons (pv 7) (pa_cons (pe_meth0 (pv 10) X.cl MM.me GM (hr.mono (by decide)) MM.b .nil pass0) (pa_cons (pv 8) pa_nil))))))
        (pss_one (ps_ret pe_bl)) pss_nil)))) pss_nil) (fun D N hN => ?_) R
  rintro σ H ⟨bd, av, eb, es, cs, ks, r, n, v, y, o6, o10, o11, o12, o13, o14, o15, rfl, S, hl, hmc, hd, hv, hn, hy⟩
  have esl := S.len
  refine ⟨_, rfl, _, rfl, bd, eb, pd r, rfl, S.L.d.toD, hv, pd_depth r, _, rfl, ?_⟩
  cases e : at' eb r with
  | some mm =>
    rw [show look eb (pd r) = some mm from e]
    exact iteF (hN _ _ ⟨bd, av, eb, es, cs, ks, _, _, _, _, _, _, _, _, _, rfl, S, hl, hmc, hd⟩)
  | none =>
    rw [show look eb (pd r) = none from e]
    have hns := (S.on n).mp hn
    have hsn := (S.on _).mp S.O.sn
    have emp : at' es r = none := (S.eq r).symm.trans e
    obtain ⟨dx, _, _, hb, _⟩ := id S.B.ins
    refine iteT ⟨_, rfl, x.b, dx, _, rfl, hb, bd_m (by decide +kernel), x.H0, x.b, x.ts, x.T, x.sp, x.sn, x.dl, x.dc, es, cs, rfl, S.B, S.C, S.W, hsn, fun b2 dl2 dc2 H1 nb nl nc g1 B1 => ?_⟩
    have S1 := S.up g1
    obtain ⟨dx2, _, _, hb2, _⟩ := id B1.ins
    refine ⟨_, rfl, b2, dx2, _, rfl, hb2, bd_m (by decide +kernel), _, rfl, _, rfl, x.H0, b2, x.ts, x.T, x.sp, x.sn, dl2, dc2, es, cs, r, v, n, y, rfl, B1, S.C, S1.W, g1.dat hv, hns, g1.dat hy, emp, fun z => (nomatch z), by omega, fun H2 cs2 g2 B2 C2 => ?_⟩
    have g02 : Go Tb' [] H H2 := ((g1.up.trans g2).dropN nl).dropN nc
    obtain ⟨dx3, _, _, hb3, _⟩ := id B2.ins
    refine ⟨_, rfl, _, rfl, b2, dx3, _, rfl, hb3, bd_m (by decide +kernel), x.H0, b2, x.ts, x.T, x.sp, x.sn, dl2, dc2, putD es (pd r) n, cs2, rfl, B2, C2, S.W.ok, fun a3 ks3 H3 m3 g3 d3 => ⟨_, rfl, av, a3, mcL x.T es ks, mcL x.T (putD es (pd r) n) ks3, r, v, rfl, (g02.trans g3).dat hd, d3, (g02.trans g3).dat hv, stay_put S.W.ok S.B.bo emp hns hmc m3, fun H4 g4 => ⟨true, rfl, iteF (hN _ _ ⟨bd, av, eb, es, cs, ks, _, _, _, _, _, _, _, _, _, rfl, S.up ((g02.trans g3).trans g4), hl, hmc, ((g02.trans g3).trans g4).dat hd⟩)⟩⟩⟩
end
end TG

/-! The law: two beds beside the one that is told. -/
namespace TG
open PySem PySem.Spec L2 TGr LamX
open PyProof.Rows hiding St
def ifB : Stmt → List Stmt
  | .If _ b _ _ => b
  | _ => []
abbrev lawI : List Stmt := ifB (lawB.getD 5 (.Pass ⟨0, 0, 0, 0⟩))
structure Duo (K : PySem.W.Frag) (w : World) (Tb' : Tb) (CT CS CB : Addr) (x : Fx) (bd : Addr) (H : Hp) (m : Nat) (eb es cs : Es) (av : Addr) (ks : List Pl) (f1 f2 : V) (p1 p2 : Pl) (n1 n2 : Dm) (b1 dl1 dc1 b2 dl2 dc2 : Addr) (e1 c1 e2 c2 : Es) : Prop where
  S : LS K w Tb' CT CS CB x bd H m eb es cs
  mc : McOk x.T es ks
  d : Dat K H (.tup (mcL x.T es ks)) (.ref av)
  h1 : Dat K H (.tup [pd p1, n1]) f1
  h2 : Dat K H (.tup [pd p2, n2]) f2
  m1 : at' es p1 = none ∧ n1 ∈ fit x.T es p1
  m2 : at' es p2 = none ∧ n2 ∈ fit x.T es p2
  B1 : BedAt K w CB x.H0 H b1 x.ts x.T x.sp x.sn dl1 dc1 e1 c1
  C1 : ComOk x.T e1 c1
  B2 : BedAt K w CB x.H0 H b2 x.ts x.T x.sp x.sn dl2 dc2 e2 c2
  C2 : ComOk x.T e2 c2
  a1 : Apt [bd, x.dl, x.dc] [dl1, dc1]
  a2 : Apt [bd, x.dl, x.dc] [dl2, dc2]
  a12 : Apt [dl1, dc1] [dl2, dc2]
theorem Apt.symm {xs ys : List Addr} (h : Apt xs ys) : Apt ys xs := fun x hx z => h x z hx
section
variable {K : PySem.W.Frag} {w : World} {Tb' : Tb} {CT CS CB : Addr} {x : Fx} {bd : Addr} {H H' : Hp} {m : Nat} {eb es cs : Es} {av : Addr} {ks : List Pl} {f1 f2 : V} {p1 p2 : Pl} {n1 n2 : Dm} {b1 dl1 dc1 b2 dl2 dc2 : Addr} {e1 c1 e2 c2 e' c' : Es}
theorem Duo.up (D : Duo K w Tb' CT CS CB x bd H m eb es cs av ks f1 f2 p1 p2 n1 n2 b1 dl1 dc1 b2 dl2 dc2 e1 c1 e2 c2) (g : Go Tb' [] H H') : Duo K w Tb' CT CS CB x bd H' m eb es cs av ks f1 f2 p1 p2 n1 n2 b1 dl1 dc1 b2 dl2 dc2 e1 c1 e2 c2 :=
  { D with S := D.S.up g, d := g.dat D.d, h1 := g.dat D.h1, h2 := g.dat D.h2, B1 := D.B1.up g, B2 := D.B2.up g }
theorem Duo.one (D : Duo K w Tb' CT CS CB x bd H m eb es cs av ks f1 f2 p1 p2 n1 n2 b1 dl1 dc1 b2 dl2 dc2 e1 c1 e2 c2) (g : Go Tb' [dl1, dc1] H H') (B' : BedAt K w CB x.H0 H' b1 x.ts x.T x.sp x.sn dl1 dc1 e' c') (C' : ComOk x.T e' c') : Duo K w Tb' CT CS CB x bd H' m eb es cs av ks f1 f2 p1 p2 n1 n2 b1 dl1 dc1 b2 dl2 dc2 e' c' e2 c2 :=
  { D with S := D.S.oth D.B1 D.a1 g, d := g.dat D.d, h1 := g.dat D.h1, h2 := g.dat D.h2, B1 := B', C1 := C', B2 := D.B2.oth D.B1 D.a12.symm g }
theorem Duo.two (D : Duo K w Tb' CT CS CB x bd H m eb es cs av ks f1 f2 p1 p2 n1 n2 b1 dl1 dc1 b2 dl2 dc2 e1 c1 e2 c2) (g : Go Tb' [dl2, dc2] H H') (B' : BedAt K w CB x.H0 H' b2 x.ts x.T x.sp x.sn dl2 dc2 e' c') (C' : ComOk x.T e' c') : Duo K w Tb' CT CS CB x bd H' m eb es cs av ks f1 f2 p1 p2 n1 n2 b1 dl1 dc1 b2 dl2 dc2 e1 c1 e' c' :=
  { D with S := D.S.oth D.B2 D.a2 g, d := g.dat D.d, h1 := g.dat D.h1, h2 := g.dat D.h2, B1 := D.B1.oth D.B2 D.a12 g, B2 := B', C2 := C' }
end
def T5 (K : PySem.W.Frag) (w : World) (Tb' : Tb) (CT CS CB : Addr) (x : Fx) (M L : Nat) (Fc : Es → Pl → Dm → Pl → Dm → Es → Es → Prop) : L2.St → Hp → Prop := fun σ H => ∃ (bd av : Addr) (eb es cs : Es) (ks : List Pl) (f1 f2 : V) (p1 p2 : Pl) (n1 n2 : Dm) (b1 dl1 dc1 b2 dl2 dc2 : Addr) (e1 c1 e2 c2 : Es) (o6 o8 o9 o10 o15 : Option V),
  σ = [some (.ref x.a), some (.ref x.pn), some (.ref x.ow), some (.ref x.ts), some (.ref bd), some (.ref x.b), o6, some (.ref av), o8, o9, o10, some f1, some f2, some (.ref b1), some (.ref b2), o15] ∧ Duo K w Tb' CT CS CB x bd H M eb es cs av ks f1 f2 p1 p2 n1 n2 b1 dl1 dc1 b2 dl2 dc2 e1 c1 e2 c2 ∧ eb.length ≤ L ∧ Fc es p1 n1 p2 n2 e1 e2
/-- behind before, where something may come -/
def T2n (K : PySem.W.Frag) (w : World) (Tb' : Tb) (CT CS CB : Addr) (x : Fx) (M L : Nat) : L2.St → Hp → Prop := fun σ H => ∃ (bd av : Addr) (eb es cs : Es) (ks : List Pl) (o6 o8 o9 o10 o11 o12 o13 o14 o15 : Option V),
  σ = [some (.ref x.a), some (.ref x.pn), some (.ref x.ow), some (.ref x.ts), some (.ref bd), some (.ref x.b), o6, some (.ref av), o8, o9, o10, o11, o12, o13, o14, o15] ∧ LS K w Tb' CT CS CB x bd H M eb es cs ∧ eb.length ≤ L ∧ McOk x.T es ks ∧ Dat K H (.tup (mcL x.T es ks)) (.ref av) ∧ mcL x.T es ks ≠ []
/-- behind the two drawn pairs -/
def T4 (K : PySem.W.Frag) (w : World) (Tb' : Tb) (CT CS CB : Addr) (x : Fx) (M L : Nat) : L2.St → Hp → Prop := fun σ H => ∃ (bd av : Addr) (eb es cs : Es) (ks : List Pl) (f1 f2 : V) (p1 p2 : Pl) (n1 n2 : Dm) (o6 o8 o9 o10 o13 o14 o15 : Option V),
  σ = [some (.ref x.a), some (.ref x.pn), some (.ref x.ow), some (.ref x.ts), some (.ref bd), some (.ref x.b), o6, some (.ref av), o8, o9, o10, some f1, some f2, o13, o14, o15] ∧ LS K w Tb' CT CS CB x bd H M eb es cs ∧ eb.length ≤ L ∧ McOk x.T es ks ∧ Dat K H (.tup (mcL x.T es ks)) (.ref av) ∧
  Dat K H (.tup [pd p1, n1]) f1 ∧ Dat K H (.tup [pd p2, n2]) f2 ∧ (at' es p1 = none ∧ n1 ∈ fit x.T es p1) ∧ (at' es p2 = none ∧ n2 ∈ fit x.T es p2)
theorem pair_0 (a b : Dm) : atI [a, b] (0 : Int) = some a := at_zero a [b]
theorem pair_1 (a b : Dm) : atI [a, b] (1 : Int) = some b := by
  have : atI [a, b] ((1 : Nat) : Int) = some b := atI_nat rfl
  exact this
section
variable {P : Program} {w : World} {K : PySem.W.Frag} {mg : Str → Option Value} {base : Heap} {f fD fK fZ fY fA fL fP fM fT fS fQ fN fC fU : Addr} {fd fdD fdK fdZ fdY fdA fdL fdP fdM fdT fdS fdQ fdN fdC fdU : FuncData} {CT CS CB : Addr} {cdv : Value}
variable {A : Around} {outer : List Env} {s : Shared} {Hs : Hp} {E : XK} {Post : L2.St → Hp → Prop}
theorem law_5a (Tb' : Tb) (hr : Room 10 (A.deeper (envOfC "law" (defScope sLaw) s.heap.objs.size f cdv)))
    (FK : TopF K mg "_law_pick" sPick ["_law_pen_here", "_law_some"] fK fdK) (GK : FnOk P w K mg base CX0 2 fK fdK ["_law_pen_here", "_law_some"] (spPick K Tb'))
    {x : Fx} {M L : Nat} (hM : M + 3000 ≤ 1000000000) (hL : L ≤ 60)
    (R : Blk (XL P w K mg base f cdv A outer s Hs E) (lawI.drop 1) (T4 K w Tb' CT CS CB x (M + 2) L) Post) :
    Blk (XL P w K mg base f cdv A outer s Hs E) lawI (T2n K w Tb' CT CS CB x M L) Post := by
  refine Blk.cons (st := _) (ps_par (i := 11) (j := 12) (by rfl) scLaw.nd rfl rfl (by decide) rfl rfl (pa_cons (pe_call GK (hr.mono (by decide)) (by rfl) FK.mg FK.fn.kp FK.b .nil pass0 (pa_cons (pv 1) (pa_cons (pv 7) pa_nil))) (pa_cons (pe_call GK (hr.mono (by decide)) (by rfl) FK.mg FK.fn.kp FK.b .nil pass0 (pa_cons (pv 1) (pa_cons (pv 7) pa_nil))) pa_nil)) (by rfl)) (fun D N hN => ?_) R
  rintro σ H ⟨bd, av, eb, es, cs, ks, o6, o8, o9, o10, o11, o12, o13, o14, o15, rfl, S, hl, hmc, hd, hne⟩
  have esl := S.len
  have mcl := mc_len S.W.ok S.B.bo S.C hmc
  have key : ∀ {d : Dm}, d ∈ mcL x.T es ks → ∃ p n, d = .tup [pd p, n] ∧ at' es p = none ∧ n ∈ fit x.T es p := fun {d} h => by
    obtain ⟨p, n, e, h1, h2⟩ := (mem_mcL hmc).mp h
    exact ⟨p, n, e, BedOk.none_of (T := x.T) h1, h2⟩
  refine ⟨_, rfl, _, rfl, x.pn, x.cl, M, _, .ref av, rfl, S.P, .inr hd, hne, by omega, by omega, fun d1 v1 H1 hd1 g1 P1 hv1 => ?_⟩
  have S1 := S.draw g1 P1
  refine ⟨_, rfl, _, rfl, x.pn, x.cl, M + 1, _, .ref av, rfl, S1.P, .inr (g1.dat hd), hne, by omega, by omega, fun d2 v2 H2 hd2 g2 P2 hv2 => ⟨_, _, rfl, ?_⟩⟩
  obtain ⟨p1, n1, rfl, k1⟩ := key hd1
  obtain ⟨p2, n2, rfl, k2⟩ := key hd2
  exact hN _ _ ⟨bd, av, eb, es, cs, ks, v1, v2, p1, p2, n1, n2, _, _, _, _, _, _, _, rfl, S1.draw g2 P2, hl, hmc, g2.dat (g1.dat hd), g2.dat hv1, hv2, k1, k2⟩
theorem law_5b (Tb' : Tb) (X : TxtB K mg CB) (hr : Room 10 (A.deeper (envOfC "law" (defScope sLaw) s.heap.objs.size f cdv)))
    (MT : MetF K CB "twin" "Bed.twin" sTwin ["self"] fT fdT) (GT : FnOk P w K mg base CX0 10 fT fdT ["self"] (spTwin K w Tb' CT CS CB))
    {x : Fx} {M L : Nat}
    (R : Blk (XL P w K mg base f cdv A outer s Hs E) (lawI.drop 2) (T5 K w Tb' CT CS CB x M L fun es p1 n1 p2 n2 e1 e2 => e1 = es ∧ e2 = es) Post) :
    Blk (XL P w K mg base f cdv A outer s Hs E) (lawI.drop 1) (T4 K w Tb' CT CS CB x M L) Post := by
  refine Blk.cons (st := _) (ps_par (i := 13) (j := 14) (by rfl) scLaw.nd rfl rfl (by decide) rfl rfl (pa_cons (pe_meth0 (pv 5) X.cl MT.me GT hr MT.b .nil pass0) (pa_cons (pe_meth0 (pv 5) X.cl MT.me GT hr MT.b .nil pass0) pa_nil)) (by rfl)) (fun D N hN => ?_) R
  rintro σ H ⟨bd, av, eb, es, cs, ks, f1, f2, p1, p2, n1, n2, o6, o8, o9, o10, o13, o14, o15, rfl, S, hl, hmc, hd, hf1, hf2, k1, k2⟩
  have hsn := (S.on _).mp S.O.sn
  obtain ⟨dx, _, _, hb, _⟩ := id S.B.ins
  refine ⟨_, rfl, x.b, dx, _, rfl, hb, bd_m (by decide +kernel), x.H0, x.b, x.ts, x.T, x.sp, x.sn, x.dl, x.dc, es, cs, rfl, S.B, S.C, S.W, hsn, fun b1 dl1 dc1 H1 nb1 nl1 nc1 g1 B1 => ?_⟩
  have S1 := S.up g1
  obtain ⟨dx1, _, _, hb1, _⟩ := id S1.B.ins
  refine ⟨_, rfl, x.b, dx1, _, rfl, hb1, bd_m (by decide +kernel), x.H0, x.b, x.ts, x.T, x.sp, x.sn, x.dl, x.dc, es, cs, rfl, S1.B, S1.C, S1.W, hsn, fun b2 dl2 dc2 H2 nb2 nl2 nc2 g2 B2 => ⟨_, _, rfl, ?_⟩⟩
  have g02 := g1.trans g2
  exact hN _ _ ⟨bd, av, eb, es, cs, ks, f1, f2, p1, p2, n1, n2, b1, dl1, dc1, b2, dl2, dc2, es, cs, es, cs, _, _, _, _, _, rfl, ⟨S1.up g2, hmc, g02.dat hd, g02.dat hf1, g02.dat hf2, k1, k2, B1.up g2, S.C, B2, S.C, apt_of S.dics nl1 nc1, apt_of S1.dics nl2 nc2, apt_of B1.dics nl2 nc2⟩, hl, rfl, rfl⟩
theorem law_5c (Tb' : Tb) (X : TxtB K mg CB) (hr : Room 10 (A.deeper (envOfC "law" (defScope sLaw) s.heap.objs.size f cdv)))
    (MC : MetF K CB "come" "Bed.come" sCome ["self", "place", "name"] fC fdC) (GC : FnOk P w K mg base CX0 8 fC fdC ["self", "place", "name"] (spPut K w Tb' CT CS CB true))
    {x : Fx} {M L : Nat} (hL : L ≤ 60)
    (R : Blk (XL P w K mg base f cdv A outer s Hs E) (lawI.drop 3) (T5 K w Tb' CT CS CB x M L fun es p1 n1 p2 n2 e1 e2 => e1 = putD es (pd p1) n1 ∧ e2 = es) Post) :
    Blk (XL P w K mg base f cdv A outer s Hs E) (lawI.drop 2) (T5 K w Tb' CT CS CB x M L fun es p1 n1 p2 n2 e1 e2 => e1 = es ∧ e2 = es) Post := by
  refine Blk.cons (st := _) (ps_expr (pe_meth (pv 13) X.cl MC.me GC (hr.mono (by decide)) MC.b .nil pass0 (pa_cons (pe_ix ix_DL (pv 11) pe_int (fun _ _ => rfl)) (pa_cons (pe_ix ix_DL (pv 11) pe_int (fun _ _ => rfl)) pa_nil)))) (fun D N hN => ?_) R
  rintro σ H ⟨bd, av, eb, es, cs, ks, f1, f2, p1, p2, n1, n2, b1, dl1, dc1, b2, dl2, dc2, e1, c1, e2, c2, o6, o8, o9, o10, o15, rfl, U, hl, he1, he2⟩
  subst he1 he2
  have esl := U.S.len
  obtain ⟨dx, _, _, hb, _⟩ := id U.B1.ins
  obtain ⟨hn1, hbn⟩ := mem_fit.mp U.m1.2
  refine ⟨_, rfl, b1, dx, _, rfl, hb, bd_m (by decide +kernel), _, rfl, [pd p1, n1], 0, pd p1, .inr U.h1, rfl, pair_0 _ _, fun y1 hy1 => ⟨_, rfl, [pd p1, n1], 1, n1, .inr U.h1, rfl, pair_1 _ _, fun y2 hy2 => ?_⟩⟩
  exact ⟨x.H0, b1, x.ts, x.T, x.sp, x.sn, dl1, dc1, _, c1, p1, y1, n1, y2, rfl, U.B1, U.C1, U.S.W, hy1, hn1, hy2, U.m1.1, fun _ => hbn, by omega, fun H' c' g' B' C' => hN _ _ ⟨bd, av, eb, _, cs, ks, f1, f2, p1, p2, n1, n2, b1, dl1, dc1, b2, dl2, dc2, _, c', _, c2, _, _, _, _, _, rfl, U.one g' B' C', hl, rfl, rfl⟩⟩
theorem law_5d (Tb' : Tb) (X : TxtB K mg CB) (hr : Room 10 (A.deeper (envOfC "law" (defScope sLaw) s.heap.objs.size f cdv)))
    (MM : MetF K CB "may_come" "Bed.may_come" sMay ["self"] fM fdM) (GM : FnOk P w K mg base CX0 1 fM fdM ["self"] (spMay K w Tb' CB))
    (FQ : TopF K mg "_law_t2_stays" sStays ["_law_before", "_law_behind", "_law_place"] fQ fdQ) (GQ : FnOk P w K mg base CX0 1 fQ fdQ ["_law_before", "_law_behind", "_law_place"] (spStays K Tb'))
    {x : Fx} {M L : Nat}
    (R : Blk (XL P w K mg base f cdv A outer s Hs E) (lawI.drop 4) (T5 K w Tb' CT CS CB x M L fun es p1 n1 p2 n2 e1 e2 => e1 = putD es (pd p1) n1 ∧ e2 = es) Post) :
    Blk (XL P w K mg base f cdv A outer s Hs E) (lawI.drop 3) (T5 K w Tb' CT CS CB x M L fun es p1 n1 p2 n2 e1 e2 => e1 = putD es (pd p1) n1 ∧ e2 = es) Post := by
  refine Blk.cons (st := _) (ps_if (pt_not (pt_val (pe_call GQ (hr.mono (by decide)) (by rfl) FQ.mg FQ.fn.kp FQ.b .nil pass0 (pa_cons (pv 7) (pa_cons (pe_meth0 (pv 13) X.cl MM.me GM (hr.mono (by decide)) MM.b .nil pass0) (pa_cons (pe_ix ix_DL (pv 11) pe_int (fun _ _ => rfl)) pa_nil))))))
        (pss_one (ps_ret pe_bl)) pss_nil) (fun D N hN => ?_) R
  rintro σ H ⟨bd, av, eb, es, cs, ks, f1, f2, p1, p2, n1, n2, b1, dl1, dc1, b2, dl2, dc2, e1, c1, e2, c2, o6, o8, o9, o10, o15, rfl, U, hl, he1, he2⟩
  subst he1 he2
  obtain ⟨dx, _, _, hb, _⟩ := id U.B1.ins
  obtain ⟨hn1, hbn⟩ := mem_fit.mp U.m1.2
  refine ⟨_, rfl, _, rfl, b1, dx, _, rfl, hb, bd_m (by decide +kernel), x.H0, b1, x.ts, x.T, x.sp, x.sn, dl1, dc1, _, c1, rfl, U.B1, U.C1, U.S.W.ok, fun a3 ks3 H3 m3 g3 d3 => ?_⟩
  have U3 := U.up g3
  refine ⟨_, rfl, [pd p1, n1], 0, pd p1, .inr U3.h1, rfl, pair_0 _ _, fun y1 hy1 => ?_⟩
  exact ⟨av, a3, mcL x.T _ ks, mcL x.T _ ks3, p1, y1, rfl, U3.d, d3, hy1, stay_put U.S.W.ok U.S.B.bo U.m1.1 hn1 U.mc m3, fun H4 g4 => ⟨true, rfl, iteF (hN _ _ ⟨bd, av, eb, _, cs, ks, f1, f2, p1, p2, n1, n2, b1, dl1, dc1, b2, dl2, dc2, _, c1, _, c2, _, _, _, _, _, rfl, U3.up g4, hl, rfl, rfl⟩)⟩⟩
theorem law_5e (Tb' : Tb) (X : TxtB K mg CB) (hr : Room 10 (A.deeper (envOfC "law" (defScope sLaw) s.heap.objs.size f cdv)))
    (MC : MetF K CB "come" "Bed.come" sCome ["self", "place", "name"] fC fdC) (GC : FnOk P w K mg base CX0 8 fC fdC ["self", "place", "name"] (spPut K w Tb' CT CS CB true))
    (FA : TopF K mg "_law_t2_alike" sAlike ["_law_one", "_law_two"] fA fdA) (GA : FnOk P w K mg base CX0 2 fA fdA ["_law_one", "_law_two"] (spAlike K w Tb' CB))
    {x : Fx} {M L : Nat} (hL : L ≤ 60)
    (R : Blk (XL P w K mg base f cdv A outer s Hs E) (lawI.drop 5) (T5 K w Tb' CT CS CB x M L fun es p1 n1 p2 n2 e1 e2 => (∀ r, r ≠ p1 → r ≠ p2 → at' e1 r = at' es r) ∧ e1.length ≤ es.length + 2) Post) :
    Blk (XL P w K mg base f cdv A outer s Hs E) (lawI.drop 4) (T5 K w Tb' CT CS CB x M L fun es p1 n1 p2 n2 e1 e2 => e1 = putD es (pd p1) n1 ∧ e2 = es) Post := by
  refine Blk.cons (st := _) (ps_if (pt_cmpR (op_neT hr.units) (pe_ix ix_DL (pv 11) pe_int (fun _ _ => rfl)) (pe_ix ix_DL (pv 12) pe_int (fun _ _ => rfl)) (nomark _))
      (pss_cons (ps_expr (pe_meth (pv 14) X.cl MC.me GC (hr.mono (by decide)) MC.b .nil pass0 (pa_cons (pe_ix ix_DL (pv 12) pe_int (fun _ _ => rfl)) (pa_cons (pe_ix ix_DL (pv 12) pe_int (fun _ _ => rfl)) pa_nil))))
      (pss_cons (ps_expr (pe_meth (pv 13) X.cl MC.me GC (hr.mono (by decide)) MC.b .nil pass0 (pa_cons (pe_ix ix_DL (pv 12) pe_int (fun _ _ => rfl)) (pa_cons (pe_ix ix_DL (pv 12) pe_int (fun _ _ => rfl)) pa_nil))))
      (pss_cons (ps_expr (pe_meth (pv 14) X.cl MC.me GC (hr.mono (by decide)) MC.b .nil pass0 (pa_cons (pe_ix ix_DL (pv 11) pe_int (fun _ _ => rfl)) (pa_cons (pe_ix ix_DL (pv 11) pe_int (fun _ _ => rfl)) pa_nil))))
      (pss_one (ps_if (pt_not (pt_val (pe_call GA (hr.mono (by decide)) (by rfl) FA.mg FA.fn.kp FA.b .nil pass0 (pa_cons (pv 13) (pa_cons (pv 14) pa_nil))))) (pss_one (ps_ret pe_bl)) pss_nil))))) pss_nil) (fun D N hN => ?_) R
  rintro σ H ⟨bd, av, eb, es, cs, ks, f1, f2, p1, p2, n1, n2, b1, dl1, dc1, b2, dl2, dc2, e1, c1, e2, c2, o6, o8, o9, o10, o15, rfl, U, hl, he1, he2⟩
  subst he1 he2
  have hT := U.S.W.ok
  have esl := U.S.len
  have l1 := putD_len e2 (pd p1) n1
  have l2 := putD_len e2 (pd p2) n2
  obtain ⟨hn1, hb1⟩ := mem_fit.mp U.m1.2
  obtain ⟨hn2, hb2⟩ := mem_fit.mp U.m2.2
  refine ⟨_, rfl, [pd p1, n1], 0, pd p1, .inr U.h1, rfl, pair_0 _ _, fun y1 hy1 => ⟨_, rfl, [pd p2, n2], 0, pd p2, .inr U.h2, rfl, pair_0 _ _, fun y2 hy2 => ⟨pd p1, pd p2, hy1, hy2, pd_depth60 _, pd_depth60 _, _, rfl, ?_⟩⟩⟩
  by_cases c : p1 = p2
  · rw [decide_eq_true (show pd p1 = pd p2 by rw [c])]
    refine iteF (hN _ _ ⟨bd, av, eb, _, cs, ks, f1, f2, p1, p2, n1, n2, b1, dl1, dc1, b2, dl2, dc2, _, c1, _, c2, _, _, _, _, _, rfl, U, hl, fun r h1 h2 => ?_, by omega⟩)
    rw [at_put, if_neg h1]
  · rw [decide_eq_false fun z => c (pd_inj z)]
    have up1 : ∀ {r : Pl} {n : Dm}, at' e2 r = none → ∀ p m, at' e2 p = some m → at' (putD e2 (pd r) n) p = some m := fun {r n} emp p m e => by
      rw [at_put, if_neg]
      · exact e
      · rintro rfl
        rw [emp] at e
        cases e
    have bo := U.S.B.bo
    have bm2 : 2 ≤ bnd x.T (putD e2 (pd p1) n1) p2 n2 := by
      have := bnd_mono hT (bo.put hn1) (up1 (n := n1) U.m1.1) p2 n2
      omega
    have bm1 : 2 ≤ bnd x.T (putD e2 (pd p2) n2) p1 n1 := by
      have := bnd_mono hT (bo.put hn2) (up1 (n := n2) U.m2.1) p1 n1
      omega
    have em2 : at' (putD e2 (pd p1) n1) p2 = none := by rw [at_put, if_neg fun z => c z.symm]; exact U.m2.1
    have em1 : at' (putD e2 (pd p2) n2) p1 = none := by rw [at_put, if_neg c]; exact U.m1.1
    obtain ⟨dx2, _, _, hx2, _⟩ := id U.B2.ins
    refine iteT ⟨_, rfl, b2, dx2, _, rfl, hx2, bd_m (by decide +kernel), _, rfl, [pd p2, n2], 0, pd p2, .inr U.h2, rfl, pair_0 _ _, fun z1 hz1 => ⟨_, rfl, [pd p2, n2], 1, n2, .inr U.h2, rfl, pair_1 _ _, fun z2 hz2 => ?_⟩⟩
    refine ⟨x.H0, b2, x.ts, x.T, x.sp, x.sn, dl2, dc2, _, c2, p2, z1, n2, z2, rfl, U.B2, U.C2, U.S.W, hz1, hn2, hz2, U.m2.1, fun _ => hb2, by omega, fun Ha ca ga Ba Ca => ?_⟩
    have Ua := U.two ga Ba Ca
    obtain ⟨dx1, _, _, hx1, _⟩ := id Ua.B1.ins
    refine ⟨_, rfl, b1, dx1, _, rfl, hx1, bd_m (by decide +kernel), _, rfl, [pd p2, n2], 0, pd p2, .inr Ua.h2, rfl, pair_0 _ _, fun z3 hz3 => ⟨_, rfl, [pd p2, n2], 1, n2, .inr Ua.h2, rfl, pair_1 _ _, fun z4 hz4 => ?_⟩⟩
    refine ⟨x.H0, b1, x.ts, x.T, x.sp, x.sn, dl1, dc1, _, c1, p2, z3, n2, z4, rfl, Ua.B1, Ua.C1, Ua.S.W, hz3, hn2, hz4, em2, fun _ => bm2, by omega, fun Hb cb gb Bb Cb => ?_⟩
    have Ub := Ua.one gb Bb Cb
    obtain ⟨dx3, _, _, hx3, _⟩ := id Ub.B2.ins
    refine ⟨_, rfl, b2, dx3, _, rfl, hx3, bd_m (by decide +kernel), _, rfl, [pd p1, n1], 0, pd p1, .inr Ub.h1, rfl, pair_0 _ _, fun z5 hz5 => ⟨_, rfl, [pd p1, n1], 1, n1, .inr Ub.h1, rfl, pair_1 _ _, fun z6 hz6 => ?_⟩⟩
    refine ⟨x.H0, b2, x.ts, x.T, x.sp, x.sn, dl2, dc2, _, ca, p1, z5, n1, z6, rfl, Ub.B2, Ub.C2, Ub.S.W, hz5, hn1, hz6, em1, fun _ => bm1, by omega, fun Hc cc gc Bc Cc => ?_⟩
    have Uc := Ub.two gc Bc Cc
    have l3 := putD_len (putD e2 (pd p1) n1) (pd p2) n2
    refine ⟨_, rfl, _, rfl, x.H0, x.ts, x.T, b1, dl1, dc1, b2, dl2, dc2, x.sp, x.sp, x.sn, x.sn, _, cb, _, cc, rfl, Uc.B1, Uc.C1, Uc.B2, Uc.C2, hT, put_swap c, fun Hd gd => ⟨true, rfl, iteF (hN _ _ ⟨bd, av, eb, _, cs, ks, f1, f2, p1, p2, n1, n2, b1, dl1, dc1, b2, dl2, dc2, _, cb, _, cc, _, _, _, _, _, rfl, Uc.up gd, hl, fun r h1 h2 => ?_, by omega⟩)⟩⟩
    rw [at_put, at_put, if_neg h2, if_neg h1]
theorem law_5f (Tb' : Tb) (X : TxtB K mg CB) (hr : Room 10 (A.deeper (envOfC "law" (defScope sLaw) s.heap.objs.size f cdv)))
    (MU : MetF K CB "cut" "Bed.cut" sCut ["self", "places"] fU fdU) (GU : FnOk P w K mg base CX0 8 fU fdU ["self", "places"] (spCut K w Tb' CT CS CB))
    {x : Fx} {M L : Nat} (hL : L ≤ 60)
    (R : Blk (XL P w K mg base f cdv A outer s Hs E) (lawI.drop 6) (T5 K w Tb' CT CS CB x M L fun es p1 n1 p2 n2 e1 e2 => Eqv e1 es) Post) :
    Blk (XL P w K mg base f cdv A outer s Hs E) (lawI.drop 5) (T5 K w Tb' CT CS CB x M L fun es p1 n1 p2 n2 e1 e2 => (∀ r, r ≠ p1 → r ≠ p2 → at' e1 r = at' es r) ∧ e1.length ≤ es.length + 2) Post := by
  refine Blk.cons (st := _) (ps_expr (pe_meth (pv 13) X.cl MU.me GU (hr.mono (by decide)) MU.b .nil pass0 (pa_cons (pe_lstD Tb' (pa_cons (pe_ix ix_DL (pv 11) pe_int (fun _ _ => rfl)) (pa_cons (pe_ix ix_DL (pv 12) pe_int (fun _ _ => rfl)) pa_nil))) pa_nil))) (fun D N hN => ?_) R
  rintro σ H ⟨bd, av, eb, es, cs, ks, f1, f2, p1, p2, n1, n2, b1, dl1, dc1, b2, dl2, dc2, e1, c1, e2, c2, o6, o8, o9, o10, o15, rfl, U, hl, hat, hlen⟩
  have esl := U.S.len
  obtain ⟨dx, _, _, hb, _⟩ := id U.B1.ins
  have nsp : ∀ {p : Pl}, at' es p = none → p ≠ x.sp := fun {p} e z => by
    have := U.S.sd
    rw [← z, e] at this
    cases this
  refine ⟨_, rfl, b1, dx, _, rfl, hb, bd_m (by decide +kernel), _, rfl, [pd p1, n1], 0, pd p1, .inr U.h1, rfl, pair_0 _ _, fun y1 hy1 => ⟨_, rfl, [pd p2, n2], 0, pd p2, .inr U.h2, rfl, pair_0 _ _, fun y2 hy2 => ⟨[pd p1, pd p2], .cons hy1 (.cons hy2 .nil), sz2, fun l H1 nl g1 L1 => ?_⟩⟩⟩
  have U1 := U.up g1
  refine ⟨x.H0, b1, x.ts, x.T, x.sp, x.sn, dl1, dc1, e1, c1, [p1, p2], .ref l, rfl, U1.B1, U1.C1, U1.S.W, L1.ls, fun q hq => ?_, by show 2 ≤ 60; decide, by omega, fun nn H2 e' c' g2 B' C' hat' _ => hN _ _ ⟨bd, av, eb, es, cs, ks, f1, f2, p1, p2, n1, n2, b1, dl1, dc1, b2, dl2, dc2, e', c', e2, c2, _, _, _, _, _, rfl, U1.one g2 B' C', hl, fun r => ?_⟩⟩
  · rcases List.mem_cons.mp hq with z | z
    · rw [z]; exact nsp U.m1.1
    · rw [List.mem_singleton.mp z]; exact nsp U.m2.1
  · rw [hat']
    by_cases h1 : r = p1
    · rw [if_pos (by rw [h1]; simp), h1, U.m1.1]
    · by_cases h2 : r = p2
      · rw [if_pos (by rw [h2]; simp), h2, U.m2.1]
      · rw [if_neg (by simp [h1, h2]), hat r h1 h2]
theorem law_5g (Tb' : Tb) (X : TxtB K mg CB) (hr : Room 10 (A.deeper (envOfC "law" (defScope sLaw) s.heap.objs.size f cdv)))
    (FA : TopF K mg "_law_t2_alike" sAlike ["_law_one", "_law_two"] fA fdA) (GA : FnOk P w K mg base CX0 2 fA fdA ["_law_one", "_law_two"] (spAlike K w Tb' CB))
    {x : Fx} {M L : Nat} :
    Blk (XL P w K mg base f cdv A outer s Hs E) (lawI.drop 6) (T5 K w Tb' CT CS CB x M L fun es p1 n1 p2 n2 e1 e2 => Eqv e1 es) (T0 K w Tb' CT CS CB x M L) := by
  refine Blk.cons (st := _) (Mid := T0 K w Tb' CT CS CB x M L) (ps_if (pt_not (pt_val (pe_call GA (hr.mono (by decide)) (by rfl) FA.mg FA.fn.kp FA.b .nil pass0 (pa_cons (pv 13) (pa_cons (pv 5) pa_nil))))) (pss_one (ps_ret pe_bl)) pss_nil) (fun D N hN => ?_) Blk.nil
  rintro σ H ⟨bd, av, eb, es, cs, ks, f1, f2, p1, p2, n1, n2, b1, dl1, dc1, b2, dl2, dc2, e1, c1, e2, c2, o6, o8, o9, o10, o15, rfl, U, hl, heq⟩
  exact ⟨_, rfl, _, rfl, x.H0, x.ts, x.T, b1, dl1, dc1, x.b, x.dl, x.dc, x.sp, x.sp, x.sn, x.sn, e1, c1, es, cs, rfl, U.B1, U.C1, U.S.B, U.S.C, U.S.W.ok, heq, fun H1 g1 => ⟨true, rfl, iteF (hN _ _ ⟨bd, eb, es, cs, _, _, _, _, _, _, _, _, _, _, rfl, U.S.up g1, hl⟩)⟩⟩
end
end TG

/-! The law: the turn's end. -/
namespace TG
open PySem PySem.Spec L2 TGr LamX
open PyProof.Rows hiding St
abbrev lawJ : List Stmt := ifB (lawB.getD 6 (.Pass ⟨0, 0, 0, 0⟩))
section
variable {P : Program} {w : World} {K : PySem.W.Frag} {mg : Str → Option Value} {base : Heap} {f fD fK fZ fY fA fL fP fM fT fS fQ fN fC fU : Addr} {fd fdD fdK fdZ fdY fdA fdL fdP fdM fdT fdS fdQ fdN fdC fdU : FuncData} {CT CS CB : Addr} {cdv : Value}
variable {A : Around} {outer : List Env} {s : Shared} {Hs : Hp} {E : XK} {Post : L2.St → Hp → Prop}
theorem law_5 (Tb' : Tb) (B : Blt mg) (hr : Room 10 (A.deeper (envOfC "law" (defScope sLaw) s.heap.objs.size f cdv)))
    {x : Fx} {M L M' : Nat} (hM' : M ≤ M') (I : Blk (XL P w K mg base f cdv A outer s Hs E) lawI (T2n K w Tb' CT CS CB x M L) (T0 K w Tb' CT CS CB x M' L))
    (R : Blk (XL P w K mg base f cdv A outer s Hs E) (lawB.drop 6) (T0 K w Tb' CT CS CB x M' L) Post) :
    Blk (XL P w K mg base f cdv A outer s Hs E) (lawB.drop 5) (T2 K w Tb' CT CS CB x M L) Post := by
  obtain ⟨t, h, q⟩ := I
  refine Blk.cons (st := _) (ps_if (pt_cmpR op_gt (pe_callB call_lenL (by rfl) B.len boot_len (pa_cons (pv 7) pa_nil)) pe_int (nomark _)) h pss_nil) (fun D N hN => ?_) R
  rintro σ H ⟨bd, av, eb, es, cs, ks, o6, o8, o9, o10, o11, o12, o13, o14, o15, rfl, S, hl, hmc, hd⟩
  refine ⟨_, rfl, _, .ref av, rfl, .inr hd, _, _, rfl, rfl, _, rfl, ?_⟩
  by_cases c : (0 : Int) < ((mcL x.T es ks).length : Int)
  · refine iteTp c (q D N hN _ _ ⟨bd, av, eb, es, cs, ks, _, _, _, _, _, _, _, _, _, rfl, S, hl, hmc, hd, fun z => ?_⟩)
    rw [z] at c
    exact absurd c (by decide)
  · exact iteFp c (hN _ _ ⟨bd, eb, es, cs, _, _, _, _, _, _, _, _, _, _, rfl, S.le hM', hl⟩)
theorem law_6 (Tb' : Tb) (B : Blt mg) (X : TxtB K mg CB) (hr : Room 10 (A.deeper (envOfC "law" (defScope sLaw) s.heap.objs.size f cdv)))
    (MU : MetF K CB "cut" "Bed.cut" sCut ["self", "places"] fU fdU) (GU : FnOk P w K mg base CX0 8 fU fdU ["self", "places"] (spCut K w Tb' CT CS CB))
    (MP : MetF K CB "pairs" "Bed.pairs" sPairs ["self"] fP fdP) (GP : FnOk P w K mg base CX0 1 fP fdP ["self"] (spPairs K w Tb' CB))
    {x : Fx} {M L : Nat} (hL : L ≤ 60) :
    Blk (XL P w K mg base f cdv A outer s Hs E) (lawB.drop 6) (T0 K w Tb' CT CS CB x M L) (T0 K w Tb' CT CS CB x M L) := by
  have hu := hu_of hr
  refine Blk.cons (st := _) (Mid := T0 K w Tb' CT CS CB x M L) (ps_if (pt_cmpR op_gt (pe_callB call_lenDD (by rfl) B.len boot_len (pa_cons (pv 4) pa_nil)) pe_int (nomark _))
      (pss_cons (ps_set (i := 15) scLaw.nd rfl (.inl rfl) (pe_slice (sl_D Tb') (pe_lc (own := [("_law_place", 8)]) (g := gName 8) (tt := tTest (tOp (rNeT K) (tVar 8) (tDGet (tVar 2) (tC (.str "seed"))))) (te := tVar 8) (by rfl) scLaw.nd
            (pi_list (pe_callB (cr_sortP Tb' (Room.units10 hr)) (by rfl) B.sorted boot_sorted (pa_cons (pe_callTy (call_listDD Tb' hr.hd) (by rfl) B.list (by decide +kernel) (pa_cons (pv 4) pa_nil)) pa_nil)))
            (blkOk_by (own := [("_law_place", 8)]) (N := nLaw) (sc := defScope sLaw) (by decide +kernel)) (fun _ _ _ _ _ => pg_name (i := 8) scLaw.nd rfl (Or.inl rfl))
            (fun _ _ _ _ _ => pts_one (pt_cmpR (op_neT hr.units) (pv 8) (pe_dget hu (pv 2) pe_str (fun _ _ => rfl)) (nomark _))) (fun _ _ _ _ _ => pv 8)) po_none (po_some pe_int)))
      (pss_cons (ps_expr (pe_meth (pv 5) X.cl MU.me GU (hr.mono (by decide)) MU.b .nil pass0 (pa_cons (pv 15) pa_nil)))
      (pss_cons (ps_set (i := 4) scLaw.nd rfl (.inl rfl) (pe_dnew Tb'))
      (pss_one (ps_for PassesOwn.never rfl (pi_tup (pe_meth0 (pv 5) X.cl MP.me GP (hr.mono (by decide)) MP.b .nil pass0)) (pg_tup (by rfl) (pgs_cons (pg_name (i := 8) scLaw.nd rfl (.inl rfl)) (pgs_cons (pg_name (i := 9) scLaw.nd rfl (.inl rfl)) pgs_nil)))
        (pss_one (ps_asg (pv 9) (pg_sub (pv 4) (pv 8) (put_D Tb' (Room.u9 hr)))))))))) pss_nil) (fun D N hN => ?_) Blk.nil
  rintro σ H ⟨bd, eb, es, cs, o6, o7, o8, o9, o10, o11, o12, o13, o14, o15, rfl, S, hl⟩
  have esl := S.len
  refine ⟨_, rfl, bd, eb, rfl, S.L.d.toD, _, _, rfl, rfl, _, rfl, ?_⟩
  by_cases c : (20 : Int) < (eb.length : Int)
  rotate_left
  · exact iteFp c (hN _ _ ⟨bd, eb, es, cs, _, _, _, _, _, _, _, _, _, _, rfl, S, hl⟩)
  obtain ⟨ps, hps⟩ := S.L.bo.key
  have lps : ps.length = eb.length := by simpa using (congrArg List.length hps).symm
  refine iteTp c ⟨_, rfl, bd, eb, rfl, S.L.d.toD, fun p1 H1 xs np1 g1 l1 a1 => ⟨ps, .ref p1, rfl, ⟨p1, xs, rfl, .inl (.inl l1), hps ▸ a1⟩, fun p2 H2 n2 g2 L2 => ?_⟩⟩
  have S2 := S.up (g1.trans g2)
  refine ⟨p2, rfl, (let ⟨ys, h, _⟩ := L2.ex; ⟨ys, .inl (.inl h)⟩), fun D' nD => ?_⟩
  obtain ⟨gd, od, cd, vn, vs, eo, w1, w2, w3, w4, w5, w6, w7⟩ := id S2.OH.ex
  refine lc_D (K := K) Tb' (walk_L (ds := (ps.mergeSort plLe).map pd)) nD (fun i ds H3 => Go Tb' [D'] H2 H3 ∧ ∃ qs : List Pl, ds = qs.map pd ∧ qs.length ≤ i ∧ ∀ q ∈ qs, q ≠ x.sp) (fun H3 g _ => ⟨g.up, [], rfl, Nat.le_refl _, fun _ z => nomatch z⟩) (fun i ds H3 _ ⟨g, _⟩ => (L2.go g fun z => L2.ne nD (List.mem_singleton.mp z)).ls) ?_ ?_
  · rintro i ds y H3 H3' hi ⟨g3, qs, rfl, hq, hqs⟩ D3 ⟨rfl, d, hd, hy⟩
    obtain ⟨r, hr', rfl⟩ : ∃ r, (ps.mergeSort plLe)[i]? = some r ∧ pd r = d := by
      rw [List.getElem?_map] at hd
      obtain ⟨r, h1, h2⟩ := Option.map_eq_some_iff.mp hd
      exact ⟨r, h1, h2⟩
    have hi60 : i < 60 := by
      rw [List.length_map, List.length_mergeSort] at hi
      omega
    have g3' := g3.drop nD
    refine ⟨rfl, _, rfl, _, rfl, x.ow, _, rfl, DGet.of (g3'.dK w1 (by simp)) ok_seed, pd r, pd x.sp, hy, g3'.dat w6, pd_depth60 _, pd_depth60 _, _, rfl, ?_⟩
    by_cases cr : r = x.sp
    · rw [decide_eq_true (show pd r = pd x.sp by rw [cr])]
      exact iteF ⟨qs.map pd, ⟨g3, qs, rfl, by omega, hqs⟩, D3⟩
    · rw [decide_eq_false fun z => cr (pd_inj z)]
      refine iteT ⟨_, rfl, lcN Tb' D3 hy (lsz (by rw [List.length_map]; omega)) fun H5 g5 L5 => ⟨g3.trans g5, qs ++ [r], by rw [List.map_append]; rfl, by rw [List.length_append, List.length_singleton]; omega, fun q hq => ?_⟩⟩
      rcases List.mem_append.mp hq with z | z
      · exact hqs q z
      · rw [List.mem_singleton.mp z]; exact cr
  · rintro ds H3 ⟨g3, qs, rfl, hq, hqs⟩ D3
    rw [List.length_map, List.length_mergeSort] at hq
    have S3 := S2.up (g3.drop nD)
    refine ⟨_, rfl, _, D3.ls, fun p4 H4 n4 g4 L4 => ?_⟩
    have S4 := S3.up g4
    obtain ⟨qs4, e4, l4, h4⟩ : ∃ qs4 : List Pl, cutL (qs.map pd) none (some 12) = qs4.map pd ∧ qs4.length ≤ qs.length ∧ ∀ q ∈ qs4, q ≠ x.sp := by
      unfold cutL
      rw [← List.map_drop, ← List.map_take]
      refine ⟨_, rfl, ?_, fun q hq => hqs q (List.mem_of_mem_drop (List.mem_of_mem_take hq))⟩
      rw [List.length_take, List.length_drop]
      omega
    rw [e4] at L4
    obtain ⟨dx, _, _, hb, _⟩ := id S4.B.ins
    refine ⟨_, rfl, x.b, dx, _, rfl, hb, bd_m (by decide +kernel), _, rfl, x.H0, x.b, x.ts, x.T, x.sp, x.sn, x.dl, x.dc, es, cs, qs4, .ref p4, rfl, S4.B, S4.C, S4.W, L4.ls, h4, by omega, by omega, fun nn H5 es5 cs5 g5 B5 C5 hat5 hl5 => ?_⟩
    intro bd' H6 nb' g6 W6
    have P5 := S4.P.goD g5 S4.B.L S4.B.C
    have W5 : Wo K w Tb' CT CS x.ts x.T x.H0 H5 := S4.W.step g5 fun a ha => by
      rcases List.mem_cons.mp ha with e | e
      · rw [e]; exact S4.B.nl
      · rw [List.mem_singleton.mp e]; exact S4.B.nc
    have B6 := B5.up g6
    obtain ⟨dx6, _, _, hb6, _⟩ := id B6.ins
    refine ⟨_, rfl, x.b, dx6, _, rfl, hb6, bd_m (by decide +kernel), x.H0, x.b, x.ts, x.T, x.sp, x.sn, x.dl, x.dc, es5, cs5, rfl, B6, fun a7 ps7 H7 e7 g7 d7 => ?_⟩
    have sd5 : at' es5 x.sp = some x.sn := by
      rw [hat5, if_neg fun z => h4 _ z rfl]
      exact S4.sd
    have l7 : (ps7.mergeSort plLe).length = es5.length := by
      rw [List.length_mergeSort]
      simpa using (congrArg List.length e7).symm
    obtain ⟨ks7, ek7⟩ : ∃ ks7, ks7 = ps7.mergeSort plLe := ⟨_, rfl⟩
    have km7 : ∀ p, p ∈ ks7 ↔ (at' es5 p).isSome = true := fun p => by rw [ek7, sorted_mem, mem_keys e7]
    rw [← ek7] at d7 l7
    have D7 := W6.go g7 (by simp)
    have n1' : bd' ≠ x.dl := (B5.L.ne nb').symm
    have n2' : bd' ≠ x.dc := (B5.C.ne nb').symm
    obtain ⟨_, _, ea, sa, _⟩ := d7.tupI
    cases ea
    refine ⟨a7, rfl, ⟨_, sa⟩, for_it (walk_Tp (ds := prL es5 ks7)) (fun i σ H8 => ∃ (e8 : Es) (o8 o9 : Option V), σ = [some (.ref x.a), some (.ref x.pn), some (.ref x.ow), some (.ref x.ts), some (.ref bd'), some (.ref x.b), o6, o7, o8, o9, o10, o11, o12, o13, o14, some (.ref p4)] ∧ Go Tb' [bd'] H7 H8 ∧ DicW K w H8 bd' e8 ∧ BedOk x.T e8 ∧ e8.length ≤ i ∧ ∀ r, at' e8 r = if r ∈ ks7.take i then at' es5 r else none) ⟨[], _, _, rfl, .refl, D7, .nil _, Nat.le_refl _, fun r => by simp [at', look]⟩ (fun i σ H8 _ ⟨_, _, _, _, g, _⟩ => g.dat d7) ?_ ?_⟩
    · rintro i z σ H8 H8' hi ⟨e8, o8, o9, rfl, g8, D8, bo8, hl8, hat8⟩ ⟨rfl, d, hd, hz⟩
      have hi' : i < ks7.length := by unfold prL at hi; simpa using hi
      obtain ⟨r, hr', rfl⟩ : ∃ r, ks7[i]? = some r ∧ NestedKey.tup [pd r, (at' es5 r).getD .none] = d := by
        unfold prL at hd
        rw [List.getElem?_map] at hd
        obtain ⟨r, h1, h2⟩ := Option.map_eq_some_iff.mp hd
        exact ⟨r, h1, h2⟩
      obtain ⟨n, hn⟩ := Option.isSome_iff_exists.mp ((km7 r).mp (List.mem_of_getElem? hr'))
      rw [hn] at hz
      obtain ⟨pa, y1, y2, rfl, hs, hy1, hy2⟩ := hz.two
      refine ⟨pa, _, rfl, hs, rfl, _, _, rfl, _, _, rfl, rfl, ?_⟩
      refine ⟨_, rfl, _, rfl, _, rfl, bd', e8, pd r, n, rfl, D8, hy1, pd_depth r, hy2, lsz (by omega), fun H9 g9 W9 => ⟨_, _, _, rfl, g8.trans g9, W9, bo8.put (B5.bo.nam _ _ hn), Nat.le_trans (putD_len _ _ _) (by omega), fun r' => ?_⟩⟩
      rw [at_put, hat8, List.take_succ, hr']
      by_cases cr : r' = r
      · rw [if_pos cr, if_pos (by simp [cr]), cr, hn]
      · rw [if_neg cr]
        simp [cr]
    · rintro σ H8 ⟨e8, o8, o9, rfl, g8, D8, bo8, hl8, hat8⟩
      have lpr : (prL es5 ks7).length = ks7.length := by unfold prL; rw [List.length_map]
      rw [lpr] at hl8 hat8
      rw [List.take_length] at hat8
      have g58 : Go Tb' [] H5 H8 := ((g6.trans g7).up.trans g8).drop nb'
      refine hN _ _ ⟨bd', e8, es5, cs5, _, _, _, _, _, _, _, _, _, _, rfl, { P := P5.up g58, W := W5.up g58, O := S4.O, B := B5.up g58, C := C5, L := ⟨D8, bo8, by omega⟩, np := S4.np, nb := W5.go.nw (.none nb') (by simp), n1 := n1', n2 := n2', on := S4.on, ol := S4.ol, cl2 := S4.cl2, eq := fun r => ?_, sd := sd5 }, by omega⟩
      rw [hat8]
      by_cases cr : r ∈ ks7
      · rw [if_pos cr]
      · rw [if_neg cr]
        cases e : at' es5 r with
        | none => rfl
        | some m => exact absurd ((km7 r).mpr (by rw [e]; rfl)) cr
end
end TG

/-! The law, whole. -/
namespace TG
open PySem PySem.Spec L2 TGr LamX
open PyProof.Rows hiding St
theorem T0.le {K : PySem.W.Frag} {w : World} {Tb' : Tb} {CT CS CB : Addr} {x : Fx} {M M' L L' : Nat} (hM : M ≤ M') (hL : L ≤ L') (σ : L2.St) (H : Hp) (h : T0 K w Tb' CT CS CB x M L σ H) : T0 K w Tb' CT CS CB x M' L' σ H := by
  obtain ⟨bd, eb, es, cs, o6, o7, o8, o9, o10, o11, o12, o13, o14, o15, rfl, S, hl⟩ := h
  exact ⟨bd, eb, es, cs, _, _, _, _, _, _, _, _, _, _, rfl, S.le hM, Nat.le_trans hl hL⟩
/-- all that is known of a block -/
def tMax (X : Cx) (ss : List Stmt) : TS := fun D σ H => ∃ t, PSs X ss t ∧ t D σ H
theorem pss_max (X : Cx) (ss : List Stmt) : PSs X ss (tMax X ss) := ⟨fun pins s σ H D I ⟨t, h, q⟩ => h.run pins s σ H D I q⟩
section
variable {P : Program} {w : World} {K : PySem.W.Frag} {mg : Str → Option Value} {base : Heap} {f fD fK fZ fY fA fL fP fM fT fS fQ fN fC fU fW fG fI fE cW : Addr} {fd fdD fdK fdZ fdY fdA fdL fdP fdM fdT fdS fdQ fdN fdC fdU fdW fdG fdI fdE : FuncData} {CT CS CB : Addr} {cdv : Value}
variable {A : Around} {outer : List Env} {s : Shared} {Hs : Hp} {E : XK}
theorem law_turn (Tb' : Tb) (B : Blt mg) (X : TxtB K mg CB) (hr : Room 10 (A.deeper (envOfC "law" (defScope sLaw) s.heap.objs.size f cdv)))
    (FD : TopF K mg "_law_draw" sDraw ["_law_pen_here", "_law_many"] fD fdD) (FK : TopF K mg "_law_pick" sPick ["_law_pen_here", "_law_some"] fK fdK) (FZ : TopF K mg "_law_shuffled" sShuf ["_law_pen_here", "_law_some"] fZ fdZ)
    (FY : TopF K mg "_law_t2_disturb" sDis ["_law_pen_here", "_law_own", "_law_bed", "_law_told", "_law_many"] fY fdY) (GY : FnOk P w K mg base CX0 9 fY fdY ["_law_pen_here", "_law_own", "_law_bed", "_law_told", "_law_many"] (spDis K w Tb' CT CS CB))
    (FA : TopF K mg "_law_t2_alike" sAlike ["_law_one", "_law_two"] fA fdA) (GA : FnOk P w K mg base CX0 2 fA fdA ["_law_one", "_law_two"] (spAlike K w Tb' CB))
    (FL : TopF K mg "_law_t2_laid" sLaid ["_law_made", "_law_own", "_law_pairs"] fL fdL) (GL : FnOk P w K mg base CX0 10 fL fdL ["_law_made", "_law_own", "_law_pairs"] (spLaid K w Tb' CT CS CB))
    (MP : MetF K CB "pairs" "Bed.pairs" sPairs ["self"] fP fdP) (GP : FnOk P w K mg base CX0 1 fP fdP ["self"] (spPairs K w Tb' CB))
    (MM : MetF K CB "may_come" "Bed.may_come" sMay ["self"] fM fdM) (GM : FnOk P w K mg base CX0 1 fM fdM ["self"] (spMay K w Tb' CB))
    (FN : TopF K mg "_law_t2_near" sNear ["_law_pen_here", "_law_own", "_law_bed"] fN fdN) (GN : FnOk P w K mg base CX0 3 fN fdN ["_law_pen_here", "_law_own", "_law_bed"] (spNear K w Tb'))
    (MT : MetF K CB "twin" "Bed.twin" sTwin ["self"] fT fdT) (GT : FnOk P w K mg base CX0 10 fT fdT ["self"] (spTwin K w Tb' CT CS CB))
    (MS : MetF K CB "slip" "Bed.slip" sSlip ["self", "place", "name"] fS fdS) (GS : FnOk P w K mg base CX0 8 fS fdS ["self", "place", "name"] (spPut K w Tb' CT CS CB false))
    (MC : MetF K CB "come" "Bed.come" sCome ["self", "place", "name"] fC fdC) (GC : FnOk P w K mg base CX0 8 fC fdC ["self", "place", "name"] (spPut K w Tb' CT CS CB true))
    (MU : MetF K CB "cut" "Bed.cut" sCut ["self", "places"] fU fdU) (GU : FnOk P w K mg base CX0 8 fU fdU ["self", "places"] (spCut K w Tb' CT CS CB))
    (FQ : TopF K mg "_law_t2_stays" sStays ["_law_before", "_law_behind", "_law_place"] fQ fdQ) (GQ : FnOk P w K mg base CX0 1 fQ fdQ ["_law_before", "_law_behind", "_law_place"] (spStays K Tb'))
    {x : Fx} {M L : Nat} (hM : M + 4000 ≤ 1000000000) (hL : L + 4 ≤ 60) :
    Blk (XL P w K mg base f cdv A outer s Hs E) lawB (T0 K w Tb' CT CS CB x M L) (T0 K w Tb' CT CS CB x (M + 200) (L + 4)) := by
  have GD : FnOk P w K mg base CX0 1 fD fdD ["_law_pen_here", "_law_many"] (spDraw Tb') := ok_draw Tb' FD B
  have GK : FnOk P w K mg base CX0 2 fK fdK ["_law_pen_here", "_law_some"] (spPick K Tb') := ok_pick Tb' FK B FD
  have GZ : FnOk P w K mg base CX0 2 fZ fdZ ["_law_pen_here", "_law_some"] (spShuf K Tb') := ok_shuf Tb' FZ B FD
  have h5 : ∀ M, M + 3000 ≤ 1000000000 → Blk (XL P w K mg base f cdv A outer s Hs E) lawI (T2n K w Tb' CT CS CB x M (L + 4)) (T0 K w Tb' CT CS CB x (M + 2) (L + 4)) := fun M hM =>
    law_5a Tb' hr FK GK hM hL (law_5b Tb' X hr MT GT (law_5c Tb' X hr MC GC hL (law_5d Tb' X hr MM GM FQ GQ (law_5e Tb' X hr MC GC FA GA hL (law_5f Tb' X hr MU GU hL (law_5g Tb' X hr FA GA))))))
  refine (law_0 Tb' B hr FD GD FY GY (by omega) hL (law_1 Tb' B X hr FZ GZ FA GA FL GL MP GP (by omega) hL (law_2 Tb' X hr MM GM (law_3 Tb' B hr FN GN FK GK (by omega) (law_4 Tb' X hr MT GT MS GS MM GM FQ GQ hL (law_5 Tb' B hr (M' := M + 81 + (L + 4) + 11 + 2) (by omega) (h5 _ (by omega)) (law_6 Tb' B X hr MU GU MP GP hL))))))).imp (fun _ _ h => h) (T0.le (by omega) (Nat.le_refl _))
/-! ### the law -/
def spLaw (K : PySem.W.Frag) (T : Tb) : Sp := fun vs H Q _ => ∃ (a : Addr) (ns : List Int), vs = [.ref a] ∧ SqL K H a (ns.map V.int) ∧ ns.length ≤ 63 ∧ Tabs T H ∧ ∀ H', Q (.bl true) H'
theorem ok_law (Tb' : Tb) (F : TopF K mg "law" sLaw ["_law_script"] f fd) (B : Blt mg) (X : TxtB K mg CB)
    (FE : TopF K mg "_law_pen" sPen ["_law_script"] fE fdE)
    (FD : TopF K mg "_law_draw" sDraw ["_law_pen_here", "_law_many"] fD fdD) (FK : TopF K mg "_law_pick" sPick ["_law_pen_here", "_law_some"] fK fdK) (FZ : TopF K mg "_law_shuffled" sShuf ["_law_pen_here", "_law_some"] fZ fdZ)
    (mW : mg "_law_t2_world" = some (.ref fW)) (FW : FunC K "_law_t2_world" "_law_t2_world" sWor fW fdW cW) (bW : Binds K fdW ["_law_pen_here", "_law_many", "_law_mixture"] []) (GW : FnG P w K mg base 5 fW fdW ["_law_pen_here", "_law_many", "_law_mixture"] (spWor K w Tb'))
    (FG : TopF K mg "_law_t2_tile_set" sMade ["_law_pen_here", "_law_own"] fG fdG) (GG : FnG P w K mg base 6 fG fdG ["_law_pen_here", "_law_own"] (spMade K w Tb' CT CS))
    (MI : Mk K CB fI) (BI : Binds K fdI ["self", "tile_set", "seed_place", "seed_name"] []) (GI : FnOk P w K mg base CX0 8 fI fdI ["self", "tile_set", "seed_place", "seed_name"] (spBI K w Tb' CT CS CB))
    (FY : TopF K mg "_law_t2_disturb" sDis ["_law_pen_here", "_law_own", "_law_bed", "_law_told", "_law_many"] fY fdY) (GY : FnOk P w K mg base CX0 9 fY fdY ["_law_pen_here", "_law_own", "_law_bed", "_law_told", "_law_many"] (spDis K w Tb' CT CS CB))
    (FA : TopF K mg "_law_t2_alike" sAlike ["_law_one", "_law_two"] fA fdA) (GA : FnOk P w K mg base CX0 2 fA fdA ["_law_one", "_law_two"] (spAlike K w Tb' CB))
    (FL : TopF K mg "_law_t2_laid" sLaid ["_law_made", "_law_own", "_law_pairs"] fL fdL) (GL : FnOk P w K mg base CX0 10 fL fdL ["_law_made", "_law_own", "_law_pairs"] (spLaid K w Tb' CT CS CB))
    (MP : MetF K CB "pairs" "Bed.pairs" sPairs ["self"] fP fdP) (GP : FnOk P w K mg base CX0 1 fP fdP ["self"] (spPairs K w Tb' CB))
    (MM : MetF K CB "may_come" "Bed.may_come" sMay ["self"] fM fdM) (GM : FnOk P w K mg base CX0 1 fM fdM ["self"] (spMay K w Tb' CB))
    (FN : TopF K mg "_law_t2_near" sNear ["_law_pen_here", "_law_own", "_law_bed"] fN fdN) (GN : FnOk P w K mg base CX0 3 fN fdN ["_law_pen_here", "_law_own", "_law_bed"] (spNear K w Tb'))
    (MT : MetF K CB "twin" "Bed.twin" sTwin ["self"] fT fdT) (GT : FnOk P w K mg base CX0 10 fT fdT ["self"] (spTwin K w Tb' CT CS CB))
    (MS : MetF K CB "slip" "Bed.slip" sSlip ["self", "place", "name"] fS fdS) (GS : FnOk P w K mg base CX0 8 fS fdS ["self", "place", "name"] (spPut K w Tb' CT CS CB false))
    (MC : MetF K CB "come" "Bed.come" sCome ["self", "place", "name"] fC fdC) (GC : FnOk P w K mg base CX0 8 fC fdC ["self", "place", "name"] (spPut K w Tb' CT CS CB true))
    (MU : MetF K CB "cut" "Bed.cut" sCut ["self", "places"] fU fdU) (GU : FnOk P w K mg base CX0 8 fU fdU ["self", "places"] (spCut K w Tb' CT CS CB))
    (FQ : TopF K mg "_law_t2_stays" sStays ["_law_before", "_law_behind", "_law_place"] fQ fdQ) (GQ : FnOk P w K mg base CX0 1 fQ fdQ ["_law_before", "_law_behind", "_law_place"] (spStays K Tb')) :
    FnG P w K mg base 11 f fd ["_law_script"] (spLaw K Tb') := by
  have GD : FnOk P w K mg base CX0 1 fD fdD ["_law_pen_here", "_law_many"] (spDraw Tb') := ok_draw Tb' FD B
  have GE : FnOk P w K mg base CX0 1 fE fdE ["_law_script"] (spPen K Tb') := ok_pen Tb' FE B
  refine Fun.okG F.fn scLaw (fun vs H Q E h => ?_) (fun cdv A outer s H vs Q E hr hgd h => ?_)
  · obtain ⟨a, _, rfl, _⟩ := h
    rfl
  · obtain ⟨a, ns, rfl, hs, hns, hT, q⟩ := h
    have hu := hu_of hr
    have turn : ∀ {x : Fx} {M L : Nat}, M + 4000 ≤ 1000000000 → L + 4 ≤ 60 → Blk (XL P w K mg base f cdv A outer s H E) lawB (T0 K w Tb' CT CS CB x M L) (T0 K w Tb' CT CS CB x (M + 200) (L + 4)) := fun hM hL => law_turn Tb' B X hr FD FK FZ FY GY FA GA FL GL MP GP MM GM FN GN MT GT MS GS MC GC MU GU FQ GQ hM hL
    have st5 : Tail (XL P w K mg base f cdv A outer s H E) ((defBody sLaw).drop 5) { nx := fun _ H' => Q .non H', rt := Q } (fun _ _ => True) := ⟨_, pss_one (ps_ret pe_bl), fun σ H1 _ => q H1⟩
    have st4 : Tail (XL P w K mg base f cdv A outer s H E) ((defBody sLaw).drop 4) { nx := fun _ H' => Q .non H', rt := Q } (fun σ H1 => ∃ x : Fx, x.a = a ∧ T0 K w Tb' CT CS CB x 4000 1 σ H1 ∧ SqL K H1 a (ns.map V.int)) := by
      refine Tail.cons (st := _) (ps_for PassesOwn.never rfl (pi_range1 rfl B.range (pa_cons (pe_op op_add pe_int (pe_op op_fdiv (pe_callB call_len_seq (by rfl) B.len boot_len (pa_cons (pv 0) pa_nil)) pe_int)) pa_nil)) (pg_name (i := 6) scLaw.nd rfl (.inl rfl)) (pss_max _ _)) (fun N hN => ?_) st5
      rintro σ H1 ⟨x, ex, h0, hs1⟩
      obtain ⟨bd, eb, es, cs, o6, o7, o8, o9, o10, o11, o12, o13, o14, o15, rfl, S, hl⟩ := id h0
      refine ⟨_, rfl, a, ns.map V.int, by rw [ex], .inl hs1, _, _, rfl, rfl, ⟨by decide, by decide⟩, _, _, rfl, rfl, 4 + ((ns.map V.int).length : Int) / 8, rfl, by omega, ?_, ?_⟩
      · rw [List.length_map]; omega
      have hn11 : (4 + ((ns.map V.int).length : Int) / 8).toNat ≤ 11 := by rw [List.length_map]; omega
      generalize (4 + ((ns.map V.int).length : Int) / 8).toNat = n at hn11
      refine for_range (n := n) (fun i σ H2 => T0 K w Tb' CT CS CB x (4000 + 200 * i) (1 + 4 * i) σ H2) ?_ ?_ ?_
      · exact ⟨bd, eb, es, cs, _, _, _, _, _, _, _, _, _, _, rfl, S, hl⟩
      · intro i σ H2 hi h2
        obtain ⟨t, ht, qt⟩ := turn (x := x) (M := 4000 + 200 * i) (L := 1 + 4 * i) (by omega) (by omega)
        obtain ⟨bd, eb, es, cs, o6, o7, o8, o9, o10, o11, o12, o13, o14, o15, rfl, S, hl⟩ := h2
        exact ⟨t, ht, qt { nx := N, rt := Q, bk := N, ct := fun σ H2 => T0 K w Tb' CT CS CB x (4000 + 200 * (i + 1)) (1 + 4 * (i + 1)) σ H2 } _ (fun σ' H' h' => T0.le (M := 4000 + 200 * i + 200) (L := 1 + 4 * i + 4) (M' := 4000 + 200 * (i + 1)) (L' := 1 + 4 * (i + 1)) (by omega) (by omega) σ' H' h') _ _ ⟨bd, eb, es, cs, _, _, _, _, _, _, _, _, _, _, rfl, S, hl⟩⟩
      · exact fun σ H2 _ => hN σ H2 trivial
    have st3 : Tail (XL P w K mg base f cdv A outer s H E) ((defBody sLaw).drop 3) { nx := fun _ H' => Q .non H', rt := Q } (fun σ H1 => ∃ (pn cl ow ts : Addr) (m : Nat) (T0 : Ts) (sp : Pl) (sn : Dm) (cls : List Pl) (ms : List Dm), σ = [some (.ref a), some (.ref pn), some (.ref ow), some (.ref ts), none, none, none, none, none, none, none, none, none, none, none, none] ∧ PenB H1 pn cl m ∧ m ≤ 4000 ∧ ow ≠ pn ∧ OwnAt K w H1 ow T0 T0.ns sp sn cls ∧ T0.Ok ∧ cls.length ≤ 10 ∧ ms.Perm T0.ns ∧ TsAt K w CT CS H1 ts ⟨ms, T0.gl⟩ ∧ Tabs Tb' H1 ∧ SqL K H1 a (ns.map V.int)) := by
      refine Tail.cons (st := _) (ps_par (i := 4) (j := 5) (by rfl) scLaw.nd rfl rfl (by decide) rfl rfl (pa_cons (pe_dis1 Tb' (Room.u9 hr) (pe_dget hu (pv 2) pe_str (fun _ _ => rfl)) (pe_dget hu (pv 2) pe_str (fun _ _ => rfl))) (pa_cons (pe_make MI GI (hr.mono (by decide)) (by rfl) X.mg BI .nil pass0 (pa_cons (pv 3) (pa_cons (pe_dget hu (pv 2) pe_str (fun _ _ => rfl)) (pa_cons (pe_dget hu (pv 2) pe_str (fun _ _ => rfl)) pa_nil)))) pa_nil)) (by rfl)) (fun N hN => ?_) st4
      rintro σ H1 ⟨pn, cl, ow, ts, m, T0', sp, sn, cls, ms, rfl, hP, hm, opn, hO, hok, hcl, hper, hts, hT1, hs1⟩
      have gd0 := dropP_go (T := Tb') hP
      have ts0 := hts.goP gd0 hP
      have O0 : OwnAt K w (dropP H1 pn) ow ⟨ms, T0'.gl⟩ T0'.ns sp sn cls := let h := hO.goP gd0 hP opn; ⟨h.ex, h.sn⟩
      have W : Wo K w Tb' CT CS ts ⟨ms, T0'.gl⟩ (dropP H1 pn) H1 := ⟨ts0, dropP_back, hT1⟩
      have hsn : sn ∈ ms := hper.mem_iff.mpr hO.sn
      obtain ⟨gd, od, cd, vn, vs, eo, w1, w2, w3, w4, w5, w6, w7⟩ := id hO.ex
      intro bd H6 nbd g6 D6
      have w16 := g6.dK w1 (by simp)
      refine ⟨_, rfl, ow, _, rfl, DGet.of w16 ok_seed, _, rfl, ow, _, rfl, DGet.of w16 ok_name, pd sp, sn, D6, g6.dat w6, pd_depth sp, g6.dat w5, fun H7 g7 D7 => ?_⟩
      have g17 : Go Tb' [] H1 H7 := (g6.up.trans g7).drop nbd
      have w17 := g17.dK w1 (by simp)
      refine ⟨_, rfl, _, rfl, ow, _, rfl, DGet.of w17 ok_seed, _, rfl, ow, _, rfl, DGet.of w17 ok_name, fun b dx nb ndx ne => ?_⟩
      have gm : Go Tb' [] H7 (upd (upd H7 dx (.own b)) b (.ins CB dx [])) := (Go.new ndx).trans (.new (by rw [upd_ne ne.symm]; exact nb))
      have W7 := W.up g17
      refine ⟨dropP H1 pn, b, dx, ts, ⟨ms, T0'.gl⟩, sp, sn, vs, vn, rfl, upd_same, W7.go.nw (.none nb) (by simp), W7.up gm, gm.dat (g17.dat w6), hsn, gm.dat (g17.dat w5), fun dl dc cs H8 ndl ndc g8 B8 C8 => ⟨rfl, _, _, rfl, ?_⟩⟩
      have g78 : Go Tb' [] H7 H8 := (gm.up.trans g8).drop nb
      have g18 := g17.trans g78
      have D7m := D7.go gm (by simp)
      have e1 : ([(pd sp, sn)] : Es) = putD [] (pd sp) sn := rfl
      refine hN _ _ ⟨⟨dropP H1 pn, pn, cl, ow, ts, b, dl, dc, ⟨ms, T0'.gl⟩, T0'.ns, sp, sn, cls, a⟩, rfl, ⟨bd, [(pd sp, sn)], [(pd sp, sn)], cs, _, _, _, _, _, _, _, _, _, _, rfl,
        { P := (hP.up g18).le hm, W := W.up g18, O := O0, B := B8, C := C8, L := ⟨D7.go g78 (by simp), by rw [e1]; exact (BedOk.nil _).put hsn, by show 1 ≤ 60; decide⟩, np := .none dropP_at, nb := W.go.nw (.none nbd) (by simp), n1 := nw_dic D7m ndl, n2 := nw_dic D7m ndc, on := fun n => hper.mem_iff.symm, ol := hok.len, cl2 := Nat.le_trans hcl (by decide), eq := fun _ => rfl, sd := ?_ }, Nat.le_refl _⟩, g18.sqL hs1 (by simp)⟩
      rw [e1, at_put, if_pos rfl]
    have st2 : Tail (XL P w K mg base f cdv A outer s H E) ((defBody sLaw).drop 2) { nx := fun _ H' => Q .non H', rt := Q } (fun σ H1 => ∃ (pn cl ow : Addr) (T0 : Ts) (sp : Pl) (sn : Dm) (cls : List Pl), σ = [some (.ref a), some (.ref pn), some (.ref ow), none, none, none, none, none, none, none, none, none, none, none, none, none] ∧ PenB H1 pn cl 3500 ∧ ow ≠ pn ∧ OwnAt K w H1 ow T0 T0.ns sp sn cls ∧ T0.Ok ∧ (∀ n ∈ T0.ns, Shw n) ∧ cls.length ≤ 10 ∧ Tabs Tb' H1 ∧ SqL K H1 a (ns.map V.int)) := by
      refine Tail.cons (st := _) (ps_set (i := 3) scLaw.nd rfl (.inl rfl) (pe_callG (E := E0) GG (hr.mono (by decide)) hgd (by rfl) FG.mg FG.fn.kp FG.b (pa_cons (pv 1) (pa_cons (pv 2) pa_nil)))) (fun N hN => ?_) st3
      rintro σ H1 ⟨pn, cl, ow, T0', sp, sn, cls, rfl, hP, opn, hO, hok, hsh, hcl, hT1, hs1⟩
      exact ⟨_, rfl, _, rfl, pn, cl, ow, 3500, T0', sp, sn, cls, rfl, hP, opn, hO, hok, hsh, by decide, hT1, fun ts ms H2 hper g2 P2 hts => hN _ _ ⟨pn, cl, ow, ts, 3600, T0', sp, sn, cls, ms, rfl, P2, by decide, opn, hO.goP g2 hP opn, hok, hcl, hper, hts, g2.tabs hT1, sqL_goP hs1 g2 hP⟩⟩
    have st1 : Tail (XL P w K mg base f cdv A outer s H E) ((defBody sLaw).drop 1) { nx := fun _ H' => Q .non H', rt := Q } (fun σ H1 => ∃ (pn cl : Addr), σ = [some (.ref a), some (.ref pn), none, none, none, none, none, none, none, none, none, none, none, none, none, none] ∧ PenB H1 pn cl 0 ∧ Tabs Tb' H1 ∧ SqL K H1 a (ns.map V.int)) := by
      refine Tail.cons (st := _) (ps_set (i := 2) scLaw.nd rfl (.inr rfl) (pe_callG (E := E0) GW (hr.mono (by decide)) hgd (by rfl) mW FW.kp bW (pa_cons (pv 1) (pa_cons (pe_op op_add pe_int (pe_call GD (hr.mono (by decide)) (by rfl) FD.mg FD.fn.kp FD.b .nil pass0 (pa_cons (pv 1) (pa_cons pe_int pa_nil)))) (pa_cons (pe_call GD (hr.mono (by decide)) (by rfl) FD.mg FD.fn.kp FD.b .nil pass0 (pa_cons (pv 1) (pa_cons pe_int pa_nil))) pa_nil))))) (fun N hN => ?_) st2
      rintro σ H1 ⟨pn, cl, rfl, hP, hT1, hs1⟩
      refine ⟨_, rfl, _, rfl, pn, cl, 0, 7, rfl, hP, by decide, by decide, by decide, fun r1 H2 hr1 g2 P2 => ⟨_, _, rfl, rfl, _, rfl, pn, cl, 1, 3, rfl, P2, by decide, by decide, by decide, fun r2 H3 hr2 g3 P3 => ?_⟩⟩
      refine ⟨pn, cl, 2, 2 + r1, r2, ?_, P3, by omega, by omega, by decide, g3.tabs (g2.tabs hT1), fun ow T0' sp sn cls H4 now hok hsh hcl g4 P4 hO => hN _ _ ⟨pn, cl, ow, T0', sp, sn, cls, rfl, P4.le (by decide), (P3.nwp now).symm, hO, hok, hsh, hcl, g4.tabs (g3.tabs (g2.tabs hT1)), sqL_goP (sqL_goP (sqL_goP hs1 g2 hP) g3 P2) g4 P3⟩⟩
      show [V.ref pn, V.int (2 + (r1 : Int)), V.int (r2 : Int)] = _
      rw [show (2 : Int) + (r1 : Int) = ((2 + r1 : Nat) : Int) by omega]
    have st0 : Tail (XL P w K mg base f cdv A outer s H E) (defBody sLaw) { nx := fun _ H' => Q .non H', rt := Q } (fun σ H1 => σ = L2.start nLaw [.ref a] ∧ H1 = H) := by
      refine Tail.cons (st := _) (ps_set (i := 1) scLaw.nd rfl (.inl rfl) (pe_call GE (hr.mono (by decide)) (by rfl) FE.mg FE.fn.kp FE.b .nil pass0 (pa_cons (pv 0) pa_nil))) (fun N hN => ?_) st1
      rintro σ H1 ⟨rfl, rfl⟩
      exact ⟨_, rfl, a, ns, rfl, hs, fun pn cl H2 npn g2 P2 => hN _ _ ⟨pn, cl, rfl, P2, g2.tabs hT, g2.sqL hs (by simp)⟩⟩
    obtain ⟨t, h1, h2⟩ := st0
    exact ⟨t, h1, h2 _ _ ⟨rfl, rfl⟩⟩
end
end TG

/-! What the top has left, and the law's promise (printed by gen_end.py). -/
namespace TG
open PySem PySem.Spec L2 TGr LamX
open PyProof.Rows hiding St
section
variable {K : PySem.W.Frag} {mg : Str → Option Value} {h : Heap} {x qual : Str} {st : Stmt} {ps : List Str} {f C c : Addr} {oc kV doc pm cdv ct : Value} {od an : Option Addr} {osl : Array (Option Value)}
theorem topF_mk (X : K.In h) (G : h.Ns mainGlobals mg) (a : PySem.W.nsIn K mainGlobals x = some (some (.ref f))) (l : K.lookup f = some ⟨oc, od, .func (PySem.W.fnOf x x (defArgs st) (defBody st) (defScope st) .none kV doc pm an cdv ct), osl⟩) (c : PySem.W.codeIn K cdv x = true) (k : PySem.W.keepIn K (.ref f) = true)
    (hb : ∀ (kV doc pm : Value) (an : Option Addr) (cdv ct : Value) (us : List Value), us.length = ps.length → bindArgs (PySem.W.fnOf x x (defArgs st) (defBody st) (defScope st) .none kV doc pm an cdv ct) ⟨us, []⟩ = pure (ps.zip us)) : TopF K mg x st ps f (PySem.W.fnOf x x (defArgs st) (defBody st) (defScope st) .none kV doc pm an cdv ct) :=
  ⟨PySem.W.mg_of X G a, fun_mk l c k, (fun_mk l c k).binds hb⟩
theorem metF_mk (a : PySem.W.findIn K (.ref C) x = some (some (.ref f))) (i : PySem.W.isFn K (.ref f) = true) (l : K.lookup f = some ⟨oc, od, .func (PySem.W.fnOf x qual (defArgs st) (defBody st) (defScope st) .none kV doc pm an cdv ct), osl⟩) (c : PySem.W.codeIn K cdv qual = true) (k : PySem.W.keepIn K (.ref f) = true)
    (hb : ∀ (kV doc pm : Value) (an : Option Addr) (cdv ct : Value) (us : List Value), us.length = ps.length → bindArgs (PySem.W.fnOf x qual (defArgs st) (defBody st) (defScope st) .none kV doc pm an cdv ct) ⟨us, []⟩ = pure (ps.zip us)) : MetF K C x qual st ps f (PySem.W.fnOf x qual (defArgs st) (defBody st) (defScope st) .none kV doc pm an cdv ct) :=
  ⟨⟨a, i, k⟩, fun_mk l c k, (fun_mk l c k).binds hb⟩
theorem funC_mk (l : K.lookup f = some ⟨oc, od, .func (PySem.W.fnOf x qual (defArgs st) (defBody st) (defScope st) .none kV doc pm an (.ref c) ct), osl⟩) (c' : PySem.W.codeIn K (.ref c) qual = true) (k : PySem.W.keepIn K (.ref f) = true) : FunC K x qual st f (PySem.W.fnOf x qual (defArgs st) (defBody st) (defScope st) .none kV doc pm an (.ref c) ct) c :=
  ⟨⟨oc, od, kV, doc, pm, an, ct, osl, rfl, l, c'⟩, k⟩
end
abbrev qI : Str := "TileSet.__init__.<locals>." ++ "<lambda>"
abbrev qO : Str := "TileSet.in_order.<locals>." ++ "<lambda>"
abbrev qW : Str := "_law_t2_world.<locals>." ++ "<lambda>"
theorem tabS_nil {H : Hp} {p : Addr} {q : Str} (h : H p = some (.tbl #[])) : TabS H p q := ⟨#[], h, trivial, fun pos cv e => by cases e⟩
section
variable {P : Program} {w : World} {K : PySem.W.Frag} {mg : Str → Option Value} {base : Heap} {CT CS CB f_isInt f_isPl f_isGl f_ckPl f_ckSd f_bes f_pen f_draw f_pick f_shuf f_next f_dat f_pat f_edge f_out f_late f_made f_lb f_lf f_lm f_near f_dis f_alike f_stays f_laid f_law f_tiI f_tiG f_tsOf f_tsW f_bI f_pairs f_many f_bonds f_show f_fit f_may f_emp f_come f_slip f_cut f_lay f_twin f_tsI f_tsO f_wor c_tsI p_tsI c_tsO p_tsO c_wor p_wor : Addr} {d_isInt d_isPl d_isGl d_ckPl d_ckSd d_bes d_pen d_draw d_pick d_shuf d_next d_dat d_pat d_edge d_out d_late d_made d_lb d_lf d_lm d_near d_dis d_alike d_stays d_laid d_law d_tiI d_tiG d_tsOf d_tsW d_bI d_pairs d_many d_bonds d_show d_fit d_may d_emp d_come d_slip d_cut d_lay d_twin d_tsI d_tsO d_wor : FuncData}
theorem law_all (T : Tb) (B : Blt mg) (XT : TxtT K mg CT) (XS : TxtS K mg CS) (XB : TxtB K mg CB)
    (F_isInt : TopF K mg "is_integer" sIsInt ["value"] f_isInt d_isInt)
    (F_isPl : TopF K mg "is_place" sIsPl ["value"] f_isPl d_isPl)
    (F_isGl : TopF K mg "is_glue" sIsGl ["value"] f_isGl d_isGl)
    (F_ckPl : TopF K mg "check_place" sCkPl ["value"] f_ckPl d_ckPl)
    (F_ckSd : TopF K mg "check_side" sCkSd ["value"] f_ckSd d_ckSd)
    (F_bes : TopF K mg "beside" sBes ["place"] f_bes d_bes)
    (F_pen : TopF K mg "_law_pen" sPen ["_law_script"] f_pen d_pen)
    (F_draw : TopF K mg "_law_draw" sDraw ["_law_pen_here", "_law_many"] f_draw d_draw)
    (F_pick : TopF K mg "_law_pick" sPick ["_law_pen_here", "_law_some"] f_pick d_pick)
    (F_shuf : TopF K mg "_law_shuffled" sShuf ["_law_pen_here", "_law_some"] f_shuf d_shuf)
    (F_next : TopF K mg "_law_t2_next" sNext ["_law_place", "_law_side"] f_next d_next)
    (F_dat : TopF K mg "_law_t2_datum" sDat ["_law_pen_here", "_law_serial"] f_dat d_dat)
    (F_pat : TopF K mg "_law_t2_patch" sPat ["_law_pen_here", "_law_many"] f_pat d_pat)
    (F_edge : TopF K mg "_law_t2_edge_glues" sEdge ["_law_pen_here", "_law_cells", "_law_mixture"] f_edge d_edge)
    (F_out : TopF K mg "_law_t2_outer_glue" sOut ["_law_pen_here", "_law_mixture"] f_out d_out)
    (F_late : TopF K mg "_law_t2_late_rival" sLate ["_law_glues", "_law_cells", "_law_at"] f_late d_late)
    (F_made : TopF K mg "_law_t2_tile_set" sMade ["_law_pen_here", "_law_own"] f_made d_made)
    (F_lb : TopF K mg "_law_t2_bonds" sLB ["_law_own", "_law_bed", "_law_place", "_law_name"] f_lb d_lb)
    (F_lf : TopF K mg "_law_t2_fitting" sLF ["_law_own", "_law_bed", "_law_place"] f_lf d_lf)
    (F_lm : TopF K mg "_law_t2_may" sLM ["_law_own", "_law_bed"] f_lm d_lm)
    (F_near : TopF K mg "_law_t2_near" sNear ["_law_pen_here", "_law_own", "_law_bed"] f_near d_near)
    (F_dis : TopF K mg "_law_t2_disturb" sDis ["_law_pen_here", "_law_own", "_law_bed", "_law_told", "_law_many"] f_dis d_dis)
    (F_alike : TopF K mg "_law_t2_alike" sAlike ["_law_one", "_law_two"] f_alike d_alike)
    (F_stays : TopF K mg "_law_t2_stays" sStays ["_law_before", "_law_behind", "_law_place"] f_stays d_stays)
    (F_laid : TopF K mg "_law_t2_laid" sLaid ["_law_made", "_law_own", "_law_pairs"] f_laid d_laid)
    (F_law : TopF K mg "law" sLaw ["_law_script"] f_law d_law)
    (F_tiI : MetF K CT "__init__" "Tile.__init__" sTiI ["self", "name", "west", "south", "east", "north"] f_tiI d_tiI)
    (F_tiG : MetF K CT "glue_at" "Tile.glue_at" sTiG ["self", "side"] f_tiG d_tiG)
    (F_tsOf : MetF K CS "tile_of" "TileSet.tile_of" sTsOf ["self", "name"] f_tsOf d_tsOf)
    (F_tsW : MetF K CS "with_glue" "TileSet.with_glue" sTsW ["self", "side", "glue"] f_tsW d_tsW)
    (F_bI : MetF K CB "__init__" "Bed.__init__" sBI ["self", "tile_set", "seed_place", "seed_name"] f_bI d_bI)
    (F_pairs : MetF K CB "pairs" "Bed.pairs" sPairs ["self"] f_pairs d_pairs)
    (F_many : MetF K CB "how_many" "Bed.how_many" sMany ["self"] f_many d_many)
    (F_bonds : MetF K CB "bonds" "Bed.bonds" sBonds ["self", "place", "name"] f_bonds d_bonds)
    (F_show : MetF K CB "shown_glues" "Bed.shown_glues" sShow ["self", "place"] f_show d_show)
    (F_fit : MetF K CB "fitting" "Bed.fitting" sFit ["self", "place"] f_fit d_fit)
    (F_may : MetF K CB "may_come" "Bed.may_come" sMay ["self"] f_may d_may)
    (F_emp : MetF K CB "check_empty" "Bed.check_empty" sEmp ["self", "place", "name"] f_emp d_emp)
    (F_come : MetF K CB "come" "Bed.come" sCome ["self", "place", "name"] f_come d_come)
    (F_slip : MetF K CB "slip" "Bed.slip" sSlip ["self", "place", "name"] f_slip d_slip)
    (F_cut : MetF K CB "cut" "Bed.cut" sCut ["self", "places"] f_cut d_cut)
    (F_lay : MetF K CB "lay" "Bed.lay" sLay ["self", "place", "name"] f_lay d_lay)
    (F_twin : MetF K CB "twin" "Bed.twin" sTwin ["self"] f_twin d_twin)
    (F_tsI : FunC K "__init__" "TileSet.__init__" sTsI f_tsI d_tsI c_tsI) (b_tsI : Binds K d_tsI ["self", "tiles"] []) (L_tsI : LamT T base mg ("TileSet.__init__.<locals>." ++ "<lambda>") c_tsI p_tsI)
    (F_tsO : FunC K "in_order" "TileSet.in_order" sTsO f_tsO d_tsO c_tsO) (b_tsO : Binds K d_tsO ["self", "names"] []) (L_tsO : LamT T base mg ("TileSet.in_order.<locals>." ++ "<lambda>") c_tsO p_tsO)
    (F_wor : FunC K "_law_t2_world" "_law_t2_world" sWor f_wor d_wor c_wor) (b_wor : Binds K d_wor ["_law_pen_here", "_law_many", "_law_mixture"] []) (L_wor : LamT T base mg ("_law_t2_world.<locals>." ++ "<lambda>") c_wor p_wor)
    (M_tiI : Mk K CT f_tiI) (M_tsI : Mk K CS f_tsI) (M_bI : Mk K CB f_bI) (m_tsO : Meth K CS "in_order" f_tsO) (m_wor : mg "_law_t2_world" = some (.ref f_wor)) :
    FnG P w K mg base 11 f_law d_law ["_law_script"] (spLaw K T) := by
  have G_isPl : FnOk P w K mg base CX0 2 f_isPl d_isPl ["value"] (spIsPl K) := ok_isPl F_isPl B F_isInt
  have G_isGl : FnOk P w K mg base CX0 2 f_isGl d_isGl ["value"] (spIsGl K) := ok_isGl F_isGl B F_isInt
  have G_ckPl : FnOk P w K mg base CX0 3 f_ckPl d_ckPl ["value"] (spCkPl K) := ok_ckPl F_ckPl G_isPl F_isPl
  have G_ckSd : FnOk P w K mg base CX0 2 f_ckSd d_ckSd ["value"] (spCkSd) := ok_ckSd F_ckSd B F_isInt
  have G_bes : FnOk P w K mg base CX0 4 f_bes d_bes ["place"] (spBes K T) := ok_bes T F_bes G_ckPl F_ckPl
  have G_tiI : FnOk P w K mg base CX0 3 f_tiI d_tiI ["self", "name", "west", "south", "east", "north"] (spTiI K T CT) := ok_tiI T F_tiI.fn B XT G_isGl F_isGl
  have G_tiG : FnOk P w K mg base CX0 3 f_tiG d_tiG ["self", "side"] (spTiG K T CT) := ok_tiG T F_tiG.fn XT G_ckSd F_ckSd
  have G_tsOf : FnOk P w K mg base CX0 1 f_tsOf d_tsOf ["self", "name"] (spTsOf K w CT CS) := ok_tsOf F_tsOf.fn XS
  have G_tsW : FnOk P w K mg base CX0 3 f_tsW d_tsW ["self", "side", "glue"] (spTsW K w T CT CS) := ok_tsW T F_tsW.fn XS B G_ckSd F_ckSd
  have G_tsO : FnOk P w K mg base CX0 1 f_tsO d_tsO ["self", "names"] (spTsO K w T CT CS) := ok_tsO T F_tsO XS B L_tsO
  have G_tsI : FnG P w K mg base 4 f_tsI d_tsI ["self", "tiles"] (spTsI K w T CT CS) := ok_tsI T F_tsI XS XT B L_tsI F_tiG G_tiG
  have C : CallsB P w K mg base T CT CS f_ckPl f_bes f_tsOf f_tiG f_tsW f_tsO d_ckPl d_bes d_tsOf d_tiG d_tsW d_tsO := ⟨F_ckPl, G_ckPl, F_bes, G_bes, F_tsOf, G_tsOf, F_tiG, G_tiG, F_tsW, G_tsW, m_tsO, b_tsO, G_tsO⟩
  have G_pairs : FnOk P w K mg base CX0 1 f_pairs d_pairs ["self"] (spPairs K w T CB) := ok_pairs T F_pairs.fn XB B
  have G_many : FnOk P w K mg base CX0 1 f_many d_many ["self"] (spMany K w CB) := ok_many F_many.fn XB B
  have G_show : FnOk P w K mg base CX0 5 f_show d_show ["self", "place"] (spShow K w T CT CS CB) := ok_show T F_show.fn XB XS XT B C
  have G_bonds : FnOk P w K mg base CX0 6 f_bonds d_bonds ["self", "place", "name"] (spBonds K w T CT CS CB) := ok_bonds T F_bonds.fn XB XS XT C F_show G_show
  have G_fit : FnOk P w K mg base CX0 6 f_fit d_fit ["self", "place"] (spFit K w T CT CS CB) := ok_fit T F_fit.fn XB XS C F_show G_show
  have G_lay : FnOk P w K mg base CX0 7 f_lay d_lay ["self", "place", "name"] (spLay K w T CT CS CB) := ok_lay T F_lay.fn XB C F_fit G_fit
  have G_may : FnOk P w K mg base CX0 1 f_may d_may ["self"] (spMay K w T CB) := ok_may T F_may.fn XB B
  have G_emp : FnOk P w K mg base CX0 4 f_emp d_emp ["self", "place", "name"] (spEmp K w T CT CS CB) := ok_emp T F_emp.fn XB XS C
  have G_come : FnOk P w K mg base CX0 8 f_come d_come ["self", "place", "name"] (spPut K w T CT CS CB true) := ok_come T F_come.fn XB F_emp G_emp F_bonds G_bonds F_lay G_lay
  have G_slip : FnOk P w K mg base CX0 8 f_slip d_slip ["self", "place", "name"] (spPut K w T CT CS CB false) := ok_slip T F_slip.fn XB F_emp G_emp F_lay G_lay
  have G_cut : FnOk P w K mg base CX0 8 f_cut d_cut ["self", "places"] (spCut K w T CT CS CB) := ok_cut T F_cut.fn XB B F_isPl G_isPl F_lay G_lay
  have G_bI : FnOk P w K mg base CX0 8 f_bI d_bI ["self", "tile_set", "seed_place", "seed_name"] (spBI K w T CT CS CB) := ok_bI T F_bI.fn XB XS C F_lay G_lay
  have G_twin : FnOk P w K mg base CX0 10 f_twin d_twin ["self"] (spTwin K w T CT CS CB) := ok_twin T F_twin.fn XB M_bI F_bI.b G_bI
  have G_dat : FnOk P w K mg base CX0 3 f_dat d_dat ["_law_pen_here", "_law_serial"] (spDat K T) := ok_dat T F_dat B F_draw F_pick
  have G_pat : FnOk P w K mg base CX0 3 f_pat d_pat ["_law_pen_here", "_law_many"] (spPat K T) := ok_pat T F_pat B F_draw F_pick F_next
  have G_out : FnOk P w K mg base CX0 2 f_out d_out ["_law_pen_here", "_law_mixture"] (spOut K T) := ok_out T F_out B F_draw
  have G_late : FnOk P w K mg base CX0 2 f_late d_late ["_law_glues", "_law_cells", "_law_at"] (spLate K w T) := ok_late T F_late B F_next
  have G_edge : FnOk P w K mg base CX0 4 f_edge d_edge ["_law_pen_here", "_law_cells", "_law_mixture"] (spEdge K w T) := ok_edge T F_edge B F_draw F_next F_dat G_dat
  have G_wor : FnG P w K mg base 5 f_wor d_wor ["_law_pen_here", "_law_many", "_law_mixture"] (spWor K w T) := ok_wor T F_wor B L_wor F_draw F_pick F_shuf F_dat G_dat F_pat G_pat F_edge G_edge F_out G_out F_late G_late
  have G_made : FnG P w K mg base 6 f_made d_made ["_law_pen_here", "_law_own"] (spMade K w T CT CS) := ok_made T F_made B XT XS F_draw F_shuf M_tiI F_tiI.b G_tiI M_tsI b_tsI G_tsI
  have G_lf : FnOk P w K mg base CX0 3 f_lf d_lf ["_law_own", "_law_bed", "_law_place"] (spLF K w T) := ok_lf T F_lf B F_next F_lb
  have G_lm : FnOk P w K mg base CX0 4 f_lm d_lm ["_law_own", "_law_bed"] (spLM K w T) := ok_lm T F_lm B F_next F_lf G_lf
  have G_near : FnOk P w K mg base CX0 3 f_near d_near ["_law_pen_here", "_law_own", "_law_bed"] (spNear K w T) := ok_near T F_near B F_draw F_pick F_next
  have G_dis : FnOk P w K mg base CX0 9 f_dis d_dis ["_law_pen_here", "_law_own", "_law_bed", "_law_told", "_law_many"] (spDis K w T CT CS CB) := ok_dis T F_dis B XB F_draw F_pick F_lm G_lm F_near G_near F_come G_come F_slip G_slip F_cut G_cut
  have G_alike : FnOk P w K mg base CX0 2 f_alike d_alike ["_law_one", "_law_two"] (spAlike K w T CB) := ok_alike T F_alike XB F_pairs G_pairs F_may G_may F_many G_many
  have G_stays : FnOk P w K mg base CX0 1 f_stays d_stays ["_law_before", "_law_behind", "_law_place"] (spStays K T) := ok_stays T F_stays
  have G_laid : FnOk P w K mg base CX0 10 f_laid d_laid ["_law_made", "_law_own", "_law_pairs"] (spLaid K w T CT CS CB) := ok_laid T F_laid XB M_bI F_bI.b G_bI F_slip G_slip
  exact ok_law T F_law B XB F_pen F_draw F_pick F_shuf m_wor F_wor b_wor G_wor F_made G_made M_bI F_bI.b G_bI F_dis G_dis F_alike G_alike F_laid G_laid F_pairs G_pairs F_may G_may F_near G_near F_twin G_twin F_slip G_slip F_come G_come F_cut G_cut F_stays G_stays
end
theorem law_end {l : PySem.W.OpenLaw} {w : World} {K : PySem.W.Frag} {h : Heap} {mg : Str → Option Value} {fa CT CS CB : Addr} {f_isInt : Addr} {oc_isInt kV_isInt dc_isInt pm_isInt ct_isInt : Value} {od_isInt an_isInt : Option Addr} {sl_isInt : Array (Option Value)} {f_isPl : Addr} {oc_isPl kV_isPl dc_isPl pm_isPl ct_isPl : Value} {od_isPl an_isPl : Option Addr} {sl_isPl : Array (Option Value)} {f_isGl : Addr} {oc_isGl kV_isGl dc_isGl pm_isGl ct_isGl : Value} {od_isGl an_isGl : Option Addr} {sl_isGl : Array (Option Value)} {f_ckPl : Addr} {oc_ckPl kV_ckPl dc_ckPl pm_ckPl ct_ckPl : Value} {od_ckPl an_ckPl : Option Addr} {sl_ckPl : Array (Option Value)} {f_ckSd : Addr} {oc_ckSd kV_ckSd dc_ckSd pm_ckSd ct_ckSd : Value} {od_ckSd an_ckSd : Option Addr} {sl_ckSd : Array (Option Value)} {f_bes : Addr} {oc_bes kV_bes dc_bes pm_bes ct_bes : Value} {od_bes an_bes : Option Addr} {sl_bes : Array (Option Value)} {f_pen : Addr} {oc_pen kV_pen dc_pen pm_pen ct_pen : Value} {od_pen an_pen : Option Addr} {sl_pen : Array (Option Value)} {f_draw : Addr} {oc_draw kV_draw dc_draw pm_draw ct_draw : Value} {od_draw an_draw : Option Addr} {sl_draw : Array (Option Value)} {f_pick : Addr} {oc_pick kV_pick dc_pick pm_pick ct_pick : Value} {od_pick an_pick : Option Addr} {sl_pick : Array (Option Value)} {f_shuf : Addr} {oc_shuf kV_shuf dc_shuf pm_shuf ct_shuf : Value} {od_shuf an_shuf : Option Addr} {sl_shuf : Array (Option Value)} {f_next : Addr} {oc_next kV_next dc_next pm_next ct_next : Value} {od_next an_next : Option Addr} {sl_next : Array (Option Value)} {f_dat : Addr} {oc_dat kV_dat dc_dat pm_dat ct_dat : Value} {od_dat an_dat : Option Addr} {sl_dat : Array (Option Value)} {f_pat : Addr} {oc_pat kV_pat dc_pat pm_pat ct_pat : Value} {od_pat an_pat : Option Addr} {sl_pat : Array (Option Value)} {f_edge : Addr} {oc_edge kV_edge dc_edge pm_edge ct_edge : Value} {od_edge an_edge : Option Addr} {sl_edge : Array (Option Value)} {f_out : Addr} {oc_out kV_out dc_out pm_out ct_out : Value} {od_out an_out : Option Addr} {sl_out : Array (Option Value)} {f_late : Addr} {oc_late kV_late dc_late pm_late ct_late : Value} {od_late an_late : Option Addr} {sl_late : Array (Option Value)} {f_made : Addr} {oc_made kV_made dc_made pm_made ct_made : Value} {od_made an_made : Option Addr} {sl_made : Array (Option Value)} {f_lb : Addr} {oc_lb kV_lb dc_lb pm_lb ct_lb : Value} {od_lb an_lb : Option Addr} {sl_lb : Array (Option Value)} {f_lf : Addr} {oc_lf kV_lf dc_lf pm_lf ct_lf : Value} {od_lf an_lf : Option Addr} {sl_lf : Array (Option Value)} {f_lm : Addr} {oc_lm kV_lm dc_lm pm_lm ct_lm : Value} {od_lm an_lm : Option Addr} {sl_lm : Array (Option Value)} {f_near : Addr} {oc_near kV_near dc_near pm_near ct_near : Value} {od_near an_near : Option Addr} {sl_near : Array (Option Value)} {f_dis : Addr} {oc_dis kV_dis dc_dis pm_dis ct_dis : Value} {od_dis an_dis : Option Addr} {sl_dis : Array (Option Value)} {f_alike : Addr} {oc_alike kV_alike dc_alike pm_alike ct_alike : Value} {od_alike an_alike : Option Addr} {sl_alike : Array (Option Value)} {f_stays : Addr} {oc_stays kV_stays dc_stays pm_stays ct_stays : Value} {od_stays an_stays : Option Addr} {sl_stays : Array (Option Value)} {f_laid : Addr} {oc_laid kV_laid dc_laid pm_laid ct_laid : Value} {od_laid an_laid : Option Addr} {sl_laid : Array (Option Value)} {f_law : Addr} {oc_law kV_law dc_law pm_law ct_law : Value} {od_law an_law : Option Addr} {sl_law : Array (Option Value)} {f_tiI : Addr} {oc_tiI kV_tiI dc_tiI pm_tiI ct_tiI : Value} {od_tiI an_tiI : Option Addr} {sl_tiI : Array (Option Value)} {f_tiG : Addr} {oc_tiG kV_tiG dc_tiG pm_tiG ct_tiG : Value} {od_tiG an_tiG : Option Addr} {sl_tiG : Array (Option Value)} {f_tsOf : Addr} {oc_tsOf kV_tsOf dc_tsOf pm_tsOf ct_tsOf : Value} {od_tsOf an_tsOf : Option Addr} {sl_tsOf : Array (Option Value)} {f_tsW : Addr} {oc_tsW kV_tsW dc_tsW pm_tsW ct_tsW : Value} {od_tsW an_tsW : Option Addr} {sl_tsW : Array (Option Value)} {f_bI : Addr} {oc_bI kV_bI dc_bI pm_bI ct_bI : Value} {od_bI an_bI : Option Addr} {sl_bI : Array (Option Value)} {f_pairs : Addr} {oc_pairs kV_pairs dc_pairs pm_pairs ct_pairs : Value} {od_pairs an_pairs : Option Addr} {sl_pairs : Array (Option Value)} {f_many : Addr} {oc_many kV_many dc_many pm_many ct_many : Value} {od_many an_many : Option Addr} {sl_many : Array (Option Value)} {f_bonds : Addr} {oc_bonds kV_bonds dc_bonds pm_bonds ct_bonds : Value} {od_bonds an_bonds : Option Addr} {sl_bonds : Array (Option Value)} {f_show : Addr} {oc_show kV_show dc_show pm_show ct_show : Value} {od_show an_show : Option Addr} {sl_show : Array (Option Value)} {f_fit : Addr} {oc_fit kV_fit dc_fit pm_fit ct_fit : Value} {od_fit an_fit : Option Addr} {sl_fit : Array (Option Value)} {f_may : Addr} {oc_may kV_may dc_may pm_may ct_may : Value} {od_may an_may : Option Addr} {sl_may : Array (Option Value)} {f_emp : Addr} {oc_emp kV_emp dc_emp pm_emp ct_emp : Value} {od_emp an_emp : Option Addr} {sl_emp : Array (Option Value)} {f_come : Addr} {oc_come kV_come dc_come pm_come ct_come : Value} {od_come an_come : Option Addr} {sl_come : Array (Option Value)} {f_slip : Addr} {oc_slip kV_slip dc_slip pm_slip ct_slip : Value} {od_slip an_slip : Option Addr} {sl_slip : Array (Option Value)} {f_cut : Addr} {oc_cut kV_cut dc_cut pm_cut ct_cut : Value} {od_cut an_cut : Option Addr} {sl_cut : Array (Option Value)} {f_lay : Addr} {oc_lay kV_lay dc_lay pm_lay ct_lay : Value} {od_lay an_lay : Option Addr} {sl_lay : Array (Option Value)} {f_twin : Addr} {oc_twin kV_twin dc_twin pm_twin ct_twin : Value} {od_twin an_twin : Option Addr} {sl_twin : Array (Option Value)} {f_tsI : Addr} {oc_tsI kV_tsI dc_tsI pm_tsI ct_tsI : Value} {od_tsI an_tsI : Option Addr} {sl_tsI : Array (Option Value)} {f_tsO : Addr} {oc_tsO kV_tsO dc_tsO pm_tsO ct_tsO : Value} {od_tsO an_tsO : Option Addr} {sl_tsO : Array (Option Value)} {f_wor : Addr} {oc_wor kV_wor dc_wor pm_wor ct_wor : Value} {od_wor an_wor : Option Addr} {sl_wor : Array (Option Value)} {cd_isInt : Value} {cd_isPl : Value} {cd_isGl : Value} {cd_ckPl : Value} {cd_ckSd : Value} {cd_bes : Value} {cd_pen : Value} {cd_draw : Value} {cd_pick : Value} {cd_shuf : Value} {cd_next : Value} {cd_dat : Value} {cd_pat : Value} {cd_edge : Value} {cd_out : Value} {cd_late : Value} {cd_made : Value} {cd_lb : Value} {cd_lf : Value} {cd_lm : Value} {cd_near : Value} {cd_dis : Value} {cd_alike : Value} {cd_stays : Value} {cd_laid : Value} {cd_law : Value} {cd_tiI : Value} {cd_tiG : Value} {cd_tsOf : Value} {cd_tsW : Value} {cd_bI : Value} {cd_pairs : Value} {cd_many : Value} {cd_bonds : Value} {cd_show : Value} {cd_fit : Value} {cd_may : Value} {cd_emp : Value} {cd_come : Value} {cd_slip : Value} {cd_cut : Value} {cd_lay : Value} {cd_twin : Value} {c_tsI p_tsI : Addr} {c_tsO p_tsO : Addr} {c_wor p_wor : Addr}
    (X : K.In h) (G : h.Ns mainGlobals mg) (hfa : mg "law" = some (.ref fa))
    (aC_T : PySem.W.nsIn K mainGlobals "Tile" = some (some (.ref CT)))
    (aC_S : PySem.W.nsIn K mainGlobals "TileSet" = some (some (.ref CS)))
    (aC_B : PySem.W.nsIn K mainGlobals "Bed" = some (some (.ref CB)))
    (a_isInt : PySem.W.nsIn K mainGlobals "is_integer" = some (some (.ref f_isInt)))
    (l_isInt : K.lookup f_isInt = some ⟨oc_isInt, od_isInt, .func (PySem.W.fnOf "is_integer" "is_integer" (defArgs sIsInt) (defBody sIsInt) (defScope sIsInt) .none kV_isInt dc_isInt pm_isInt an_isInt cd_isInt ct_isInt), sl_isInt⟩)
    (c_isInt' : PySem.W.codeIn K cd_isInt "is_integer" = true)
    (k_isInt : PySem.W.keepIn K (.ref f_isInt) = true)
    (a_isPl : PySem.W.nsIn K mainGlobals "is_place" = some (some (.ref f_isPl)))
    (l_isPl : K.lookup f_isPl = some ⟨oc_isPl, od_isPl, .func (PySem.W.fnOf "is_place" "is_place" (defArgs sIsPl) (defBody sIsPl) (defScope sIsPl) .none kV_isPl dc_isPl pm_isPl an_isPl cd_isPl ct_isPl), sl_isPl⟩)
    (c_isPl' : PySem.W.codeIn K cd_isPl "is_place" = true)
    (k_isPl : PySem.W.keepIn K (.ref f_isPl) = true)
    (a_isGl : PySem.W.nsIn K mainGlobals "is_glue" = some (some (.ref f_isGl)))
    (l_isGl : K.lookup f_isGl = some ⟨oc_isGl, od_isGl, .func (PySem.W.fnOf "is_glue" "is_glue" (defArgs sIsGl) (defBody sIsGl) (defScope sIsGl) .none kV_isGl dc_isGl pm_isGl an_isGl cd_isGl ct_isGl), sl_isGl⟩)
    (c_isGl' : PySem.W.codeIn K cd_isGl "is_glue" = true)
    (k_isGl : PySem.W.keepIn K (.ref f_isGl) = true)
    (a_ckPl : PySem.W.nsIn K mainGlobals "check_place" = some (some (.ref f_ckPl)))
    (l_ckPl : K.lookup f_ckPl = some ⟨oc_ckPl, od_ckPl, .func (PySem.W.fnOf "check_place" "check_place" (defArgs sCkPl) (defBody sCkPl) (defScope sCkPl) .none kV_ckPl dc_ckPl pm_ckPl an_ckPl cd_ckPl ct_ckPl), sl_ckPl⟩)
    (c_ckPl' : PySem.W.codeIn K cd_ckPl "check_place" = true)
    (k_ckPl : PySem.W.keepIn K (.ref f_ckPl) = true)
    (a_ckSd : PySem.W.nsIn K mainGlobals "check_side" = some (some (.ref f_ckSd)))
    (l_ckSd : K.lookup f_ckSd = some ⟨oc_ckSd, od_ckSd, .func (PySem.W.fnOf "check_side" "check_side" (defArgs sCkSd) (defBody sCkSd) (defScope sCkSd) .none kV_ckSd dc_ckSd pm_ckSd an_ckSd cd_ckSd ct_ckSd), sl_ckSd⟩)
    (c_ckSd' : PySem.W.codeIn K cd_ckSd "check_side" = true)
    (k_ckSd : PySem.W.keepIn K (.ref f_ckSd) = true)
    (a_bes : PySem.W.nsIn K mainGlobals "beside" = some (some (.ref f_bes)))
    (l_bes : K.lookup f_bes = some ⟨oc_bes, od_bes, .func (PySem.W.fnOf "beside" "beside" (defArgs sBes) (defBody sBes) (defScope sBes) .none kV_bes dc_bes pm_bes an_bes cd_bes ct_bes), sl_bes⟩)
    (c_bes' : PySem.W.codeIn K cd_bes "beside" = true)
    (k_bes : PySem.W.keepIn K (.ref f_bes) = true)
    (a_pen : PySem.W.nsIn K mainGlobals "_law_pen" = some (some (.ref f_pen)))
    (l_pen : K.lookup f_pen = some ⟨oc_pen, od_pen, .func (PySem.W.fnOf "_law_pen" "_law_pen" (defArgs sPen) (defBody sPen) (defScope sPen) .none kV_pen dc_pen pm_pen an_pen cd_pen ct_pen), sl_pen⟩)
    (c_pen' : PySem.W.codeIn K cd_pen "_law_pen" = true)
    (k_pen : PySem.W.keepIn K (.ref f_pen) = true)
    (a_draw : PySem.W.nsIn K mainGlobals "_law_draw" = some (some (.ref f_draw)))
    (l_draw : K.lookup f_draw = some ⟨oc_draw, od_draw, .func (PySem.W.fnOf "_law_draw" "_law_draw" (defArgs sDraw) (defBody sDraw) (defScope sDraw) .none kV_draw dc_draw pm_draw an_draw cd_draw ct_draw), sl_draw⟩)
    (c_draw' : PySem.W.codeIn K cd_draw "_law_draw" = true)
    (k_draw : PySem.W.keepIn K (.ref f_draw) = true)
    (a_pick : PySem.W.nsIn K mainGlobals "_law_pick" = some (some (.ref f_pick)))
    (l_pick : K.lookup f_pick = some ⟨oc_pick, od_pick, .func (PySem.W.fnOf "_law_pick" "_law_pick" (defArgs sPick) (defBody sPick) (defScope sPick) .none kV_pick dc_pick pm_pick an_pick cd_pick ct_pick), sl_pick⟩)
    (c_pick' : PySem.W.codeIn K cd_pick "_law_pick" = true)
    (k_pick : PySem.W.keepIn K (.ref f_pick) = true)
    (a_shuf : PySem.W.nsIn K mainGlobals "_law_shuffled" = some (some (.ref f_shuf)))
    (l_shuf : K.lookup f_shuf = some ⟨oc_shuf, od_shuf, .func (PySem.W.fnOf "_law_shuffled" "_law_shuffled" (defArgs sShuf) (defBody sShuf) (defScope sShuf) .none kV_shuf dc_shuf pm_shuf an_shuf cd_shuf ct_shuf), sl_shuf⟩)
    (c_shuf' : PySem.W.codeIn K cd_shuf "_law_shuffled" = true)
    (k_shuf : PySem.W.keepIn K (.ref f_shuf) = true)
    (a_next : PySem.W.nsIn K mainGlobals "_law_t2_next" = some (some (.ref f_next)))
    (l_next : K.lookup f_next = some ⟨oc_next, od_next, .func (PySem.W.fnOf "_law_t2_next" "_law_t2_next" (defArgs sNext) (defBody sNext) (defScope sNext) .none kV_next dc_next pm_next an_next cd_next ct_next), sl_next⟩)
    (c_next' : PySem.W.codeIn K cd_next "_law_t2_next" = true)
    (k_next : PySem.W.keepIn K (.ref f_next) = true)
    (a_dat : PySem.W.nsIn K mainGlobals "_law_t2_datum" = some (some (.ref f_dat)))
    (l_dat : K.lookup f_dat = some ⟨oc_dat, od_dat, .func (PySem.W.fnOf "_law_t2_datum" "_law_t2_datum" (defArgs sDat) (defBody sDat) (defScope sDat) .none kV_dat dc_dat pm_dat an_dat cd_dat ct_dat), sl_dat⟩)
    (c_dat' : PySem.W.codeIn K cd_dat "_law_t2_datum" = true)
    (k_dat : PySem.W.keepIn K (.ref f_dat) = true)
    (a_pat : PySem.W.nsIn K mainGlobals "_law_t2_patch" = some (some (.ref f_pat)))
    (l_pat : K.lookup f_pat = some ⟨oc_pat, od_pat, .func (PySem.W.fnOf "_law_t2_patch" "_law_t2_patch" (defArgs sPat) (defBody sPat) (defScope sPat) .none kV_pat dc_pat pm_pat an_pat cd_pat ct_pat), sl_pat⟩)
    (c_pat' : PySem.W.codeIn K cd_pat "_law_t2_patch" = true)
    (k_pat : PySem.W.keepIn K (.ref f_pat) = true)
    (a_edge : PySem.W.nsIn K mainGlobals "_law_t2_edge_glues" = some (some (.ref f_edge)))
    (l_edge : K.lookup f_edge = some ⟨oc_edge, od_edge, .func (PySem.W.fnOf "_law_t2_edge_glues" "_law_t2_edge_glues" (defArgs sEdge) (defBody sEdge) (defScope sEdge) .none kV_edge dc_edge pm_edge an_edge cd_edge ct_edge), sl_edge⟩)
    (c_edge' : PySem.W.codeIn K cd_edge "_law_t2_edge_glues" = true)
    (k_edge : PySem.W.keepIn K (.ref f_edge) = true)
    (a_out : PySem.W.nsIn K mainGlobals "_law_t2_outer_glue" = some (some (.ref f_out)))
    (l_out : K.lookup f_out = some ⟨oc_out, od_out, .func (PySem.W.fnOf "_law_t2_outer_glue" "_law_t2_outer_glue" (defArgs sOut) (defBody sOut) (defScope sOut) .none kV_out dc_out pm_out an_out cd_out ct_out), sl_out⟩)
    (c_out' : PySem.W.codeIn K cd_out "_law_t2_outer_glue" = true)
    (k_out : PySem.W.keepIn K (.ref f_out) = true)
    (a_late : PySem.W.nsIn K mainGlobals "_law_t2_late_rival" = some (some (.ref f_late)))
    (l_late : K.lookup f_late = some ⟨oc_late, od_late, .func (PySem.W.fnOf "_law_t2_late_rival" "_law_t2_late_rival" (defArgs sLate) (defBody sLate) (defScope sLate) .none kV_late dc_late pm_late an_late cd_late ct_late), sl_late⟩)
    (c_late' : PySem.W.codeIn K cd_late "_law_t2_late_rival" = true)
    (k_late : PySem.W.keepIn K (.ref f_late) = true)
    (a_made : PySem.W.nsIn K mainGlobals "_law_t2_tile_set" = some (some (.ref f_made)))
    (l_made : K.lookup f_made = some ⟨oc_made, od_made, .func (PySem.W.fnOf "_law_t2_tile_set" "_law_t2_tile_set" (defArgs sMade) (defBody sMade) (defScope sMade) .none kV_made dc_made pm_made an_made cd_made ct_made), sl_made⟩)
    (c_made' : PySem.W.codeIn K cd_made "_law_t2_tile_set" = true)
    (k_made : PySem.W.keepIn K (.ref f_made) = true)
    (a_lb : PySem.W.nsIn K mainGlobals "_law_t2_bonds" = some (some (.ref f_lb)))
    (l_lb : K.lookup f_lb = some ⟨oc_lb, od_lb, .func (PySem.W.fnOf "_law_t2_bonds" "_law_t2_bonds" (defArgs sLB) (defBody sLB) (defScope sLB) .none kV_lb dc_lb pm_lb an_lb cd_lb ct_lb), sl_lb⟩)
    (c_lb' : PySem.W.codeIn K cd_lb "_law_t2_bonds" = true)
    (k_lb : PySem.W.keepIn K (.ref f_lb) = true)
    (a_lf : PySem.W.nsIn K mainGlobals "_law_t2_fitting" = some (some (.ref f_lf)))
    (l_lf : K.lookup f_lf = some ⟨oc_lf, od_lf, .func (PySem.W.fnOf "_law_t2_fitting" "_law_t2_fitting" (defArgs sLF) (defBody sLF) (defScope sLF) .none kV_lf dc_lf pm_lf an_lf cd_lf ct_lf), sl_lf⟩)
    (c_lf' : PySem.W.codeIn K cd_lf "_law_t2_fitting" = true)
    (k_lf : PySem.W.keepIn K (.ref f_lf) = true)
    (a_lm : PySem.W.nsIn K mainGlobals "_law_t2_may" = some (some (.ref f_lm)))
    (l_lm : K.lookup f_lm = some ⟨oc_lm, od_lm, .func (PySem.W.fnOf "_law_t2_may" "_law_t2_may" (defArgs sLM) (defBody sLM) (defScope sLM) .none kV_lm dc_lm pm_lm an_lm cd_lm ct_lm), sl_lm⟩)
    (c_lm' : PySem.W.codeIn K cd_lm "_law_t2_may" = true)
    (k_lm : PySem.W.keepIn K (.ref f_lm) = true)
    (a_near : PySem.W.nsIn K mainGlobals "_law_t2_near" = some (some (.ref f_near)))
    (l_near : K.lookup f_near = some ⟨oc_near, od_near, .func (PySem.W.fnOf "_law_t2_near" "_law_t2_near" (defArgs sNear) (defBody sNear) (defScope sNear) .none kV_near dc_near pm_near an_near cd_near ct_near), sl_near⟩)
    (c_near' : PySem.W.codeIn K cd_near "_law_t2_near" = true)
    (k_near : PySem.W.keepIn K (.ref f_near) = true)
    (a_dis : PySem.W.nsIn K mainGlobals "_law_t2_disturb" = some (some (.ref f_dis)))
    (l_dis : K.lookup f_dis = some ⟨oc_dis, od_dis, .func (PySem.W.fnOf "_law_t2_disturb" "_law_t2_disturb" (defArgs sDis) (defBody sDis) (defScope sDis) .none kV_dis dc_dis pm_dis an_dis cd_dis ct_dis), sl_dis⟩)
    (c_dis' : PySem.W.codeIn K cd_dis "_law_t2_disturb" = true)
    (k_dis : PySem.W.keepIn K (.ref f_dis) = true)
    (a_alike : PySem.W.nsIn K mainGlobals "_law_t2_alike" = some (some (.ref f_alike)))
    (l_alike : K.lookup f_alike = some ⟨oc_alike, od_alike, .func (PySem.W.fnOf "_law_t2_alike" "_law_t2_alike" (defArgs sAlike) (defBody sAlike) (defScope sAlike) .none kV_alike dc_alike pm_alike an_alike cd_alike ct_alike), sl_alike⟩)
    (c_alike' : PySem.W.codeIn K cd_alike "_law_t2_alike" = true)
    (k_alike : PySem.W.keepIn K (.ref f_alike) = true)
    (a_stays : PySem.W.nsIn K mainGlobals "_law_t2_stays" = some (some (.ref f_stays)))
    (l_stays : K.lookup f_stays = some ⟨oc_stays, od_stays, .func (PySem.W.fnOf "_law_t2_stays" "_law_t2_stays" (defArgs sStays) (defBody sStays) (defScope sStays) .none kV_stays dc_stays pm_stays an_stays cd_stays ct_stays), sl_stays⟩)
    (c_stays' : PySem.W.codeIn K cd_stays "_law_t2_stays" = true)
    (k_stays : PySem.W.keepIn K (.ref f_stays) = true)
    (a_laid : PySem.W.nsIn K mainGlobals "_law_t2_laid" = some (some (.ref f_laid)))
    (l_laid : K.lookup f_laid = some ⟨oc_laid, od_laid, .func (PySem.W.fnOf "_law_t2_laid" "_law_t2_laid" (defArgs sLaid) (defBody sLaid) (defScope sLaid) .none kV_laid dc_laid pm_laid an_laid cd_laid ct_laid), sl_laid⟩)
    (c_laid' : PySem.W.codeIn K cd_laid "_law_t2_laid" = true)
    (k_laid : PySem.W.keepIn K (.ref f_laid) = true)
    (a_law : PySem.W.nsIn K mainGlobals "law" = some (some (.ref f_law)))
    (l_law : K.lookup f_law = some ⟨oc_law, od_law, .func (PySem.W.fnOf "law" "law" (defArgs sLaw) (defBody sLaw) (defScope sLaw) .none kV_law dc_law pm_law an_law cd_law ct_law), sl_law⟩)
    (c_law' : PySem.W.codeIn K cd_law "law" = true)
    (k_law : PySem.W.keepIn K (.ref f_law) = true)
    (a_tiI : PySem.W.findIn K (.ref CT) "__init__" = some (some (.ref f_tiI)))
    (i_tiI : PySem.W.isFn K (.ref f_tiI) = true)
    (l_tiI : K.lookup f_tiI = some ⟨oc_tiI, od_tiI, .func (PySem.W.fnOf "__init__" "Tile.__init__" (defArgs sTiI) (defBody sTiI) (defScope sTiI) .none kV_tiI dc_tiI pm_tiI an_tiI cd_tiI ct_tiI), sl_tiI⟩)
    (c_tiI' : PySem.W.codeIn K cd_tiI "Tile.__init__" = true)
    (k_tiI : PySem.W.keepIn K (.ref f_tiI) = true)
    (a_tiG : PySem.W.findIn K (.ref CT) "glue_at" = some (some (.ref f_tiG)))
    (i_tiG : PySem.W.isFn K (.ref f_tiG) = true)
    (l_tiG : K.lookup f_tiG = some ⟨oc_tiG, od_tiG, .func (PySem.W.fnOf "glue_at" "Tile.glue_at" (defArgs sTiG) (defBody sTiG) (defScope sTiG) .none kV_tiG dc_tiG pm_tiG an_tiG cd_tiG ct_tiG), sl_tiG⟩)
    (c_tiG' : PySem.W.codeIn K cd_tiG "Tile.glue_at" = true)
    (k_tiG : PySem.W.keepIn K (.ref f_tiG) = true)
    (a_tsOf : PySem.W.findIn K (.ref CS) "tile_of" = some (some (.ref f_tsOf)))
    (i_tsOf : PySem.W.isFn K (.ref f_tsOf) = true)
    (l_tsOf : K.lookup f_tsOf = some ⟨oc_tsOf, od_tsOf, .func (PySem.W.fnOf "tile_of" "TileSet.tile_of" (defArgs sTsOf) (defBody sTsOf) (defScope sTsOf) .none kV_tsOf dc_tsOf pm_tsOf an_tsOf cd_tsOf ct_tsOf), sl_tsOf⟩)
    (c_tsOf' : PySem.W.codeIn K cd_tsOf "TileSet.tile_of" = true)
    (k_tsOf : PySem.W.keepIn K (.ref f_tsOf) = true)
    (a_tsW : PySem.W.findIn K (.ref CS) "with_glue" = some (some (.ref f_tsW)))
    (i_tsW : PySem.W.isFn K (.ref f_tsW) = true)
    (l_tsW : K.lookup f_tsW = some ⟨oc_tsW, od_tsW, .func (PySem.W.fnOf "with_glue" "TileSet.with_glue" (defArgs sTsW) (defBody sTsW) (defScope sTsW) .none kV_tsW dc_tsW pm_tsW an_tsW cd_tsW ct_tsW), sl_tsW⟩)
    (c_tsW' : PySem.W.codeIn K cd_tsW "TileSet.with_glue" = true)
    (k_tsW : PySem.W.keepIn K (.ref f_tsW) = true)
    (a_bI : PySem.W.findIn K (.ref CB) "__init__" = some (some (.ref f_bI)))
    (i_bI : PySem.W.isFn K (.ref f_bI) = true)
    (l_bI : K.lookup f_bI = some ⟨oc_bI, od_bI, .func (PySem.W.fnOf "__init__" "Bed.__init__" (defArgs sBI) (defBody sBI) (defScope sBI) .none kV_bI dc_bI pm_bI an_bI cd_bI ct_bI), sl_bI⟩)
    (c_bI' : PySem.W.codeIn K cd_bI "Bed.__init__" = true)
    (k_bI : PySem.W.keepIn K (.ref f_bI) = true)
    (a_pairs : PySem.W.findIn K (.ref CB) "pairs" = some (some (.ref f_pairs)))
    (i_pairs : PySem.W.isFn K (.ref f_pairs) = true)
    (l_pairs : K.lookup f_pairs = some ⟨oc_pairs, od_pairs, .func (PySem.W.fnOf "pairs" "Bed.pairs" (defArgs sPairs) (defBody sPairs) (defScope sPairs) .none kV_pairs dc_pairs pm_pairs an_pairs cd_pairs ct_pairs), sl_pairs⟩)
    (c_pairs' : PySem.W.codeIn K cd_pairs "Bed.pairs" = true)
    (k_pairs : PySem.W.keepIn K (.ref f_pairs) = true)
    (a_many : PySem.W.findIn K (.ref CB) "how_many" = some (some (.ref f_many)))
    (i_many : PySem.W.isFn K (.ref f_many) = true)
    (l_many : K.lookup f_many = some ⟨oc_many, od_many, .func (PySem.W.fnOf "how_many" "Bed.how_many" (defArgs sMany) (defBody sMany) (defScope sMany) .none kV_many dc_many pm_many an_many cd_many ct_many), sl_many⟩)
    (c_many' : PySem.W.codeIn K cd_many "Bed.how_many" = true)
    (k_many : PySem.W.keepIn K (.ref f_many) = true)
    (a_bonds : PySem.W.findIn K (.ref CB) "bonds" = some (some (.ref f_bonds)))
    (i_bonds : PySem.W.isFn K (.ref f_bonds) = true)
    (l_bonds : K.lookup f_bonds = some ⟨oc_bonds, od_bonds, .func (PySem.W.fnOf "bonds" "Bed.bonds" (defArgs sBonds) (defBody sBonds) (defScope sBonds) .none kV_bonds dc_bonds pm_bonds an_bonds cd_bonds ct_bonds), sl_bonds⟩)
    (c_bonds' : PySem.W.codeIn K cd_bonds "Bed.bonds" = true)
    (k_bonds : PySem.W.keepIn K (.ref f_bonds) = true)
    (a_show : PySem.W.findIn K (.ref CB) "shown_glues" = some (some (.ref f_show)))
    (i_show : PySem.W.isFn K (.ref f_show) = true)
    (l_show : K.lookup f_show = some ⟨oc_show, od_show, .func (PySem.W.fnOf "shown_glues" "Bed.shown_glues" (defArgs sShow) (defBody sShow) (defScope sShow) .none kV_show dc_show pm_show an_show cd_show ct_show), sl_show⟩)
    (c_show' : PySem.W.codeIn K cd_show "Bed.shown_glues" = true)
    (k_show : PySem.W.keepIn K (.ref f_show) = true)
    (a_fit : PySem.W.findIn K (.ref CB) "fitting" = some (some (.ref f_fit)))
    (i_fit : PySem.W.isFn K (.ref f_fit) = true)
    (l_fit : K.lookup f_fit = some ⟨oc_fit, od_fit, .func (PySem.W.fnOf "fitting" "Bed.fitting" (defArgs sFit) (defBody sFit) (defScope sFit) .none kV_fit dc_fit pm_fit an_fit cd_fit ct_fit), sl_fit⟩)
    (c_fit' : PySem.W.codeIn K cd_fit "Bed.fitting" = true)
    (k_fit : PySem.W.keepIn K (.ref f_fit) = true)
    (a_may : PySem.W.findIn K (.ref CB) "may_come" = some (some (.ref f_may)))
    (i_may : PySem.W.isFn K (.ref f_may) = true)
    (l_may : K.lookup f_may = some ⟨oc_may, od_may, .func (PySem.W.fnOf "may_come" "Bed.may_come" (defArgs sMay) (defBody sMay) (defScope sMay) .none kV_may dc_may pm_may an_may cd_may ct_may), sl_may⟩)
    (c_may' : PySem.W.codeIn K cd_may "Bed.may_come" = true)
    (k_may : PySem.W.keepIn K (.ref f_may) = true)
    (a_emp : PySem.W.findIn K (.ref CB) "check_empty" = some (some (.ref f_emp)))
    (i_emp : PySem.W.isFn K (.ref f_emp) = true)
    (l_emp : K.lookup f_emp = some ⟨oc_emp, od_emp, .func (PySem.W.fnOf "check_empty" "Bed.check_empty" (defArgs sEmp) (defBody sEmp) (defScope sEmp) .none kV_emp dc_emp pm_emp an_emp cd_emp ct_emp), sl_emp⟩)
    (c_emp' : PySem.W.codeIn K cd_emp "Bed.check_empty" = true)
    (k_emp : PySem.W.keepIn K (.ref f_emp) = true)
    (a_come : PySem.W.findIn K (.ref CB) "come" = some (some (.ref f_come)))
    (i_come : PySem.W.isFn K (.ref f_come) = true)
    (l_come : K.lookup f_come = some ⟨oc_come, od_come, .func (PySem.W.fnOf "come" "Bed.come" (defArgs sCome) (defBody sCome) (defScope sCome) .none kV_come dc_come pm_come an_come cd_come ct_come), sl_come⟩)
    (c_come' : PySem.W.codeIn K cd_come "Bed.come" = true)
    (k_come : PySem.W.keepIn K (.ref f_come) = true)
    (a_slip : PySem.W.findIn K (.ref CB) "slip" = some (some (.ref f_slip)))
    (i_slip : PySem.W.isFn K (.ref f_slip) = true)
    (l_slip : K.lookup f_slip = some ⟨oc_slip, od_slip, .func (PySem.W.fnOf "slip" "Bed.slip" (defArgs sSlip) (defBody sSlip) (defScope sSlip) .none kV_slip dc_slip pm_slip an_slip cd_slip ct_slip), sl_slip⟩)
    (c_slip' : PySem.W.codeIn K cd_slip "Bed.slip" = true)
    (k_slip : PySem.W.keepIn K (.ref f_slip) = true)
    (a_cut : PySem.W.findIn K (.ref CB) "cut" = some (some (.ref f_cut)))
    (i_cut : PySem.W.isFn K (.ref f_cut) = true)
    (l_cut : K.lookup f_cut = some ⟨oc_cut, od_cut, .func (PySem.W.fnOf "cut" "Bed.cut" (defArgs sCut) (defBody sCut) (defScope sCut) .none kV_cut dc_cut pm_cut an_cut cd_cut ct_cut), sl_cut⟩)
    (c_cut' : PySem.W.codeIn K cd_cut "Bed.cut" = true)
    (k_cut : PySem.W.keepIn K (.ref f_cut) = true)
    (a_lay : PySem.W.findIn K (.ref CB) "lay" = some (some (.ref f_lay)))
    (i_lay : PySem.W.isFn K (.ref f_lay) = true)
    (l_lay : K.lookup f_lay = some ⟨oc_lay, od_lay, .func (PySem.W.fnOf "lay" "Bed.lay" (defArgs sLay) (defBody sLay) (defScope sLay) .none kV_lay dc_lay pm_lay an_lay cd_lay ct_lay), sl_lay⟩)
    (c_lay' : PySem.W.codeIn K cd_lay "Bed.lay" = true)
    (k_lay : PySem.W.keepIn K (.ref f_lay) = true)
    (a_twin : PySem.W.findIn K (.ref CB) "twin" = some (some (.ref f_twin)))
    (i_twin : PySem.W.isFn K (.ref f_twin) = true)
    (l_twin : K.lookup f_twin = some ⟨oc_twin, od_twin, .func (PySem.W.fnOf "twin" "Bed.twin" (defArgs sTwin) (defBody sTwin) (defScope sTwin) .none kV_twin dc_twin pm_twin an_twin cd_twin ct_twin), sl_twin⟩)
    (c_twin' : PySem.W.codeIn K cd_twin "Bed.twin" = true)
    (k_twin : PySem.W.keepIn K (.ref f_twin) = true)
    (a_tsI : PySem.W.findIn K (.ref CS) "__init__" = some (some (.ref f_tsI)))
    (i_tsI : PySem.W.isFn K (.ref f_tsI) = true)
    (l_tsI : K.lookup f_tsI = some ⟨oc_tsI, od_tsI, .func (PySem.W.fnOf "__init__" "TileSet.__init__" (defArgs sTsI) (defBody sTsI) (defScope sTsI) .none kV_tsI dc_tsI pm_tsI an_tsI (.ref c_tsI) ct_tsI), sl_tsI⟩)
    (c_tsI' : PySem.W.codeIn K (.ref c_tsI) "TileSet.__init__" = true)
    (k_tsI : PySem.W.keepIn K (.ref f_tsI) = true)
    (a_tsO : PySem.W.findIn K (.ref CS) "in_order" = some (some (.ref f_tsO)))
    (i_tsO : PySem.W.isFn K (.ref f_tsO) = true)
    (l_tsO : K.lookup f_tsO = some ⟨oc_tsO, od_tsO, .func (PySem.W.fnOf "in_order" "TileSet.in_order" (defArgs sTsO) (defBody sTsO) (defScope sTsO) .none kV_tsO dc_tsO pm_tsO an_tsO (.ref c_tsO) ct_tsO), sl_tsO⟩)
    (c_tsO' : PySem.W.codeIn K (.ref c_tsO) "TileSet.in_order" = true)
    (k_tsO : PySem.W.keepIn K (.ref f_tsO) = true)
    (a_wor : PySem.W.nsIn K mainGlobals "_law_t2_world" = some (some (.ref f_wor)))
    (l_wor : K.lookup f_wor = some ⟨oc_wor, od_wor, .func (PySem.W.fnOf "_law_t2_world" "_law_t2_world" (defArgs sWor) (defBody sWor) (defScope sWor) .none kV_wor dc_wor pm_wor an_wor (.ref c_wor) ct_wor), sl_wor⟩)
    (c_wor' : PySem.W.codeIn K (.ref c_wor) "_law_t2_world" = true)
    (k_wor : PySem.W.keepIn K (.ref f_wor) = true)
    (pg_T : PySem.W.plainGet K CT Str.empty = true)
    (hd_T : PySem.W.hasDictIn K CT = true)
    (po_T : PySem.W.plainOver K CT = true)
    (sa_T : PySem.W.findIn K (.ref CT) "__setattr__" = some (some (.builtin "object.__setattr__")))
    (mk_T : PySem.W.makesIn K CT = true)
    (kc_T : PySem.W.keepIn K (.ref CT) = true)
    (nT_name : PySem.W.findIn K (.ref CT) "name" = some none)
    (nT_west : PySem.W.findIn K (.ref CT) "west" = some none)
    (nT_south : PySem.W.findIn K (.ref CT) "south" = some none)
    (nT_east : PySem.W.findIn K (.ref CT) "east" = some none)
    (nT_north : PySem.W.findIn K (.ref CT) "north" = some none)
    (pg_S : PySem.W.plainGet K CS Str.empty = true)
    (hd_S : PySem.W.hasDictIn K CS = true)
    (po_S : PySem.W.plainOver K CS = true)
    (sa_S : PySem.W.findIn K (.ref CS) "__setattr__" = some (some (.builtin "object.__setattr__")))
    (mk_S : PySem.W.makesIn K CS = true)
    (kc_S : PySem.W.keepIn K (.ref CS) = true)
    (nS_tiles : PySem.W.findIn K (.ref CS) "tiles" = some none)
    (nS_tiles_by_name : PySem.W.findIn K (.ref CS) "tiles_by_name" = some none)
    (nS_ordered_names : PySem.W.findIn K (.ref CS) "ordered_names" = some none)
    (nS_ranks : PySem.W.findIn K (.ref CS) "ranks" = some none)
    (nS_names_by_glue : PySem.W.findIn K (.ref CS) "names_by_glue" = some none)
    (pg_B : PySem.W.plainGet K CB Str.empty = true)
    (hd_B : PySem.W.hasDictIn K CB = true)
    (po_B : PySem.W.plainOver K CB = true)
    (sa_B : PySem.W.findIn K (.ref CB) "__setattr__" = some (some (.builtin "object.__setattr__")))
    (mk_B : PySem.W.makesIn K CB = true)
    (kc_B : PySem.W.keepIn K (.ref CB) = true)
    (nB_tile_set : PySem.W.findIn K (.ref CB) "tile_set" = some none)
    (nB_seed_place : PySem.W.findIn K (.ref CB) "seed_place" = some none)
    (nB_seed_name : PySem.W.findIn K (.ref CB) "seed_name" = some none)
    (nB_lying : PySem.W.findIn K (.ref CB) "lying" = some none)
    (nB_coming : PySem.W.findIn K (.ref CB) "coming" = some none)
    (z_isinstance : PySem.W.nsIn K mainGlobals "isinstance" = some none)
    (z_int : PySem.W.nsIn K mainGlobals "int" = some none)
    (z_bool : PySem.W.nsIn K mainGlobals "bool" = some none)
    (z_tuple : PySem.W.nsIn K mainGlobals "tuple" = some none)
    (z_len : PySem.W.nsIn K mainGlobals "len" = some none)
    (z_all : PySem.W.nsIn K mainGlobals "all" = some none)
    (z_list : PySem.W.nsIn K mainGlobals "list" = some none)
    (z_sorted : PySem.W.nsIn K mainGlobals "sorted" = some none)
    (z_range : PySem.W.nsIn K mainGlobals "range" = some none)
    (z_enumerate : PySem.W.nsIn K mainGlobals "enumerate" = some none)
    (z_repr : PySem.W.nsIn K mainGlobals "repr" = some none)
    (z_str : PySem.W.nsIn K mainGlobals "str" = some none)
    (z_sum : PySem.W.nsIn K mainGlobals "sum" = some none)
    (z_set : PySem.W.nsIn K mainGlobals "set" = some none)
    (h_tsI : PySem.W.codeHdIn K c_tsI p_tsI = true)
    (h_tsO : PySem.W.codeHdIn K c_tsO p_tsO = true)
    (h_wor : PySem.W.codeHdIn K c_wor p_wor = true)
    (nt_tsI : K.lookup p_tsI = none)
    (nt_tsO : K.lookup p_tsO = none)
    (nt_wor : K.lookup p_wor = none)
    (t_tsI : h.get? p_tsI = some { cls := .none, data := .fields #[] }) (t_tsO : h.get? p_tsO = some { cls := .none, data := .fields #[] }) (t_wor : h.get? p_wor = some { cls := .none, data := .fields #[] }) (ne1 : p_tsI ≠ p_tsO) (ne2 : p_tsI ≠ p_wor) (ne3 : p_tsO ≠ p_wor) :
    LawAtG l w K 11 63 "_law_script" mg fa h := by
  have e := hfa.symm.trans (PySem.W.mg_of X G a_law)
  cases e
  have F_isInt := topF_mk (st := sIsInt) (ps := ["value"]) X G a_isInt l_isInt c_isInt' k_isInt fun _ _ _ _ _ _ us hl => match us, hl with | [_], _ => rfl
  have F_isPl := topF_mk (st := sIsPl) (ps := ["value"]) X G a_isPl l_isPl c_isPl' k_isPl fun _ _ _ _ _ _ us hl => match us, hl with | [_], _ => rfl
  have F_isGl := topF_mk (st := sIsGl) (ps := ["value"]) X G a_isGl l_isGl c_isGl' k_isGl fun _ _ _ _ _ _ us hl => match us, hl with | [_], _ => rfl
  have F_ckPl := topF_mk (st := sCkPl) (ps := ["value"]) X G a_ckPl l_ckPl c_ckPl' k_ckPl fun _ _ _ _ _ _ us hl => match us, hl with | [_], _ => rfl
  have F_ckSd := topF_mk (st := sCkSd) (ps := ["value"]) X G a_ckSd l_ckSd c_ckSd' k_ckSd fun _ _ _ _ _ _ us hl => match us, hl with | [_], _ => rfl
  have F_bes := topF_mk (st := sBes) (ps := ["place"]) X G a_bes l_bes c_bes' k_bes fun _ _ _ _ _ _ us hl => match us, hl with | [_], _ => rfl
  have F_pen := topF_mk (st := sPen) (ps := ["_law_script"]) X G a_pen l_pen c_pen' k_pen fun _ _ _ _ _ _ us hl => match us, hl with | [_], _ => rfl
  have F_draw := topF_mk (st := sDraw) (ps := ["_law_pen_here", "_law_many"]) X G a_draw l_draw c_draw' k_draw fun _ _ _ _ _ _ us hl => match us, hl with | [_, _], _ => rfl
  have F_pick := topF_mk (st := sPick) (ps := ["_law_pen_here", "_law_some"]) X G a_pick l_pick c_pick' k_pick fun _ _ _ _ _ _ us hl => match us, hl with | [_, _], _ => rfl
  have F_shuf := topF_mk (st := sShuf) (ps := ["_law_pen_here", "_law_some"]) X G a_shuf l_shuf c_shuf' k_shuf fun _ _ _ _ _ _ us hl => match us, hl with | [_, _], _ => rfl
  have F_next := topF_mk (st := sNext) (ps := ["_law_place", "_law_side"]) X G a_next l_next c_next' k_next fun _ _ _ _ _ _ us hl => match us, hl with | [_, _], _ => rfl
  have F_dat := topF_mk (st := sDat) (ps := ["_law_pen_here", "_law_serial"]) X G a_dat l_dat c_dat' k_dat fun _ _ _ _ _ _ us hl => match us, hl with | [_, _], _ => rfl
  have F_pat := topF_mk (st := sPat) (ps := ["_law_pen_here", "_law_many"]) X G a_pat l_pat c_pat' k_pat fun _ _ _ _ _ _ us hl => match us, hl with | [_, _], _ => rfl
  have F_edge := topF_mk (st := sEdge) (ps := ["_law_pen_here", "_law_cells", "_law_mixture"]) X G a_edge l_edge c_edge' k_edge fun _ _ _ _ _ _ us hl => match us, hl with | [_, _, _], _ => rfl
  have F_out := topF_mk (st := sOut) (ps := ["_law_pen_here", "_law_mixture"]) X G a_out l_out c_out' k_out fun _ _ _ _ _ _ us hl => match us, hl with | [_, _], _ => rfl
  have F_late := topF_mk (st := sLate) (ps := ["_law_glues", "_law_cells", "_law_at"]) X G a_late l_late c_late' k_late fun _ _ _ _ _ _ us hl => match us, hl with | [_, _, _], _ => rfl
  have F_made := topF_mk (st := sMade) (ps := ["_law_pen_here", "_law_own"]) X G a_made l_made c_made' k_made fun _ _ _ _ _ _ us hl => match us, hl with | [_, _], _ => rfl
  have F_lb := topF_mk (st := sLB) (ps := ["_law_own", "_law_bed", "_law_place", "_law_name"]) X G a_lb l_lb c_lb' k_lb fun _ _ _ _ _ _ us hl => match us, hl with | [_, _, _, _], _ => rfl
  have F_lf := topF_mk (st := sLF) (ps := ["_law_own", "_law_bed", "_law_place"]) X G a_lf l_lf c_lf' k_lf fun _ _ _ _ _ _ us hl => match us, hl with | [_, _, _], _ => rfl
  have F_lm := topF_mk (st := sLM) (ps := ["_law_own", "_law_bed"]) X G a_lm l_lm c_lm' k_lm fun _ _ _ _ _ _ us hl => match us, hl with | [_, _], _ => rfl
  have F_near := topF_mk (st := sNear) (ps := ["_law_pen_here", "_law_own", "_law_bed"]) X G a_near l_near c_near' k_near fun _ _ _ _ _ _ us hl => match us, hl with | [_, _, _], _ => rfl
  have F_dis := topF_mk (st := sDis) (ps := ["_law_pen_here", "_law_own", "_law_bed", "_law_told", "_law_many"]) X G a_dis l_dis c_dis' k_dis fun _ _ _ _ _ _ us hl => match us, hl with | [_, _, _, _, _], _ => rfl
  have F_alike := topF_mk (st := sAlike) (ps := ["_law_one", "_law_two"]) X G a_alike l_alike c_alike' k_alike fun _ _ _ _ _ _ us hl => match us, hl with | [_, _], _ => rfl
  have F_stays := topF_mk (st := sStays) (ps := ["_law_before", "_law_behind", "_law_place"]) X G a_stays l_stays c_stays' k_stays fun _ _ _ _ _ _ us hl => match us, hl with | [_, _, _], _ => rfl
  have F_laid := topF_mk (st := sLaid) (ps := ["_law_made", "_law_own", "_law_pairs"]) X G a_laid l_laid c_laid' k_laid fun _ _ _ _ _ _ us hl => match us, hl with | [_, _, _], _ => rfl
  have F_law := topF_mk (st := sLaw) (ps := ["_law_script"]) X G a_law l_law c_law' k_law fun _ _ _ _ _ _ us hl => match us, hl with | [_], _ => rfl
  have F_tiI := metF_mk (st := sTiI) (ps := ["self", "name", "west", "south", "east", "north"]) a_tiI i_tiI l_tiI c_tiI' k_tiI fun _ _ _ _ _ _ us hl => match us, hl with | [_, _, _, _, _, _], _ => rfl
  have F_tiG := metF_mk (st := sTiG) (ps := ["self", "side"]) a_tiG i_tiG l_tiG c_tiG' k_tiG fun _ _ _ _ _ _ us hl => match us, hl with | [_, _], _ => rfl
  have F_tsOf := metF_mk (st := sTsOf) (ps := ["self", "name"]) a_tsOf i_tsOf l_tsOf c_tsOf' k_tsOf fun _ _ _ _ _ _ us hl => match us, hl with | [_, _], _ => rfl
  have F_tsW := metF_mk (st := sTsW) (ps := ["self", "side", "glue"]) a_tsW i_tsW l_tsW c_tsW' k_tsW fun _ _ _ _ _ _ us hl => match us, hl with | [_, _, _], _ => rfl
  have F_bI := metF_mk (st := sBI) (ps := ["self", "tile_set", "seed_place", "seed_name"]) a_bI i_bI l_bI c_bI' k_bI fun _ _ _ _ _ _ us hl => match us, hl with | [_, _, _, _], _ => rfl
  have F_pairs := metF_mk (st := sPairs) (ps := ["self"]) a_pairs i_pairs l_pairs c_pairs' k_pairs fun _ _ _ _ _ _ us hl => match us, hl with | [_], _ => rfl
  have F_many := metF_mk (st := sMany) (ps := ["self"]) a_many i_many l_many c_many' k_many fun _ _ _ _ _ _ us hl => match us, hl with | [_], _ => rfl
  have F_bonds := metF_mk (st := sBonds) (ps := ["self", "place", "name"]) a_bonds i_bonds l_bonds c_bonds' k_bonds fun _ _ _ _ _ _ us hl => match us, hl with | [_, _, _], _ => rfl
  have F_show := metF_mk (st := sShow) (ps := ["self", "place"]) a_show i_show l_show c_show' k_show fun _ _ _ _ _ _ us hl => match us, hl with | [_, _], _ => rfl
  have F_fit := metF_mk (st := sFit) (ps := ["self", "place"]) a_fit i_fit l_fit c_fit' k_fit fun _ _ _ _ _ _ us hl => match us, hl with | [_, _], _ => rfl
  have F_may := metF_mk (st := sMay) (ps := ["self"]) a_may i_may l_may c_may' k_may fun _ _ _ _ _ _ us hl => match us, hl with | [_], _ => rfl
  have F_emp := metF_mk (st := sEmp) (ps := ["self", "place", "name"]) a_emp i_emp l_emp c_emp' k_emp fun _ _ _ _ _ _ us hl => match us, hl with | [_, _, _], _ => rfl
  have F_come := metF_mk (st := sCome) (ps := ["self", "place", "name"]) a_come i_come l_come c_come' k_come fun _ _ _ _ _ _ us hl => match us, hl with | [_, _, _], _ => rfl
  have F_slip := metF_mk (st := sSlip) (ps := ["self", "place", "name"]) a_slip i_slip l_slip c_slip' k_slip fun _ _ _ _ _ _ us hl => match us, hl with | [_, _, _], _ => rfl
  have F_cut := metF_mk (st := sCut) (ps := ["self", "places"]) a_cut i_cut l_cut c_cut' k_cut fun _ _ _ _ _ _ us hl => match us, hl with | [_, _], _ => rfl
  have F_lay := metF_mk (st := sLay) (ps := ["self", "place", "name"]) a_lay i_lay l_lay c_lay' k_lay fun _ _ _ _ _ _ us hl => match us, hl with | [_, _, _], _ => rfl
  have F_twin := metF_mk (st := sTwin) (ps := ["self"]) a_twin i_twin l_twin c_twin' k_twin fun _ _ _ _ _ _ us hl => match us, hl with | [_], _ => rfl
  have F_tsI := funC_mk (st := sTsI) l_tsI c_tsI' k_tsI
  have b_tsI := F_tsI.fun.binds (ps := ["self", "tiles"]) fun _ _ _ _ _ _ us hl => match us, hl with | [_, _], _ => rfl
  have F_tsO := funC_mk (st := sTsO) l_tsO c_tsO' k_tsO
  have b_tsO := F_tsO.fun.binds (ps := ["self", "names"]) fun _ _ _ _ _ _ us hl => match us, hl with | [_, _], _ => rfl
  have F_wor := funC_mk (st := sWor) l_wor c_wor' k_wor
  have b_wor := F_wor.fun.binds (ps := ["_law_pen_here", "_law_many", "_law_mixture"]) fun _ _ _ _ _ _ us hl => match us, hl with | [_, _, _], _ => rfl
  have B : Blt mg := ⟨PySem.W.mg_none_of X G z_isinstance, PySem.W.mg_none_of X G z_int, PySem.W.mg_none_of X G z_bool, PySem.W.mg_none_of X G z_tuple, PySem.W.mg_none_of X G z_len, PySem.W.mg_none_of X G z_all, PySem.W.mg_none_of X G z_list, PySem.W.mg_none_of X G z_sorted, PySem.W.mg_none_of X G z_range, PySem.W.mg_none_of X G z_enumerate, PySem.W.mg_none_of X G z_repr, PySem.W.mg_none_of X G z_str, PySem.W.mg_none_of X G z_sum, PySem.W.mg_none_of X G z_set⟩
  have XT : TxtT K mg CT := ⟨⟨pg_T, hd_T, po_T, sa_T⟩, PySem.W.mg_of X G aC_T, nT_name, nT_west, nT_south, nT_east, nT_north⟩
  have XS : TxtS K mg CS := ⟨⟨pg_S, hd_S, po_S, sa_S⟩, PySem.W.mg_of X G aC_S, nS_tiles, nS_tiles_by_name, nS_ordered_names, nS_ranks, nS_names_by_glue⟩
  have XB : TxtB K mg CB := ⟨⟨pg_B, hd_B, po_B, sa_B⟩, PySem.W.mg_of X G aC_B, nB_tile_set, nB_seed_place, nB_seed_name, nB_lying, nB_coming⟩
  obtain ⟨T, eT⟩ : ∃ T : Tb, T = [(p_tsI, qI), (p_tsO, qO), (p_wor, qW)] := ⟨_, rfl⟩
  have three : ∀ {Q : Addr × Addr → Prop}, Q (c_tsI, p_tsI) → Q (c_tsO, p_tsO) → Q (c_wor, p_wor) → ∀ p ∈ ([(c_tsI, p_tsI), (c_tsO, p_tsO), (c_wor, p_wor)] : List (Addr × Addr)), Q p := fun h1 h2 h3 p hp => by
    rcases List.mem_cons.mp hp with z | hp
    · rw [z]; exact h1
    · rcases List.mem_cons.mp hp with z | hp
      · rw [z]; exact h2
      · rw [List.mem_singleton.mp hp]; exact h3
  have threeT : ∀ {Q : Addr × Str → Prop}, Q (p_tsI, qI) → Q (p_tsO, qO) → Q (p_wor, qW) → ∀ p ∈ T, Q p := fun h1 h2 h3 p hp => by
    rw [eT] at hp
    rcases List.mem_cons.mp hp with z | hp
    · rw [z]; exact h1
    · rcases List.mem_cons.mp hp with z | hp
      · rw [z]; exact h2
      · rw [List.mem_singleton.mp hp]; exact h3
  refine ⟨PySem.W.fnOf "law" "law" (defArgs sLaw) (defBody sLaw) (defScope sLaw) .none kV_law dc_law pm_law an_law cd_law ct_law, [(c_tsI, p_tsI), (c_tsO, p_tsO), (c_wor, p_wor)], spLaw K T, three t_tsI t_tsO t_wor, three nt_tsI nt_tsO nt_wor, three (PySem.W.codeHd_of_K X h_tsI) (PySem.W.codeHd_of_K X h_tsO) (PySem.W.codeHd_of_K X h_wor), fun s u => .of_eq rfl, fun H a ns hl _ hH hS => ⟨a, ns, rfl, hS, hl, threeT (tabS_nil (hH (c_tsI, p_tsI) (by simp))) (tabS_nil (hH (c_tsO, p_tsO) (by simp))) (tabS_nil (hH (c_wor, p_wor) (by simp))), fun _ => rfl⟩, fun base _ _ hb => ?_⟩
  have L_tsI : LamT T base mg qI c_tsI p_tsI := ⟨hb (c_tsI, p_tsI) (by simp), by rw [eT]; simp, threeT (fun _ => rfl) (fun z => absurd z.symm ne1) (fun z => absurd z.symm ne2)⟩
  have L_tsO : LamT T base mg qO c_tsO p_tsO := ⟨hb (c_tsO, p_tsO) (by simp), by rw [eT]; simp, threeT (fun z => absurd z ne1) (fun _ => rfl) (fun z => absurd z.symm ne3)⟩
  have L_wor : LamT T base mg qW c_wor p_wor := ⟨hb (c_wor, p_wor) (by simp), by rw [eT]; simp, threeT (fun z => absurd z ne2) (fun z => absurd z ne3) (fun _ => rfl)⟩
  exact law_all T B XT XS XB F_isInt F_isPl F_isGl F_ckPl F_ckSd F_bes F_pen F_draw F_pick F_shuf F_next F_dat F_pat F_edge F_out F_late F_made F_lb F_lf F_lm F_near F_dis F_alike F_stays F_laid F_law F_tiI F_tiG F_tsOf F_tsW F_bI F_pairs F_many F_bonds F_show F_fit F_may F_emp F_come F_slip F_cut F_lay F_twin F_tsI b_tsI L_tsI F_tsO b_tsO L_tsO F_wor b_wor L_wor ⟨mk_T, F_tiI.me.at_, F_tiI.me.fn, kc_T⟩ ⟨mk_S, a_tsI, i_tsI, kc_S⟩ ⟨mk_B, F_bI.me.at_, F_bI.me.fn, kc_B⟩ ⟨a_tsO, i_tsO, k_tsO⟩ (PySem.W.mg_of X G a_wor)
end TG
open PySem PySem.W PyProof.Rows
set_option maxHeartbeats 0 in
theorem PySem.Challenge.cw_tilesregrow_k05_whole_comings_commute_holds : PySem.Challenge.rw_tilesregrow_k05_whole_comings_commute.Holds := by
  w_on; o_law; k_head; (case hw => w_witness2)
  k_fill
  refine TG.walk_ofG (l := PySem.Challenge.rw_tilesregrow_k05_whole_comings_commute) (n := 63) (k := 11) (x := "_law_script") rfl (by decide) rfl ⟨rfl, by decide, by decide⟩ ?F
  intro w mg fa h Y G hmg
  have KX := PySem.W.km_in_of Y
  have hT := PySem.W.km_tabs_of Y
  refine ⟨_, KX, ?_⟩
  refine' TG.law_end (p_tsI := 244) (p_tsO := 277) (p_wor := 480) KX G hmg ?aC_T ?aC_S ?aC_B ?a_isInt ?l_isInt ?c_isIntx ?k_isInt ?a_isPl ?l_isPl ?c_isPlx ?k_isPl ?a_isGl ?l_isGl ?c_isGlx ?k_isGl ?a_ckPl ?l_ckPl ?c_ckPlx ?k_ckPl ?a_ckSd ?l_ckSd ?c_ckSdx ?k_ckSd ?a_bes ?l_bes ?c_besx ?k_bes ?a_pen ?l_pen ?c_penx ?k_pen ?a_draw ?l_draw ?c_drawx ?k_draw ?a_pick ?l_pick ?c_pickx ?k_pick ?a_shuf ?l_shuf ?c_shufx ?k_shuf ?a_next ?l_next ?c_nextx ?k_next ?a_dat ?l_dat ?c_datx ?k_dat ?a_pat ?l_pat ?c_patx ?k_pat ?a_edge ?l_edge ?c_edgex ?k_edge ?a_out ?l_out ?c_outx ?k_out ?a_late ?l_late ?c_latex ?k_late ?a_made ?l_made ?c_madex ?k_made ?a_lb ?l_lb ?c_lbx ?k_lb ?a_lf ?l_lf ?c_lfx ?k_lf ?a_lm ?l_lm ?c_lmx ?k_lm ?a_near ?l_near ?c_nearx ?k_near ?a_dis ?l_dis ?c_disx ?k_dis ?a_alike ?l_alike ?c_alikex ?k_alike ?a_stays ?l_stays ?c_staysx ?k_stays ?a_laid ?l_laid ?c_laidx ?k_laid ?a_law ?l_law ?c_lawx ?k_law ?a_tiI ?i_tiI ?l_tiI ?c_tiIx ?k_tiI ?a_tiG ?i_tiG ?l_tiG ?c_tiGx ?k_tiG ?a_tsOf ?i_tsOf ?l_tsOf ?c_tsOfx ?k_tsOf ?a_tsW ?i_tsW ?l_tsW ?c_tsWx ?k_tsW ?a_bI ?i_bI ?l_bI ?c_bIx ?k_bI ?a_pairs ?i_pairs ?l_pairs ?c_pairsx ?k_pairs ?a_many ?i_many ?l_many ?c_manyx ?k_many ?a_bonds ?i_bonds ?l_bonds ?c_bondsx ?k_bonds ?a_show ?i_show ?l_show ?c_showx ?k_show ?a_fit ?i_fit ?l_fit ?c_fitx ?k_fit ?a_may ?i_may ?l_may ?c_mayx ?k_may ?a_emp ?i_emp ?l_emp ?c_empx ?k_emp ?a_come ?i_come ?l_come ?c_comex ?k_come ?a_slip ?i_slip ?l_slip ?c_slipx ?k_slip ?a_cut ?i_cut ?l_cut ?c_cutx ?k_cut ?a_lay ?i_lay ?l_lay ?c_layx ?k_lay ?a_twin ?i_twin ?l_twin ?c_twinx ?k_twin ?a_tsI ?i_tsI ?l_tsI ?c_tsIx ?k_tsI ?a_tsO ?i_tsO ?l_tsO ?c_tsOx ?k_tsO ?a_wor ?l_wor ?c_worx ?k_wor ?pg_T ?hd_T ?po_T ?sa_T ?mk_T ?kc_T ?nT_name ?nT_west ?nT_south ?nT_east ?nT_north ?pg_S ?hd_S ?po_S ?sa_S ?mk_S ?kc_S ?nS_tiles ?nS_tiles_by_name ?nS_ordered_names ?nS_ranks ?nS_names_by_glue ?pg_B ?hd_B ?po_B ?sa_B ?mk_B ?kc_B ?nB_tile_set ?nB_seed_place ?nB_seed_name ?nB_lying ?nB_coming ?z_isinstance ?z_int ?z_bool ?z_tuple ?z_len ?z_all ?z_list ?z_sorted ?z_range ?z_enumerate ?z_repr ?z_str ?z_sum ?z_set ?h_tsI ?h_tsO ?h_wor ?nt_tsI ?nt_tsO ?nt_wor ?t_tsI ?t_tsO ?t_wor ?ne1 ?ne2 ?ne3
  (case aC_T => k_is)
  (case aC_S => k_is)
  (case aC_B => k_is)
  (case a_isInt => k_is)
  (case l_isInt => k_is)
  (case c_isIntx => k_is)
  (case k_isInt => k_is)
  (case a_isPl => k_is)
  (case l_isPl => k_is)
  (case c_isPlx => k_is)
  (case k_isPl => k_is)
  (case a_isGl => k_is)
  (case l_isGl => k_is)
  (case c_isGlx => k_is)
  (case k_isGl => k_is)
  (case a_ckPl => k_is)
  (case l_ckPl => k_is)
  (case c_ckPlx => k_is)
  (case k_ckPl => k_is)
  (case a_ckSd => k_is)
  (case l_ckSd => k_is)
  (case c_ckSdx => k_is)
  (case k_ckSd => k_is)
  (case a_bes => k_is)
  (case l_bes => k_is)
  (case c_besx => k_is)
  (case k_bes => k_is)
  (case a_pen => k_is)
  (case l_pen => k_is)
  (case c_penx => k_is)
  (case k_pen => k_is)
  (case a_draw => k_is)
  (case l_draw => k_is)
  (case c_drawx => k_is)
  (case k_draw => k_is)
  (case a_pick => k_is)
  (case l_pick => k_is)
  (case c_pickx => k_is)
  (case k_pick => k_is)
  (case a_shuf => k_is)
  (case l_shuf => k_is)
  (case c_shufx => k_is)
  (case k_shuf => k_is)
  (case a_next => k_is)
  (case l_next => k_is)
  (case c_nextx => k_is)
  (case k_next => k_is)
  (case a_dat => k_is)
  (case l_dat => k_is)
  (case c_datx => k_is)
  (case k_dat => k_is)
  (case a_pat => k_is)
  (case l_pat => k_is)
  (case c_patx => k_is)
  (case k_pat => k_is)
  (case a_edge => k_is)
  (case l_edge => k_is)
  (case c_edgex => k_is)
  (case k_edge => k_is)
  (case a_out => k_is)
  (case l_out => k_is)
  (case c_outx => k_is)
  (case k_out => k_is)
  (case a_late => k_is)
  (case l_late => k_is)
  (case c_latex => k_is)
  (case k_late => k_is)
  (case a_made => k_is)
  (case l_made => k_is)
  (case c_madex => k_is)
  (case k_made => k_is)
  (case a_lb => k_is)
  (case l_lb => k_is)
  (case c_lbx => k_is)
  (case k_lb => k_is)
  (case a_lf => k_is)
  (case l_lf => k_is)
  (case c_lfx => k_is)
  (case k_lf => k_is)
  (case a_lm => k_is)
  (case l_lm => k_is)
  (case c_lmx => k_is)
  (case k_lm => k_is)
  (case a_near => k_is)
  (case l_near => k_is)
  (case c_nearx => k_is)
  (case k_near => k_is)
  (case a_dis => k_is)
  (case l_dis => k_is)
  (case c_disx => k_is)
  (case k_dis => k_is)
  (case a_alike => k_is)
  (case l_alike => k_is)
  (case c_alikex => k_is)
  (case k_alike => k_is)
  (case a_stays => k_is)
  (case l_stays => k_is)
  (case c_staysx => k_is)
  (case k_stays => k_is)
  (case a_laid => k_is)
  (case l_laid => k_is)
  (case c_laidx => k_is)
  (case k_laid => k_is)
  (case a_law => k_is)
  (case l_law => k_is)
  (case c_lawx => k_is)
  (case k_law => k_is)
  (case a_tiI => k_is)
  (case i_tiI => k_is)
  (case l_tiI => k_is)
  (case c_tiIx => k_is)
  (case k_tiI => k_is)
  (case a_tiG => k_is)
  (case i_tiG => k_is)
  (case l_tiG => k_is)
  (case c_tiGx => k_is)
  (case k_tiG => k_is)
  (case a_tsOf => k_is)
  (case i_tsOf => k_is)
  (case l_tsOf => k_is)
  (case c_tsOfx => k_is)
  (case k_tsOf => k_is)
  (case a_tsW => k_is)
  (case i_tsW => k_is)
  (case l_tsW => k_is)
  (case c_tsWx => k_is)
  (case k_tsW => k_is)
  (case a_bI => k_is)
  (case i_bI => k_is)
  (case l_bI => k_is)
  (case c_bIx => k_is)
  (case k_bI => k_is)
  (case a_pairs => k_is)
  (case i_pairs => k_is)
  (case l_pairs => k_is)
  (case c_pairsx => k_is)
  (case k_pairs => k_is)
  (case a_many => k_is)
  (case i_many => k_is)
  (case l_many => k_is)
  (case c_manyx => k_is)
  (case k_many => k_is)
  (case a_bonds => k_is)
  (case i_bonds => k_is)
  (case l_bonds => k_is)
  (case c_bondsx => k_is)
  (case k_bonds => k_is)
  (case a_show => k_is)
  (case i_show => k_is)
  (case l_show => k_is)
  (case c_showx => k_is)
  (case k_show => k_is)
  (case a_fit => k_is)
  (case i_fit => k_is)
  (case l_fit => k_is)
  (case c_fitx => k_is)
  (case k_fit => k_is)
  (case a_may => k_is)
  (case i_may => k_is)
  (case l_may => k_is)
  (case c_mayx => k_is)
  (case k_may => k_is)
  (case a_emp => k_is)
  (case i_emp => k_is)
  (case l_emp => k_is)
  (case c_empx => k_is)
  (case k_emp => k_is)
  (case a_come => k_is)
  (case i_come => k_is)
  (case l_come => k_is)
  (case c_comex => k_is)
  (case k_come => k_is)
  (case a_slip => k_is)
  (case i_slip => k_is)
  (case l_slip => k_is)
  (case c_slipx => k_is)
  (case k_slip => k_is)
  (case a_cut => k_is)
  (case i_cut => k_is)
  (case l_cut => k_is)
  (case c_cutx => k_is)
  (case k_cut => k_is)
  (case a_lay => k_is)
  (case i_lay => k_is)
  (case l_lay => k_is)
  (case c_layx => k_is)
  (case k_lay => k_is)
  (case a_twin => k_is)
  (case i_twin => k_is)
  (case l_twin => k_is)
  (case c_twinx => k_is)
  (case k_twin => k_is)
  (case a_tsI => k_is)
  (case i_tsI => k_is)
  (case l_tsI => k_is)
  (case c_tsIx => k_is)
  (case k_tsI => k_is)
  (case a_tsO => k_is)
  (case i_tsO => k_is)
  (case l_tsO => k_is)
  (case c_tsOx => k_is)
  (case k_tsO => k_is)
  (case a_wor => k_is)
  (case l_wor => k_is)
  (case c_worx => k_is)
  (case k_wor => k_is)
  (case pg_T => k_is)
  (case hd_T => k_is)
  (case po_T => k_is)
  (case sa_T => k_is)
  (case mk_T => k_is)
  (case kc_T => k_is)
  (case nT_name => k_is)
  (case nT_west => k_is)
  (case nT_south => k_is)
  (case nT_east => k_is)
  (case nT_north => k_is)
  (case pg_S => k_is)
  (case hd_S => k_is)
  (case po_S => k_is)
  (case sa_S => k_is)
  (case mk_S => k_is)
  (case kc_S => k_is)
  (case nS_tiles => k_is)
  (case nS_tiles_by_name => k_is)
  (case nS_ordered_names => k_is)
  (case nS_ranks => k_is)
  (case nS_names_by_glue => k_is)
  (case pg_B => k_is)
  (case hd_B => k_is)
  (case po_B => k_is)
  (case sa_B => k_is)
  (case mk_B => k_is)
  (case kc_B => k_is)
  (case nB_tile_set => k_is)
  (case nB_seed_place => k_is)
  (case nB_seed_name => k_is)
  (case nB_lying => k_is)
  (case nB_coming => k_is)
  (case z_isinstance => k_is)
  (case z_int => k_is)
  (case z_bool => k_is)
  (case z_tuple => k_is)
  (case z_len => k_is)
  (case z_all => k_is)
  (case z_list => k_is)
  (case z_sorted => k_is)
  (case z_range => k_is)
  (case z_enumerate => k_is)
  (case z_repr => k_is)
  (case z_str => k_is)
  (case z_sum => k_is)
  (case z_set => k_is)
  (case h_tsI => kernel_rfl)
  (case h_tsO => kernel_rfl)
  (case h_wor => kernel_rfl)
  (case nt_tsI => kernel_rfl)
  (case nt_tsO => kernel_rfl)
  (case nt_wor => kernel_rfl)
  (case t_tsI => exact hT _ (by decide))
  (case t_tsO => exact hT _ (by decide))
  (case t_wor => exact hT _ (by decide))
  (case ne1 => decide)
  (case ne2 => decide)
  (case ne3 => decide)
